/-
  What functions of the program answer, as numbers of what they are handed: their runs by the engine, the plain statements behind them. No condition.
-/
import Derived.Test.YtemcjakecoceaaaGreatDoorKa
import Derived.Test.YtemcjakecoceaaaGreatDoorGab
import Derived.Test.YtemcjakecoceaaaGreatDoorGmT
import Derived.Test.YtemcjakecoceaaaGreatDoorGmC
import Derived.Test.YtemcjakecoceaaaGreatDoorGmE
import Derived.Test.YtemcjakecoceaaaGreatDoorGmH
import Derived.Test.YtemcjakecoceaaaGreatDoorGmI
import Derived.Test.YtemcjakecoceaaaGreatDoorGmL
import Derived.Test.YtemcjakecoceaaaGreatDoorGmD
set_option linter.unusedVariables false
set_option linter.unusedSimpArgs false
set_option maxRecDepth 100000
namespace Go.Proofs.YtemcjakecoceaaaGreatDoor
open Go.Eng Go.RowKit
namespace CTFirst
def rc : Rc := ⟨12, [none, none], [.row [.int .i64, .int .i64, .int .i64] 1000000, .row [.int .i64, .int .i64, .int .i64] 1000000], [], .one, [.int .i64 (.f 37 (.v 2) (.v 3) (listE [(.v 0), (.v 1)]))]⟩
theorem okb : rc.ok = true := by kernel_rfl
noncomputable def us : SMs := fun Γ ins n => smH (cxG n Γ ins) [] (smR (cxG n Γ ins) [])
theorem us_ok : SMsOk us := fun Γ ins n => smH_ok (tabsG n Γ ins) (rhs_nil _) (smR_ok (tabsG n Γ ins) (rcs_nil _))
def tree : TT (List E) :=
(.loop ⟨1000, [some (0, 4611686018427387904)], [(.c 0)], 1008⟩
 (.br (.b .lt .i64 (.cl 1000 0 4611686018427387904) (.b .min .i64 (.v 0) (.v 1)))
 (.br (.b .lt .i64 (.cl 1000 0 4611686018427387904) (.v 0))
 (.new 1002 (.w .i64 (.f 13 (.f 13 (.v 2) (.cl 1000 0 4611686018427387904) (.c 0)) (.c 0) (.c 0)))
 (.new 1003 (.w .i64 (.f 13 (.f 13 (.v 2) (.cl 1000 0 4611686018427387904) (.c 0)) (.c 1) (.c 0)))
 (.new 1004 (.w .i64 (.f 13 (.f 13 (.v 2) (.cl 1000 0 4611686018427387904) (.c 0)) (.c 2) (.c 0)))
 (.br (.b .lt .i64 (.cl 1000 0 4611686018427387904) (.v 1))
 (.new 1005 (.w .i64 (.f 13 (.f 13 (.v 3) (.cl 1000 0 4611686018427387904) (.c 0)) (.c 0) (.c 0)))
 (.new 1006 (.w .i64 (.f 13 (.f 13 (.v 3) (.cl 1000 0 4611686018427387904) (.c 0)) (.c 1) (.c 0)))
 (.new 1007 (.w .i64 (.f 13 (.f 13 (.v 3) (.cl 1000 0 4611686018427387904) (.c 0)) (.c 2) (.c 0)))
 (.br (.nt (.ite (.b .eq .i64 (.cl 1002 (-9223372036854775808) 9223372036854775807) (.cl 1005 (-9223372036854775808) 9223372036854775807)) (.ite (.b .eq .i64 (.cl 1003 (-9223372036854775808) 9223372036854775807) (.cl 1006 (-9223372036854775808) 9223372036854775807)) (.b .eq .i64 (.cl 1004 (-9223372036854775808) 9223372036854775807) (.cl 1007 (-9223372036854775808) 9223372036854775807)) (.c 0)) (.c 0)))
 (.exit 0)
 (.br (.b .le .i64 (.b .padd .i64 (.cl 1000 0 4611686018427387904) (.c 1)) (.c 4611686018427387904))
 (.back [(.b .padd .i64 (.cl 1000 0 4611686018427387904) (.c 1))])
 (.bad 303))))))
 (.bad 200)))))
 (.bad 200))
 (.exit 1))
 (.br (.b .eq .i64 (.v 1008) (.c 0))
 (.leaf [(.cl 1000 0 4611686018427387904)])
 (.br (.b .ne .i64 (.v 0) (.v 1))
 (.leaf [(.b .min .i64 (.v 0) (.v 1))])
 (.leaf [(.c (-1))]))))
def P (n0 n1 c0 c1 r0 r1 : Int) : Prop :=
 ∃ I1000 : Int → Nat → Prop, (∃ m, I1000 0 m) ∧
 ∀ y1000 : Int, ∀ m1000, ((0 ≤ y1000 ∧ y1000 ≤ 4611686018427387904) ∧ True) → I1000 y1000 m1000 →
  (((bool01 (decide (y1000 < (minZ n0 n1)))) ≠ 0 →
   (((bool01 (decide (y1000 < n0))) ≠ 0 →
    ∀ y1002 : Int, y1002 = (IntKind.wrap .i64 (rdZ (rdZ c0 y1000) 0)) → ((-9223372036854775808) ≤ y1002 ∧ y1002 ≤ 9223372036854775807) →
    ∀ y1003 : Int, y1003 = (IntKind.wrap .i64 (rdZ (rdZ c0 y1000) 1)) → ((-9223372036854775808) ≤ y1003 ∧ y1003 ≤ 9223372036854775807) →
    ∀ y1004 : Int, y1004 = (IntKind.wrap .i64 (rdZ (rdZ c0 y1000) 2)) → ((-9223372036854775808) ≤ y1004 ∧ y1004 ≤ 9223372036854775807) →
    (((bool01 (decide (y1000 < n1))) ≠ 0 →
     ∀ y1005 : Int, y1005 = (IntKind.wrap .i64 (rdZ (rdZ c1 y1000) 0)) → ((-9223372036854775808) ≤ y1005 ∧ y1005 ≤ 9223372036854775807) →
     ∀ y1006 : Int, y1006 = (IntKind.wrap .i64 (rdZ (rdZ c1 y1000) 1)) → ((-9223372036854775808) ≤ y1006 ∧ y1006 ≤ 9223372036854775807) →
     ∀ y1007 : Int, y1007 = (IntKind.wrap .i64 (rdZ (rdZ c1 y1000) 2)) → ((-9223372036854775808) ≤ y1007 ∧ y1007 ≤ 9223372036854775807) →
     (((bool01 ((iteZ (bool01 (y1002 == y1005)) (iteZ (bool01 (y1003 == y1006)) (bool01 (y1004 == y1007)) 0) 0) == 0)) ≠ 0 →
      (((bool01 ((0 : Int) == 0)) ≠ 0 →
       (y1000 : Int) = (firstZ c0 c1 (consZ n0 (consZ n1 0))) ∧ True) ∧ ((bool01 ((0 : Int) == 0)) = 0 →
       (((bool01 (n0 != n1)) ≠ 0 →
        ((minZ n0 n1) : Int) = (firstZ c0 c1 (consZ n0 (consZ n1 0))) ∧ True) ∧ ((bool01 (n0 != n1)) = 0 →
        ((-1) : Int) = (firstZ c0 c1 (consZ n0 (consZ n1 0))) ∧ True))))) ∧ ((bool01 ((iteZ (bool01 (y1002 == y1005)) (iteZ (bool01 (y1003 == y1006)) (bool01 (y1004 == y1007)) 0) 0) == 0)) = 0 →
      (((bool01 (decide ((y1000 + 1) ≤ 4611686018427387904))) ≠ 0 →
       ∃ m', m' < m1000 ∧ I1000 (y1000 + 1) m') ∧ ((bool01 (decide ((y1000 + 1) ≤ 4611686018427387904))) = 0 →
       False))))) ∧ ((bool01 (decide (y1000 < n1))) = 0 →
     False))) ∧ ((bool01 (decide (y1000 < n0))) = 0 →
    False))) ∧ ((bool01 (decide (y1000 < (minZ n0 n1)))) = 0 →
   (((bool01 ((1 : Int) == 0)) ≠ 0 →
    (y1000 : Int) = (firstZ c0 c1 (consZ n0 (consZ n1 0))) ∧ True) ∧ ((bool01 ((1 : Int) == 0)) = 0 →
    (((bool01 (n0 != n1)) ≠ 0 →
     ((minZ n0 n1) : Int) = (firstZ c0 c1 (consZ n0 (consZ n1 0))) ∧ True) ∧ ((bool01 (n0 != n1)) = 0 →
     ((-1) : Int) = (firstZ c0 c1 (consZ n0 (consZ n1 0))) ∧ True))))))
theorem holds (n0 n1 c0 c1 r0 r1 : Int) (l_n0 : 0 ≤ n0) (u_n0 : n0 ≤ 1000000) (l_n1 : 0 ≤ n1) (u_n1 : n1 ≤ 1000000) (h_n0 : n0 ≤ r0) (h_n1 : n1 ≤ r1) : P n0 n1 c0 c1 r0 r1 := by
 unfold P
 simp only [nrm, Int.reduceEq, Int.reduceNeg, reduceIte, mk_fold, mark_ne]
 refine ⟨fun i m => (∀ j : Nat, (j : Int) < i → ¬ diffAt c0 c1 n0 n1 j) ∧ i ≤ minZ n0 n1 ∧ m = (n0 - i).toNat, ⟨_, fun j h => by omega, by unfold minZ; split <;> omega, rfl⟩, fun i m hb hI => ?_⟩
 obtain ⟨hl, hi, rfl⟩ := hI
 have hi0 := nat_i hb.1
 have hmin : minZ n0 n1 ≤ n0 ∧ minZ n0 n1 ≤ n1 ∧ (minZ n0 n1 = n0 ∨ minZ n0 n1 = n1) := by unfold minZ; split <;> omega
 refine ⟨fun h1 => ⟨fun h2 y2 e2 _ y3 e3 _ y4 e4 _ => ⟨fun h3 y5 e5 _ y6 e6 _ y7 e7 _ => ⟨fun h4 => ?_, fun h4 => ?_⟩, fun h3 => by omega⟩, fun h2 => by omega⟩, fun h1 => ?_⟩
 ·refine firstZ_some hb.1 ?_ (.inl h2) hl
  unfold diffAt
  rw [hi0]
  subst e2; subst e3; subst e4; subst e5; subst e6; subst e7
  exact .inr (.inr h4)
 ·refine ⟨fun h5 => ⟨_, ?_, ?_, by omega, rfl⟩, fun h5 => by omega⟩
  ·omega
  ·intro j hj
   by_cases e : (j : Int) = i
   ·subst e2; subst e3; subst e4; subst e5; subst e6; subst e7
    unfold diffAt
    rw [e]
    rintro (h | h | h)
    ·omega
    ·omega
    ·exact h4 h
   ·exact hl j (by omega)
 ·refine ⟨fun h2 => ?_, fun h2 => ?_⟩
  ·refine firstZ_some (by omega) ?_ (by omega) (fun j hj => hl j (by omega))
   unfold diffAt; omega
  ·exact firstZ_none h2 fun j hj => hl j (by omega)
theorem plain (i v ro p) : statR 2 rc tree ⟨i, fN, v, ro, p⟩ = P (i 0) (i 1) (i 2) (i 3) (i 4) (i 5) := by kernel_rfl
theorem ran : ranR us (fun _ _ => .auto) rc 2 tree = true := by kernel_rfl
theorem fineT : fineR 2 rc tree = true := by kernel_rfl
theorem ok : RcOk (cxOf 2) rc := okR us_ok ran fineT okb fun i v ro p hρ hcap hpre => by rw [plain]; have q := hρ.hi; exact holds (i 0) (i 1) (i 2) (i 3) (i 4) (i 5) (q 0 _ rfl).1 (q 0 _ rfl).2 (q 1 _ rfl).1 (q 1 _ rfl).2 (hcap _ (mg 0 rfl)) (hcap _ (mg 1 rfl))
end CTFirst
namespace CTCost
def rc : Rc := ⟨13, [none], [.row [.int .i64, .int .i64, .int .i64] 1000000], [], .one, [.int .i64 (.f 35 (.v 1) (.v 0) (.c 0))]⟩
theorem okb : rc.ok = true := by kernel_rfl
noncomputable def us : SMs := fun Γ ins n => smH (cxG n Γ ins) [] (smR (cxG n Γ ins) [])
theorem us_ok : SMsOk us := fun Γ ins n => smH_ok (tabsG n Γ ins) (rhs_nil _) (smR_ok (tabsG n Γ ins) (rcs_nil _))
def tree : TT (List E) :=
(.loop ⟨1000, [some (-9223372036854775808, 9223372036854775807), some (0, 4611686018427387904)], [(.c 0), (.c 0)], 1003⟩
 (.br (.b .lt .i64 (.cl 1001 0 4611686018427387904) (.v 0))
 (.br (.b .le .i64 (.b .padd .i64 (.cl 1001 0 4611686018427387904) (.c 1)) (.c 4611686018427387904))
 (.back [(.w .i64 (.b .padd .i64 (.cl 1000 (-9223372036854775808) 9223372036854775807) (.w .i64 (.f 13 (.f 13 (.v 1) (.cl 1001 0 4611686018427387904) (.c 0)) (.c 2) (.c 0))))), (.b .padd .i64 (.cl 1001 0 4611686018427387904) (.c 1))])
 (.bad 303))
 (.exit 0))
 (.leaf [(.cl 1000 (-9223372036854775808) 9223372036854775807)]))
def P (n0 c0 r0 : Int) : Prop :=
 ∃ I1000 : Int → Int → Nat → Prop, (∃ m, I1000 0 0 m) ∧
 ∀ y1000 y1001 : Int, ∀ m1000, (((-9223372036854775808) ≤ y1000 ∧ y1000 ≤ 9223372036854775807) ∧ (0 ≤ y1001 ∧ y1001 ≤ 4611686018427387904) ∧ True) → I1000 y1000 y1001 m1000 →
  (((bool01 (decide (y1001 < n0))) ≠ 0 →
   (((bool01 (decide ((y1001 + 1) ≤ 4611686018427387904))) ≠ 0 →
    ∃ m', m' < m1000 ∧ I1000 (IntKind.wrap .i64 (y1000 + (IntKind.wrap .i64 (rdZ (rdZ c0 y1001) 2)))) (y1001 + 1) m') ∧ ((bool01 (decide ((y1001 + 1) ≤ 4611686018427387904))) = 0 →
    False))) ∧ ((bool01 (decide (y1001 < n0))) = 0 →
   (y1000 : Int) = (costZ c0 n0) ∧ True))
theorem holds (n0 c0 r0 : Int) (l_n0 : 0 ≤ n0) (u_n0 : n0 ≤ 1000000) (h_n0 : n0 ≤ r0) : P n0 c0 r0 := by
 unfold P
 simp only [nrm, Int.reduceEq, Int.reduceNeg, reduceIte, mk_fold]
 refine ⟨fun s i m => s = costF c0 i.toNat ∧ i ≤ n0 ∧ m = (n0 - i).toNat, ⟨_, rfl, l_n0, rfl⟩, fun s i m hb hI => ?_⟩
 obtain ⟨rfl, hi, rfl⟩ := hI
 have hi0 := nat_i hb.2.1
 refine ⟨fun h1 => ⟨fun h2 => ⟨_, ?_, ?_, by omega, rfl⟩, fun h2 => by omega⟩, fun h1 => ?_⟩
 ·omega
 ·rw [succ_i hb.2.1, costF, hi0]
 ·rw [show i = n0 by omega]; rfl
theorem plain (i v ro p) : statR 2 rc tree ⟨i, fN, v, ro, p⟩ = P (i 0) (i 1) (i 2) := by kernel_rfl
theorem ran : ranR us (fun _ _ => .auto) rc 2 tree = true := by kernel_rfl
theorem fineT : fineR 2 rc tree = true := by kernel_rfl
theorem ok : RcOk (cxOf 2) rc := okR us_ok ran fineT okb fun i v ro p hρ hcap hpre => by rw [plain]; have q := hρ.hi; exact holds (i 0) (i 1) (i 2) (q 0 _ rfl).1 (q 0 _ rfl).2 (hcap _ (mg 0 rfl))
end CTCost
namespace CTwRun
def rc : Rc := ⟨6, [some 5, none, none, none], [.row [.int .u32] 1000000, .row [.int .i32] 1000000, .row [.bool] 1000000, .row [.int .i64] 1000000, .row [.int .i64] 1000000, .row [.int .i32] 1000000, .row [.int .i32] 1000000, .int .i64], [(.b .le .i64 (.v 7) (.c 300))], .tup [some 10, none], [.bool (.ite (.b .pmul .i64 (.b .pmul .i64 (.b .eq .i64 (.f 84 (.v 0) (.v 1) (listE [(.v 2), (.v 3), (.v 4), (.v 11), (.v 12)])) (.c 0)) (.b .eq .i64 (.v 5) (.v 3))) (.b .eq .i64 (.v 6) (.v 3))) (.b .pmul .i64 (.b .eq .i64 (.f 37 (.f 13 (.f 73 (.f 88 (.v 8) (.v 0) (.c 0)) (.v 0) (listE [(.v 1), (.v 7), (.f 74 (.f 86 (.v 11) (.v 3) (listE [(.v 13), (.v 9)])) (.c 0) (.c 0))])) (.c 5) (.c 0)) (.f 13 (.f 73 (.f 88 (.v 8) (.v 0) (.c 0)) (.v 0) (listE [(.v 1), (.v 7), (.f 74 (.f 86 (.v 11) (.v 3) (listE [(.v 14), (.v 9)])) (.c 0) (.c 0))])) (.c 5) (.c 0)) (listE [(.f 75 (.f 73 (.f 88 (.v 8) (.v 0) (.c 0)) (.v 0) (listE [(.v 1), (.v 7), (.f 74 (.f 86 (.v 11) (.v 3) (listE [(.v 13), (.v 9)])) (.c 0) (.c 0))])) (.c 0) (.c 0)), (.f 75 (.f 73 (.f 88 (.v 8) (.v 0) (.c 0)) (.v 0) (listE [(.v 1), (.v 7), (.f 74 (.f 86 (.v 11) (.v 3) (listE [(.v 14), (.v 9)])) (.c 0) (.c 0))])) (.c 0) (.c 0))])) (.c (-1))) (.b .eq .i64 (.w .i64 (.f 13 (.f 73 (.f 88 (.v 8) (.v 0) (.c 0)) (.v 0) (listE [(.v 1), (.v 7), (.f 74 (.f 86 (.v 11) (.v 3) (listE [(.v 13), (.v 9)])) (.c 0) (.c 0))])) (.c 3) (.c 0))) (.w .i64 (.f 13 (.f 73 (.f 88 (.v 8) (.v 0) (.c 0)) (.v 0) (listE [(.v 1), (.v 7), (.f 74 (.f 86 (.v 11) (.v 3) (listE [(.v 14), (.v 9)])) (.c 0) (.c 0))])) (.c 3) (.c 0))))) (.c 0)), .int .i64 (.ite (.b .pmul .i64 (.b .pmul .i64 (.b .eq .i64 (.f 84 (.v 0) (.v 1) (listE [(.v 2), (.v 3), (.v 4), (.v 11), (.v 12)])) (.c 0)) (.b .eq .i64 (.v 5) (.v 3))) (.b .eq .i64 (.v 6) (.v 3))) (.f 37 (.f 13 (.f 73 (.f 88 (.v 8) (.v 0) (.c 0)) (.v 0) (listE [(.v 1), (.v 7), (.f 74 (.f 86 (.v 11) (.v 3) (listE [(.v 13), (.v 9)])) (.c 0) (.c 0))])) (.c 5) (.c 0)) (.f 13 (.f 73 (.f 88 (.v 8) (.v 0) (.c 0)) (.v 0) (listE [(.v 1), (.v 7), (.f 74 (.f 86 (.v 11) (.v 3) (listE [(.v 14), (.v 9)])) (.c 0) (.c 0))])) (.c 5) (.c 0)) (listE [(.f 75 (.f 73 (.f 88 (.v 8) (.v 0) (.c 0)) (.v 0) (listE [(.v 1), (.v 7), (.f 74 (.f 86 (.v 11) (.v 3) (listE [(.v 13), (.v 9)])) (.c 0) (.c 0))])) (.c 0) (.c 0)), (.f 75 (.f 73 (.f 88 (.v 8) (.v 0) (.c 0)) (.v 0) (listE [(.v 1), (.v 7), (.f 74 (.f 86 (.v 11) (.v 3) (listE [(.v 14), (.v 9)])) (.c 0) (.c 0))])) (.c 0) (.c 0))])) (.c 0)), .int .i64 (.ite (.b .pmul .i64 (.b .pmul .i64 (.b .eq .i64 (.f 84 (.v 0) (.v 1) (listE [(.v 2), (.v 3), (.v 4), (.v 11), (.v 12)])) (.c 0)) (.b .eq .i64 (.v 5) (.v 3))) (.b .eq .i64 (.v 6) (.v 3))) (.w .i64 (.f 13 (.f 73 (.f 88 (.v 8) (.v 0) (.c 0)) (.v 0) (listE [(.v 1), (.v 7), (.f 74 (.f 86 (.v 11) (.v 3) (listE [(.v 13), (.v 9)])) (.c 0) (.c 0))])) (.c 3) (.c 0))) (.c 0)), .int .i64 (.ite (.b .pmul .i64 (.b .pmul .i64 (.b .eq .i64 (.f 84 (.v 0) (.v 1) (listE [(.v 2), (.v 3), (.v 4), (.v 11), (.v 12)])) (.c 0)) (.b .eq .i64 (.v 5) (.v 3))) (.b .eq .i64 (.v 6) (.v 3))) (.w .i64 (.f 13 (.f 73 (.f 88 (.v 8) (.v 0) (.c 0)) (.v 0) (listE [(.v 1), (.v 7), (.f 74 (.f 86 (.v 11) (.v 3) (listE [(.v 14), (.v 9)])) (.c 0) (.c 0))])) (.c 3) (.c 0))) (.c 0)), .int .i64 (.ite (.b .pmul .i64 (.b .pmul .i64 (.b .eq .i64 (.f 84 (.v 0) (.v 1) (listE [(.v 2), (.v 3), (.v 4), (.v 11), (.v 12)])) (.c 0)) (.b .eq .i64 (.v 5) (.v 3))) (.b .eq .i64 (.v 6) (.v 3))) (.f 35 (.f 13 (.f 73 (.f 88 (.v 8) (.v 0) (.c 0)) (.v 0) (listE [(.v 1), (.v 7), (.f 74 (.f 86 (.v 11) (.v 3) (listE [(.v 13), (.v 9)])) (.c 0) (.c 0))])) (.c 5) (.c 0)) (.f 75 (.f 73 (.f 88 (.v 8) (.v 0) (.c 0)) (.v 0) (listE [(.v 1), (.v 7), (.f 74 (.f 86 (.v 11) (.v 3) (listE [(.v 13), (.v 9)])) (.c 0) (.c 0))])) (.c 0) (.c 0)) (.c 0)) (.c 0)), .int .i64 (.ite (.b .pmul .i64 (.b .pmul .i64 (.b .eq .i64 (.f 84 (.v 0) (.v 1) (listE [(.v 2), (.v 3), (.v 4), (.v 11), (.v 12)])) (.c 0)) (.b .eq .i64 (.v 5) (.v 3))) (.b .eq .i64 (.v 6) (.v 3))) (.f 35 (.f 13 (.f 73 (.f 88 (.v 8) (.v 0) (.c 0)) (.v 0) (listE [(.v 1), (.v 7), (.f 74 (.f 86 (.v 11) (.v 3) (listE [(.v 14), (.v 9)])) (.c 0) (.c 0))])) (.c 5) (.c 0)) (.f 75 (.f 73 (.f 88 (.v 8) (.v 0) (.c 0)) (.v 0) (listE [(.v 1), (.v 7), (.f 74 (.f 86 (.v 11) (.v 3) (listE [(.v 14), (.v 9)])) (.c 0) (.c 0))])) (.c 0) (.c 0)) (.c 0)) (.c 0)), .row [.int .i32] 21 (.f 87 (.v 12) (.v 4) (.f 13 (.f 73 (.f 88 (.v 8) (.v 0) (.c 0)) (.v 0) (listE [(.v 1), (.v 7), (.f 74 (.f 86 (.v 11) (.v 3) (listE [(.v 13), (.v 9)])) (.c 0) (.c 0))])) (.c 1) (.c 0))) (.ite (.b .pmul .i64 (.b .pmul .i64 (.b .eq .i64 (.f 84 (.v 0) (.v 1) (listE [(.v 2), (.v 3), (.v 4), (.v 11), (.v 12)])) (.c 0)) (.b .eq .i64 (.v 5) (.v 3))) (.b .eq .i64 (.v 6) (.v 3))) (.v 4) (.c 0)), .row [.int .i32] 21 (.f 87 (.v 12) (.v 4) (.f 13 (.f 73 (.f 88 (.v 8) (.v 0) (.c 0)) (.v 0) (listE [(.v 1), (.v 7), (.f 74 (.f 86 (.v 11) (.v 3) (listE [(.v 14), (.v 9)])) (.c 0) (.c 0))])) (.c 1) (.c 0))) (.ite (.b .pmul .i64 (.b .pmul .i64 (.b .eq .i64 (.f 84 (.v 0) (.v 1) (listE [(.v 2), (.v 3), (.v 4), (.v 11), (.v 12)])) (.c 0)) (.b .eq .i64 (.v 5) (.v 3))) (.b .eq .i64 (.v 6) (.v 3))) (.v 4) (.c 0)), .int .i64 (.ite (.b .pmul .i64 (.b .pmul .i64 (.b .eq .i64 (.f 84 (.v 0) (.v 1) (listE [(.v 2), (.v 3), (.v 4), (.v 11), (.v 12)])) (.c 0)) (.b .eq .i64 (.v 5) (.v 3))) (.b .eq .i64 (.v 6) (.v 3))) (.f 75 (.f 73 (.f 88 (.v 8) (.v 0) (.c 0)) (.v 0) (listE [(.v 1), (.v 7), (.f 74 (.f 86 (.v 11) (.v 3) (listE [(.v 13), (.v 9)])) (.c 0) (.c 0))])) (.c 0) (.c 0)) (.c 0)), .int .i64 (.ite (.b .pmul .i64 (.b .pmul .i64 (.b .eq .i64 (.f 84 (.v 0) (.v 1) (listE [(.v 2), (.v 3), (.v 4), (.v 11), (.v 12)])) (.c 0)) (.b .eq .i64 (.v 5) (.v 3))) (.b .eq .i64 (.v 6) (.v 3))) (.f 75 (.f 73 (.f 88 (.v 8) (.v 0) (.c 0)) (.v 0) (listE [(.v 1), (.v 7), (.f 74 (.f 86 (.v 11) (.v 3) (listE [(.v 14), (.v 9)])) (.c 0) (.c 0))])) (.c 0) (.c 0)) (.c 0)), .int .i64 (.ite (.b .ne .i64 (.f 84 (.v 0) (.v 1) (listE [(.v 2), (.v 3), (.v 4), (.v 11), (.v 12)])) (.c 0)) (.f 84 (.v 0) (.v 1) (listE [(.v 2), (.v 3), (.v 4), (.v 11), (.v 12)])) (.ite (.b .pmul .i64 (.b .eq .i64 (.v 5) (.v 3)) (.b .eq .i64 (.v 6) (.v 3))) (.c 0) (.c 2)))]⟩
theorem okb : rc.ok = true := by kernel_rfl
noncomputable def us : SMs := fun Γ ins n => smH (cxG n Γ ins) [CTRun.rk.rh] (smR (cxG n Γ ins) [CICheck.rc, CTFirst.rc, CTCost.rc])
theorem us_ok : SMsOk us := fun Γ ins n => smH_ok (tabsG n Γ ins) (rhs_cons CTRun.okh (rh_n CTRun.ok) (rhs_nil _)) (smR_ok (tabsG n Γ ins) (rcs_cons CICheck.okb (rc_n CICheck.ok) (rcs_cons CTFirst.okb (rc_n CTFirst.ok) (rcs_cons CTCost.okb (rc_n CTCost.ok) (rcs_nil _)))))
def Q0 : E := (.f 88 (.v 8) (.v 0) (.c 0))
def Q1 : E := (tC (.v 9) (.c 0))
def Q2 : E := (tC (.v 13) Q1)
def Q3 : E := (.f 86 (.v 11) (.v 3) Q2)
def Q4 : E := (.f 74 Q3 (.c 0) (.c 0))
def Q5 : E := (tC Q4 (.c 0))
def Q6 : E := (tC (.v 7) Q5)
def Q7 : E := (tC (.v 1) Q6)
def Q8 : E := (.f 73 Q0 (.v 0) Q7)
def Q9 : E := (tC (.v 14) Q1)
def Q10 : E := (.f 86 (.v 11) (.v 3) Q9)
def Q11 : E := (.f 74 Q10 (.c 0) (.c 0))
def Q12 : E := (tC Q11 (.c 0))
def Q13 : E := (tC (.v 7) Q12)
def Q14 : E := (tC (.v 1) Q13)
def Q15 : E := (.f 73 Q0 (.v 0) Q14)
def Q16 : E := (tR Q8 (.c 5))
def Q17 : E := (tR Q15 (.c 5))
def Q18 : E := (tC (.cl 1002 0 999999) (.c 0))
def Q19 : E := (tC (.cl 1001 0 999999) Q18)
def Q20 : E := (.f 37 Q16 Q17 Q19)
def Q21 : E := (tR Q8 (.c 3))
def Q22 : E := (t6 Q21)
def Q23 : E := (tR Q15 (.c 3))
def Q24 : E := (t6 Q23)
def Q25 : E := (.f 35 Q16 (.cl 1001 0 999999) (.c 0))
def Q26 : E := (.f 35 Q17 (.cl 1002 0 999999) (.c 0))
def Q27 : E := (.cl 1003 (-9223372036854775808) 9223372036854775807)
def Q28 : E := (.cl 1004 (-9223372036854775808) 9223372036854775807)
def Q29 : E := (.cl 1005 (-9223372036854775808) 9223372036854775807)
def Q30 : E := (.cl 1006 (-9223372036854775808) 9223372036854775807)
def Q31 : E := (tR Q8 (.c 1))
def Q32 : E := (.f 87 (.v 12) (.v 4) Q31)
def Q33 : E := (tR Q15 (.c 1))
def Q34 : E := (.f 87 (.v 12) (.v 4) Q33)
def tree : TT (List E) :=
 (.br (tl (.v 0) (.v 15)) (.br (tl (.v 1) (.v 16)) (.br (tl (.v 2) (.v 17)) (.br (tl (.v 3) (.v 18)) (.br (tl (.v 4) (.v 19)) (.new 1000 (.f 84 (.v 0) (.v 1) (tC (.v 2) (tC (.v 3) (tC (.v 4) (tC (.v 11) (tC (.v 12) (.c 0))))))) (.br (tn (.cl 1000 0 9) (.c 0)) (.leaf [(.c 0), (.c 0), (.c 0), (.c 0), (.c 0), (.c 0), (.c 0), (.c 0), (.c 0), (.c 0), (.c 0), (.c 0), (.cl 1000 0 9)]) (.br (tn (.v 5) (.v 3)) (.leaf [(.c 0), (.c 0), (.c 0), (.c 0), (.c 0), (.c 0), (.c 0), (.c 0), (.c 0), (.c 0), (.c 0), (.c 0), (.c 2)]) (.br (tn (.v 6) (.v 3)) (.leaf [(.c 0), (.c 0), (.c 0), (.c 0), (.c 0), (.c 0), (.c 0), (.c 0), (.c 0), (.c 0), (.c 0), (.c 0), (.c 2)]) (.br (tl (.v 7) (.c 300)) (.br (tl (.v 0) (.c 16384)) (.br (tl (.v 1) (.c 2048)) (.br (tl (.v 3) (.c 255)) (.br (tl (.v 5) (.c 255)) (.br (tl
 (.v 4) (.c 255)) (.br (.f 85 (.v 11) (.v 3) (.v 1)) (.br (te (.v 5) (.v 3)) (.br (.f 85 (.v 12) (.v 4) (.v 1)) (.br (tl (.v 6) (.c 255)) (.br (te (.v 6) (.v 3)) (.new 1001 (.f 75 Q8 (.c 0) (.c 0)) (.new 1002 (.f 75 Q15 (.c 0) (.c 0)) (.br (te Q20 (.c (-1))) (.new 1003 Q22 (.new 1004 Q24 (.new 1005 Q25 (.new 1006 Q26 (.leaf [(te Q27 Q28), Q20, Q27, Q28, Q29, Q30, (.v 4), Q32, (.v 4), Q34, (.cl 1001 0 999999), (.cl 1002 0 999999), (.c 0)]))))) (.new 1003 Q22 (.new 1004 Q24 (.new 1005 Q25 (.new 1006 Q26 (.leaf [(.c 0), Q20, Q27, Q28, Q29, Q30, (.v 4), Q32, (.v 4), Q34, (.cl 1001 0 999999), (.cl 1002 0 999999), (.c 0)])))))))) (.bad 200)) (.bad 200)) (.bad 200)) (.bad 200)) (.bad 200)) (.bad 200)) (.bad 200)) (.bad 200)) (.bad 200)) (.bad 200)) (.bad 200)))))) (.bad 200)) (.bad 200)) (.bad
 200)) (.bad 200)) (.bad 200))
noncomputable def sq0 (i a b h l d p j : Int) : Int := (runP (decW i a) a (kZ b (kZ h (kZ (nuP (pokZ l d (kZ p (kZ j 0)))) 0))))
noncomputable def sq1 (i a b h l d o j : Int) : Int := (runP (decW i a) a (kZ b (kZ h (kZ (nuP (pokZ l d (kZ o (kZ j 0)))) 0))))
noncomputable def sq2 (a b c d e l n : Int) : Int := (chkZ a b (kZ c (kZ d (kZ e (kZ l (kZ n 0))))))
def sL0 (a b c d e l n f g i h o j p z0 z2 z4 z6 z8 z10 z12 z14 z16 z17 z19 z21 z22 z24 z26 : Int) : Prop := ((z0 : Int) ≠ 0 ↔ ((iteZ (((Pe (sq2 a b c d e l n) 0) * (Pe f d)) * (Pe g d)) ((Pe (firstZ (rdZ (sq1 i a b h l d o j) 5) (rdZ (sq0 i a b h l d p j) 5) (kZ (mkN (sq1 i a b h l d o j)) (kZ (mkN (sq0 i a b h l d p j)) 0))) (-1)) * (Pe (W6 (rdZ (sq1 i a b h l d o j) 3)) (W6 (rdZ (sq0 i a b h l d p j) 3)))) 0) : Int) ≠ 0) ∧ (z2 : Int) = (iteZ (((Pe (sq2 a b c d e l n) 0) * (Pe f d)) * (Pe g d)) (firstZ (rdZ (sq1 i a b h l d o j) 5) (rdZ (sq0 i a b h l d p j) 5) (kZ (mkN (sq1 i a b h l d o j)) (kZ (mkN (sq0 i a b h l d p j)) 0))) 0) ∧ (z4 : Int) = (iteZ (((Pe (sq2 a b c d e l n) 0) * (Pe f d)) * (Pe g d)) (W6 (rdZ (sq1 i a b h l d o j) 3)) 0) ∧ (z6 : Int) = (iteZ (((Pe (sq2 a b c d e l
 n) 0) * (Pe f d)) * (Pe g d)) (W6 (rdZ (sq0 i a b h l d p j) 3)) 0) ∧ (z8 : Int) = (iteZ (((Pe (sq2 a b c d e l n) 0) * (Pe f d)) * (Pe g d)) (costZ (rdZ (sq1 i a b h l d o j) 5) (mkN (sq1 i a b h l d o j))) 0) ∧ (z10 : Int) = (iteZ (((Pe (sq2 a b c d e l n) 0) * (Pe f d)) * (Pe g d)) (costZ (rdZ (sq0 i a b h l d p j) 5) (mkN (sq0 i a b h l d p j))) 0) ∧ (z12 : Int) = (iteZ (((Pe (sq2 a b c d e l n) 0) * (Pe f d)) * (Pe g d)) e 0) ∧ rowEq [.int .i32] z14 (outZ n e (rdZ (sq1 i a b h l d o j) 1)) z16 ∧ (z17 : Int) = (iteZ (((Pe (sq2 a b c d e l n) 0) * (Pe f d)) * (Pe g d)) e 0) ∧ rowEq [.int .i32] z19 (outZ n e (rdZ (sq0 i a b h l d p j) 1)) z21 ∧ (z22 : Int) = (iteZ (((Pe (sq2 a b c d e l n) 0) * (Pe f d)) * (Pe g d)) (mkN (sq1 i a b h l d o j)) 0) ∧ (z24 : Int) = (iteZ (((Pe (sq2 a b c
 d e l n) 0) * (Pe f d)) * (Pe g d)) (mkN (sq0 i a b h l d p j)) 0) ∧ (z26 : Int) = (iteZ (Pd (sq2 a b c d e l n) 0) (sq2 a b c d e l n) (iteZ ((Pe f d) * (Pe g d)) 0 2)) ∧ True
def P (a b c d e f g h i j k l n o p q r s t u v w : Int) : Prop :=
 (Pm (PL a q) (Pm (PL b r) (Pm (PL c s) (Pm (PL d t) (Pm (PL e u) (Pn (sq2 a b c d e l n) 0 9 fun y0 => (Pb (Pd y0 0) (sL0 a b c d e l n f g i h o j p 0 0 0 0 0 0 0 0 0 0 0 0 0 0 y0) (Pb (Pd f d) (sL0 a b c d e l n f g i h o j p 0 0 0 0 0 0 0 0 0 0 0 0 0 0 2) (Pb (Pd g d) (sL0 a b c d e l n f g i h o j p 0 0 0 0 0 0 0 0 0 0 0 0 0 0 2) (Pm (PL h 300) (Pm (PL a 16384) (Pm (PL b 2048) (Pm (PL d 255) (Pm (PL f 255) (Pm (PL e 255) (Pm (adZ l d b) (Pm (Pe f d) (Pm (adZ n e b) (Pm (PL g 255) (Pm (Pe g d) (Pn (mkN (sq1 i a b h l d o j)) 0 999999 fun y1 => Pn (mkN (sq0 i a b h l d p j)) 0 999999 fun y2 => (Pb (Pe (firstZ (rdZ (sq1 i a b h l d o j) 5) (rdZ (sq0 i a b h l d p j) 5) (kZ y1 (kZ y2 0))) (-1)) (Pn (W6 (rdZ (sq1 i a b h l d o j) 3)) (-9223372036854775808) 9223372036854775807 fun y3 => Pn
 (W6 (rdZ (sq0 i a b h l d p j) 3)) (-9223372036854775808) 9223372036854775807 fun y4 => Pn (costZ (rdZ (sq1 i a b h l d o j) 5) y1) (-9223372036854775808) 9223372036854775807 fun y5 => Pn (costZ (rdZ (sq0 i a b h l d p j) 5) y2) (-9223372036854775808) 9223372036854775807 fun y6 => (sL0 a b c d e l n f g i h o j p (Pe y3 y4) (firstZ (rdZ (sq1 i a b h l d o j) 5) (rdZ (sq0 i a b h l d p j) 5) (kZ y1 (kZ y2 0))) y3 y4 y5 y6 e (outZ n e (rdZ (sq1 i a b h l d o j) 1)) e e (outZ n e (rdZ (sq0 i a b h l d p j) 1)) e y1 y2 0)) (Pn (W6 (rdZ (sq1 i a b h l d o j) 3)) (-9223372036854775808) 9223372036854775807 fun y3 => Pn (W6 (rdZ (sq0 i a b h l d p j) 3)) (-9223372036854775808) 9223372036854775807 fun y4 => Pn (costZ (rdZ (sq1 i a b h l d o j) 5) y1) (-9223372036854775808) 9223372036854775807 fun
 y5 => Pn (costZ (rdZ (sq0 i a b h l d p j) 5) y2) (-9223372036854775808) 9223372036854775807 fun y6 => (sL0 a b c d e l n f g i h o j p 0 (firstZ (rdZ (sq1 i a b h l d o j) 5) (rdZ (sq0 i a b h l d p j) 5) (kZ y1 (kZ y2 0))) y3 y4 y5 y6 e (outZ n e (rdZ (sq1 i a b h l d o j) 1)) e e (outZ n e (rdZ (sq0 i a b h l d p j) 1)) e y1 y2 0))))))))))))))))))))))))
set_option maxHeartbeats 4000000 in
theorem holds (n0_0 n0_1 n0_2 n0_3 n0_4 n1 n2 p3 c0_0 c0_1 c0_2 c0_3 c0_4 c1 c2 r0_0 r0_1 r0_2 r0_3 r0_4 r1 r2 : Int) (l_n0_0 : 0 ≤ n0_0) (u_n0_0 : n0_0 ≤ 1000000) (l_n0_1 : 0 ≤ n0_1) (u_n0_1 : n0_1 ≤ 1000000) (l_n0_2 : 0 ≤ n0_2) (u_n0_2 : n0_2 ≤ 1000000) (l_n0_3 : 0 ≤ n0_3) (u_n0_3 : n0_3 ≤ 1000000) (l_n0_4 : 0 ≤ n0_4) (u_n0_4 : n0_4 ≤ 1000000) (l_n1 : 0 ≤ n1) (u_n1 : n1 ≤ 1000000) (l_n2 : 0 ≤ n2) (u_n2 : n2 ≤ 1000000) (l_p3 : -9223372036854775808 ≤ p3) (u_p3 : p3 ≤ 9223372036854775807) (h_n0_0 : n0_0 ≤ r0_0) (h_n0_1 : n0_1 ≤ r0_1) (h_n0_2 : n0_2 ≤ r0_2) (h_n0_3 : n0_3 ≤ r0_3) (h_n0_4 : n0_4 ≤ r0_4) (h_n1 : n1 ≤ r1) (h_n2 : n2 ≤ r2) (h_pre0 : bool01 (decide (p3  ≤  300)) ≠ 0) : P n0_0 n0_1 n0_2 n0_3 n0_4 n1 n2 p3 c0_0 c0_1 c0_2 c0_3 c0_4 c1 c2 r0_0 r0_1 r0_2 r0_3 r0_4 r1 r2 := by
 delta P sq0 sq1 sq2 sL0 Pb Pm Pn PL Pe Pd W6 kZ
 have hp : p3 ≤ 300 := by simpa [bool01] using h_pre0
 simp only [nrm, nro, Int.reduceEq, Int.reduceNeg, reduceIte]
 simp only [chk_ev]
 have s1 : ¬ (1 : Int) = 0 := by decide
 have s4 : bool01 ((0 : Int) == 0) = 1 := by decide
 have rn : ∀ c q, rowEq [.int .i32] c q 0 := fun c q => rowEq_nil _ _ _ (Int.le_refl _)
 generalize runP (decW c0_0 n0_0) n0_0 (consZ n0_1 (consZ p3 (consZ (nuP (pokZ c0_3 n0_3 (consZ c1 (consZ c0_1 0)))) 0))) = A
 generalize runP (decW c0_0 n0_0) n0_0 (consZ n0_1 (consZ p3 (consZ (nuP (pokZ c0_3 n0_3 (consZ c2 (consZ c0_1 0)))) 0))) = B
 refine ⟨h_n0_0, h_n0_1, h_n0_2, h_n0_3, h_n0_4, ?_⟩
 rintro x rfl -
 refine ⟨fun h => ?_, fun h => ?_⟩
 ·have hb : bool01 (chk7 n0_0 n0_1 n0_2 n0_3 n0_4 c0_3 c0_4 == 0) = 0 := by simp [bool01, h]
  simp only [hb, h, Int.zero_mul, not_true_eq_false, not_false_eq_true, if_false, if_true, rn, true_and, and_true]
 have hb : bool01 (chk7 n0_0 n0_1 n0_2 n0_3 n0_4 c0_3 c0_4 == 0) = 1 := by simp [bool01, h]
 obtain ⟨k1, k2, k3, k4, k5, k6, k7, k8⟩ := chk_zero h
 refine ⟨fun g => ?_, fun g => ?_⟩
 ·have hc : bool01 (n1 == n0_3) = 0 := by simp [bool01, g]
  simp only [hb, hc, h, s4, Int.zero_mul, Int.mul_zero, not_true_eq_false, not_false_eq_true, if_false, if_true, rn, true_and, and_true]
 have hc : bool01 (n1 == n0_3) = 1 := by simp [bool01, g]
 refine ⟨fun g2 => ?_, fun g2 => ?_⟩
 ·have hd : bool01 (n2 == n0_3) = 0 := by simp [bool01, g2]
  simp only [hb, hc, hd, h, s4, Int.zero_mul, Int.mul_zero, not_true_eq_false, not_false_eq_true, if_false, if_true, rn, true_and, and_true]
 have hd : bool01 (n2 == n0_3) = 1 := by simp [bool01, g2]
 have s2 : ¬ (1 : Int) * 1 * 1 = 0 := by decide
 have s3 : ¬ (1 : Int) * 1 = 0 := by decide
 simp only [hb, hc, hd, h, s2, s3, s4, not_true_eq_false, not_false_eq_true, if_false, if_true]
 refine ⟨hp, k1, k2, k3, by omega, k4, adZ_ne.2 k6, g, adZ_ne.2 k7, by omega, g2, ?_⟩
 rintro _ rfl - _ rfl -
 generalize firstZ (rdZ A 5) (rdZ B 5) (consZ (mkN A) (consZ (mkN B) 0)) = F
 refine ⟨fun hF => ?_, fun hF => ?_⟩
 all_goals
  rintro _ rfl - _ rfl - _ rfl - _ rfl -
  simp [bool01, hF, rowEq_refl]
theorem plain (i v ro p) : statR 2 rc tree ⟨i, fN, v, ro, p⟩ = P (i 0) (i 1) (i 2) (i 3) (i 4) (i 5) (i 6) (i 7) (i 8) (i 9) (i 10) (i 11) (i 12) (i 13) (i 14) (i 15) (i 16) (i 17) (i 18) (i 19) (i 20) (i 21) := by kernel_rfl
theorem ran : ranR us (fun _ _ => .auto) rc 2 tree = true := by kernel_rfl
theorem fineT : fineR 2 rc tree = true := by kernel_rfl
theorem ok : RcOk (cxOf 2) rc := okR us_ok ran fineT okb fun i v ro p hρ hcap hpre => by rw [plain]; have q := hρ.hi; exact holds (i 0) (i 1) (i 2) (i 3) (i 4) (i 5) (i 6) (i 7) (i 8) (i 9) (i 10) (i 11) (i 12) (i 13) (i 14) (i 15) (i 16) (i 17) (i 18) (i 19) (i 20) (i 21) (q 0 _ rfl).1 (q 0 _ rfl).2 (q 1 _ rfl).1 (q 1 _ rfl).2 (q 2 _ rfl).1 (q 2 _ rfl).2 (q 3 _ rfl).1 (q 3 _ rfl).2 (q 4 _ rfl).1 (q 4 _ rfl).2 (q 5 _ rfl).1 (q 5 _ rfl).2 (q 6 _ rfl).1 (q 6 _ rfl).2 (q 7 _ rfl).1 (q 7 _ rfl).2 (hcap _ (mg 0 rfl)) (hcap _ (mg 1 rfl)) (hcap _ (mg 2 rfl)) (hcap _ (mg 3 rfl)) (hcap _ (mg 4 rfl)) (hcap _ (mg 5 rfl)) (hcap _ (mg 6 rfl)) (hpre _ (mg 0 rfl))
end CTwRun
namespace CAwake26
def rc : Rc := ⟨5, [], [], [], .one, [.bool (.c 1)]⟩
theorem okb : rc.ok = true := by kernel_rfl
noncomputable def us : SMs := fun Γ ins n => smH (cxG n Γ ins) [] (smR (cxG n Γ ins) [CTwRun.rc])
theorem us_ok : SMsOk us := fun Γ ins n => smH_ok (tabsG n Γ ins) (rhs_nil _) (smR_ok (tabsG n Γ ins) (rcs_cons CTwRun.okb (rc_n CTwRun.ok) (rcs_nil _)))
def Q0 : E := (tC (.c 0) (.c 0))
def Q1 : E := (tC Q0 (.c 0))
def Q2 : E := (tC Q0 Q1)
def Q3 : E := (tC (.c 1) Q2)
def Q4 : E := (tC (.c 1) Q3)
def Q5 : E := (tC (.c 1) Q4)
def Q6 : E := (.f 84 (.c 4) (.c 1) Q5)
def Q7 : E := (te Q6 (.c 0))
def Q8 : E := (tC (.c 2885681152) (.c 0))
def Q9 : E := (tC (.c 2818572288) Q8)
def Q10 : E := (tC (.c 2418016258) Q9)
def Q11 : E := (tC (.c 2283798528) Q10)
def Q12 : E := (.f 88 Q11 (.c 4) (.c 0))
def Q13 : E := (tC (.c 5) (.c 0))
def Q14 : E := (tC Q13 (.c 0))
def Q15 : E := (tC Q0 Q14)
def Q16 : E := (.f 86 Q0 (.c 1) Q15)
def Q17 : E := (.f 74 Q16 (.c 0) (.c 0))
def Q18 : E := (tC Q17 (.c 0))
def Q19 : E := (tC (.c 9) Q18)
def Q20 : E := (tC (.c 1) Q19)
def Q21 : E := (.f 73 Q12 (.c 4) Q20)
def Q22 : E := (tR Q21 (.c 5))
def Q23 : E := (tC (.c 1) (.c 0))
def Q24 : E := (tC Q23 Q14)
def Q25 : E := (.f 86 Q0 (.c 1) Q24)
def Q26 : E := (.f 74 Q25 (.c 0) (.c 0))
def Q27 : E := (tC Q26 (.c 0))
def Q28 : E := (tC (.c 9) Q27)
def Q29 : E := (tC (.c 1) Q28)
def Q30 : E := (.f 73 Q12 (.c 4) Q29)
def Q31 : E := (tR Q30 (.c 5))
def Q32 : E := (.f 75 Q21 (.c 0) (.c 0))
def Q33 : E := (.f 75 Q30 (.c 0) (.c 0))
def Q34 : E := (tC Q33 (.c 0))
def Q35 : E := (tC Q32 Q34)
def Q36 : E := (.f 37 Q22 Q31 Q35)
def Q37 : E := (tR Q21 (.c 3))
def Q38 : E := (t6 Q37)
def Q39 : E := (tR Q30 (.c 3))
def Q40 : E := (t6 Q39)
def tree : TT (List E) :=
 (.new 1000 (.ite Q7 (.b .pmul .i64 (te Q36 (.c (-1))) (te Q38 Q40)) (.c 0)) (.new 1001 (.ite Q7 Q38 (.c 0)) (.new 1002 (.ite Q7 Q40 (.c 0)) (.new 1003 (.ite Q7 (.f 35 Q22 Q32 (.c 0)) (.c 0)) (.new 1004 (.ite Q7 (.f 35 Q31 Q33 (.c 0)) (.c 0)) (.new 1005 (.ite Q7 (.c 1) (.c 0)) (.new 1006 (.ite Q7 Q32 (.c 0)) (.new 1007 (.ite Q7 Q33 (.c 0)) (.new 1008 (.ite (tn Q6 (.c 0)) Q6 (.c 0)) (.br (te (.cl 1008 0 9) (.c 0)) (.br (.nt (.cl 1000 0 1)) (.br (te (.ite Q7 Q36 (.c 0)) (.c 1)) (.br (te (.cl 1005 0 1) (.c 1)) (.br (tk (.c 0) (.cl 1005 0 1)) (.leaf [(te (t3 (tR (.f 87 Q0 (.c 1) (tR Q30 (.c 1))) (.c 0))) (.c 1))]) (.bad 200)) (.leaf [(.c 0)])) (.leaf [(.c 0)])) (.leaf [(.c 0)])) (.leaf [(.c 0)])))))))))))
noncomputable def sq0 : Int := (runP (decW (kZ 2283798528 (kZ 2418016258 (kZ 2818572288 (kZ 2885681152 0)))) 4) 4 (kZ 1 (kZ 9 (kZ (nuP (pokZ (kZ 0 0) 1 (kZ (kZ 1 0) (kZ (kZ 5 0) 0)))) 0))))
noncomputable def sq1 : Int := (runP (decW (kZ 2283798528 (kZ 2418016258 (kZ 2818572288 (kZ 2885681152 0)))) 4) 4 (kZ 1 (kZ 9 (kZ (nuP (pokZ (kZ 0 0) 1 (kZ (kZ 0 0) (kZ (kZ 5 0) 0)))) 0))))
noncomputable def sq2 : Int := (chkZ 4 1 (kZ 1 (kZ 1 (kZ 1 (kZ (kZ 0 0) (kZ (kZ 0 0) 0))))))
def P : Prop :=
 Pn (iteZ (Pe sq2 0) ((Pe (firstZ (rdZ sq1 5) (rdZ sq0 5) (kZ (mkN sq1) (kZ (mkN sq0) 0))) (-1)) * (Pe (W6 (rdZ sq1 3)) (W6 (rdZ sq0 3)))) 0) 0 1 fun y0 => Pn (iteZ (Pe sq2 0) (W6 (rdZ sq1 3)) 0) (-9223372036854775808) 9223372036854775807 fun y1 => Pn (iteZ (Pe sq2 0) (W6 (rdZ sq0 3)) 0) (-9223372036854775808) 9223372036854775807 fun y2 => Pn (iteZ (Pe sq2 0) (costZ (rdZ sq1 5) (mkN sq1)) 0) (-9223372036854775808) 9223372036854775807 fun y3 => Pn (iteZ (Pe sq2 0) (costZ (rdZ sq0 5) (mkN sq0)) 0) (-9223372036854775808) 9223372036854775807 fun y4 => Pn (iteZ (Pe sq2 0) 1 0) 0 1 fun y5 => Pn (iteZ (Pe sq2 0) (mkN sq1) 0) 0 999999 fun y6 => Pn (iteZ (Pe sq2 0) (mkN sq0) 0) 0 999999 fun y7 => Pn (iteZ (Pd sq2 0) sq2 0) 0 9 fun y8 => (Pb (Pe y8 0) (Pb (Pe y0 0) (Pb (Pe (iteZ (Pe sq2 0) (firstZ
 (rdZ sq1 5) (rdZ sq0 5) (kZ (mkN sq1) (kZ (mkN sq0) 0))) 0) 1) (Pb (Pe y5 1) (Pm (Pl 0 y5) ((((Pe (W3 (rdZ (outZ (kZ 0 0) 1 (rdZ sq0 1)) 0)) 1) : Int) ≠ 0 ↔ (1 : Int) ≠ 0) ∧ True)) Pf) Pf) Pf) Pf)
set_option maxHeartbeats 4000000 in
theorem holds : P := by
 delta P sq0 sq1 sq2 Pb Pm Pn Pf Pl Pe Pd W6 W3 kZ
 simp only [nrm, nro, Int.reduceEq, Int.reduceNeg, reduceIte]
 simp only [chk_ev, tw_chk]
 have e1 : bool01 ((0 : Int) == 0) = 1 := by decide
 have pA := tw_pok (v := 0) (by decide)
 have pB := tw_pok (v := 1) (by decide)
 generalize hA : runP (decW (consZ 2283798528 (consZ 2418016258 (consZ 2818572288 (consZ 2885681152 0)))) 4) 4 (consZ 1 (consZ 9 (consZ (nuP (pokZ (consZ 0 0) 1 (consZ (consZ 0 0) (consZ (consZ 5 0) 0)))) 0))) = A
 generalize hB : runP (decW (consZ 2283798528 (consZ 2418016258 (consZ 2818572288 (consZ 2885681152 0)))) 4) 4 (consZ 1 (consZ 9 (consZ (nuP (pokZ (consZ 0 0) 1 (consZ (consZ 1 0) (consZ (consZ 5 0) 0)))) 0))) = B
 obtain ⟨a1, a2, a3, a4⟩ := tw_R pA (c := 3) rfl hA.symm
 obtain ⟨b1, b2, b3, b4⟩ := tw_R pB (c := 1) rfl hB.symm
 have hO := tw_out (M := rdZ B 1) (by rw [b3]; exact pB)
 simp only [a1, a2, a4, b1, b2, b4, tw_first, if_true]
 simp [bool01, hO]
theorem plain (i v ro p) : statR 2 rc tree ⟨i, fN, v, ro, p⟩ = P  := by kernel_rfl
theorem ran : ranR us (fun _ _ => .auto) rc 2 tree = true := by kernel_rfl
theorem fineT : fineR 2 rc tree = true := by kernel_rfl
theorem ok : RcOk (cxOf 2) rc := okR us_ok ran fineT okb fun i v ro p hρ hcap hpre => by rw [plain]; have q := hρ.hi; exact holds
end CAwake26
namespace CRAddrs
def rc : Rc := ⟨32, [none, none], [.row [.int .i64] 1000000, .int .i64], [], .one, [.bool (.f 85 (.v 2) (.v 0) (.v 1))]⟩
theorem okb : rc.ok = true := by kernel_rfl
noncomputable def us : SMs := fun Γ ins n => smH (cxG n Γ ins) [] (smR (cxG n Γ ins) [])
theorem us_ok : SMsOk us := fun Γ ins n => smH_ok (tabsG n Γ ins) (rhs_nil _) (smR_ok (tabsG n Γ ins) (rcs_nil _))
def tree : TT (List E) :=
(.loop ⟨1000, [some (0, 4611686018427387904)], [(.c 0)], 1002⟩
 (.br (.b .lt .i64 (.cl 1000 0 4611686018427387904) (.v 0))
 (.br (.b .lt .i64 (.w .i64 (.f 13 (.v 2) (.cl 1000 0 4611686018427387904) (.c 0))) (.c 0))
 (.exit 0)
 (.br (.b .le .i64 (.v 1) (.w .i64 (.f 13 (.v 2) (.cl 1000 0 4611686018427387904) (.c 0))))
 (.exit 1)
 (.br (.b .le .i64 (.b .padd .i64 (.cl 1000 0 4611686018427387904) (.c 1)) (.c 4611686018427387904))
 (.back [(.b .padd .i64 (.cl 1000 0 4611686018427387904) (.c 1))])
 (.bad 303))))
 (.exit 2))
 (.br (.b .eq .i64 (.v 1002) (.c 0))
 (.leaf [(.c 0)])
 (.br (.b .eq .i64 (.v 1002) (.c 1))
 (.leaf [(.c 0)])
 (.leaf [(.c 1)]))))
def P (n0 p1 c0 r0 : Int) : Prop :=
 ∃ I1000 : Int → Nat → Prop, (∃ m, I1000 0 m) ∧
 ∀ y1000 : Int, ∀ m1000, ((0 ≤ y1000 ∧ y1000 ≤ 4611686018427387904) ∧ True) → I1000 y1000 m1000 →
  (((bool01 (decide (y1000 < n0))) ≠ 0 →
   (((bool01 (decide ((IntKind.wrap .i64 (rdZ c0 y1000)) < 0))) ≠ 0 →
    (((bool01 ((0 : Int) == 0)) ≠ 0 →
     ((0 : Int) ≠ 0 ↔ ((adZ c0 n0 p1) : Int) ≠ 0) ∧ True) ∧ ((bool01 ((0 : Int) == 0)) = 0 →
     (((bool01 ((0 : Int) == 1)) ≠ 0 →
      ((0 : Int) ≠ 0 ↔ ((adZ c0 n0 p1) : Int) ≠ 0) ∧ True) ∧ ((bool01 ((0 : Int) == 1)) = 0 →
      ((1 : Int) ≠ 0 ↔ ((adZ c0 n0 p1) : Int) ≠ 0) ∧ True))))) ∧ ((bool01 (decide ((IntKind.wrap .i64 (rdZ c0 y1000)) < 0))) = 0 →
    (((bool01 (decide (p1 ≤ (IntKind.wrap .i64 (rdZ c0 y1000))))) ≠ 0 →
     (((bool01 ((1 : Int) == 0)) ≠ 0 →
      ((0 : Int) ≠ 0 ↔ ((adZ c0 n0 p1) : Int) ≠ 0) ∧ True) ∧ ((bool01 ((1 : Int) == 0)) = 0 →
      (((bool01 ((1 : Int) == 1)) ≠ 0 →
       ((0 : Int) ≠ 0 ↔ ((adZ c0 n0 p1) : Int) ≠ 0) ∧ True) ∧ ((bool01 ((1 : Int) == 1)) = 0 →
       ((1 : Int) ≠ 0 ↔ ((adZ c0 n0 p1) : Int) ≠ 0) ∧ True))))) ∧ ((bool01 (decide (p1 ≤ (IntKind.wrap .i64 (rdZ c0 y1000))))) = 0 →
     (((bool01 (decide ((y1000 + 1) ≤ 4611686018427387904))) ≠ 0 →
      ∃ m', m' < m1000 ∧ I1000 (y1000 + 1) m') ∧ ((bool01 (decide ((y1000 + 1) ≤ 4611686018427387904))) = 0 →
      False))))))) ∧ ((bool01 (decide (y1000 < n0))) = 0 →
   (((bool01 ((2 : Int) == 0)) ≠ 0 →
    ((0 : Int) ≠ 0 ↔ ((adZ c0 n0 p1) : Int) ≠ 0) ∧ True) ∧ ((bool01 ((2 : Int) == 0)) = 0 →
    (((bool01 ((2 : Int) == 1)) ≠ 0 →
     ((0 : Int) ≠ 0 ↔ ((adZ c0 n0 p1) : Int) ≠ 0) ∧ True) ∧ ((bool01 ((2 : Int) == 1)) = 0 →
     ((1 : Int) ≠ 0 ↔ ((adZ c0 n0 p1) : Int) ≠ 0) ∧ True))))))
theorem holds (n0 p1 c0 r0 : Int) (l_n0 : 0 ≤ n0) (u_n0 : n0 ≤ 1000000) (l_p1 : -9223372036854775808 ≤ p1) (u_p1 : p1 ≤ 9223372036854775807) (h_n0 : n0 ≤ r0) : P n0 p1 c0 r0 := by
 unfold P
 simp only [nrm, nro, Int.reduceEq, Int.reduceNeg, reduceIte]
 refine ⟨fun i m => adP c0 i p1 ∧ i ≤ n0 ∧ m = (n0 - i).toNat, ⟨_, ad_nil, l_n0, rfl⟩, fun i m hb hI => ?_⟩
 obtain ⟨hA, hi, rfl⟩ := hI
 refine ⟨fun h => ⟨fun h1 => adZ_eq.2 (ad_no hb.1 h (.inl h1)), fun h1 => ⟨fun h2 => adZ_eq.2 (ad_no hb.1 h (.inr h2)), fun h2 => ⟨by omega, _, ?_, ad_snoc hb.1 hA h1 h2, by omega, rfl⟩⟩⟩, fun h => ?_⟩
 ·omega
 ·have e : i = n0 := by omega
  subst e
  exact adZ_ne.2 hA
theorem plain (i v ro p) : statR 2 rc tree ⟨i, fN, v, ro, p⟩ = P (i 0) (i 1) (i 2) (i 3) := by kernel_rfl
theorem ran : ranR us (fun _ _ => .auto) rc 2 tree = true := by kernel_rfl
theorem fineT : fineR 2 rc tree = true := by kernel_rfl
theorem ok : RcOk (cxOf 2) rc := okR us_ok ran fineT okb fun i v ro p hρ hcap hpre => by rw [plain]; have q := hρ.hi; exact holds (i 0) (i 1) (i 2) (i 3) (q 0 _ rfl).1 (q 0 _ rfl).2 (q 1 _ rfl).1 (q 1 _ rfl).2 (hcap _ (mg 0 rfl))
end CRAddrs
namespace CRICheck
def rc : Rc := ⟨14, [some 5], [.row [.int .u32] 1000000, .row [.int .i32] 1000000, .row [.bool] 1000000, .row [.int .i64] 1000000, .row [.int .i64] 1000000], [], .one, [.int .i64 (.f 84 (.v 0) (.v 1) (listE [(.v 2), (.v 3), (.v 4), (.v 8), (.v 9)]))]⟩
theorem okb : rc.ok = true := by kernel_rfl
noncomputable def us : SMs := fun Γ ins n => smH (cxG n Γ ins) [] (smR (cxG n Γ ins) [CRAddrs.rc])
theorem us_ok : SMsOk us := fun Γ ins n => smH_ok (tabsG n Γ ins) (rhs_nil _) (smR_ok (tabsG n Γ ins) (rcs_cons CRAddrs.okb (rc_n CRAddrs.ok) (rcs_nil _)))
def tree : TT (List E) :=
(.br (.b .lt .i64 (.c 16384) (.v 0))
 (.leaf [(.c 5)])
 (.br (.b .lt .i64 (.c 2048) (.v 1))
 (.leaf [(.c 5)])
 (.br (.b .lt .i64 (.c 255) (.v 3))
 (.leaf [(.c 5)])
 (.br (.b .lt .i64 (.c 255) (.v 4))
 (.leaf [(.c 5)])
 (.br (.b .ne .i64 (.v 2) (.v 1))
 (.leaf [(.c 2)])
 (.br (.b .le .i64 (.v 3) (.v 13))
 (.br (.nt (.f 85 (.v 8) (.v 3) (.v 1)))
 (.leaf [(.c 2)])
 (.br (.b .le .i64 (.v 4) (.v 14))
 (.br (.nt (.f 85 (.v 9) (.v 4) (.v 1)))
 (.leaf [(.c 2)])
 (.loop ⟨1000, [some (0, 4611686018427387904)], [(.c 0)], 1005⟩
 (.br (.b .lt .i64 (.cl 1000 0 4611686018427387904) (.v 3))
 (.loop ⟨1002, [some (0, 4611686018427387904)], [(.c 0)], 1004⟩
 (.br (.b .lt .i64 (.cl 1002 0 4611686018427387904) (.cl 1000 0 4611686018427387904))
 (.br (.b .lt .i64 (.cl 1002 0 4611686018427387904) (.v 3))
 (.br (.b .eq .i64 (.w .i64 (.f 13 (.v 8) (.cl 1000 0 4611686018427387904) (.c 0))) (.w .i64 (.f 13 (.v 8) (.cl 1002 0 4611686018427387904) (.c 0))))
 (.exit 0)
 (.br (.b .le .i64 (.b .padd .i64 (.cl 1002 0 4611686018427387904) (.c 1)) (.c 4611686018427387904))
 (.back [(.b .padd .i64 (.cl 1002 0 4611686018427387904) (.c 1))])
 (.bad 303)))
 (.bad 200))
 (.exit 1))
 (.br (.b .eq .i64 (.v 1004) (.c 0))
 (.exit 0)
 (.br (.b .le .i64 (.b .padd .i64 (.cl 1000 0 4611686018427387904) (.c 1)) (.c 4611686018427387904))
 (.back [(.b .padd .i64 (.cl 1000 0 4611686018427387904) (.c 1))])
 (.bad 303))))
 (.exit 1))
 (.br (.b .eq .i64 (.v 1005) (.c 0))
 (.leaf [(.c 9)])
 (.leaf [(.c 0)]))))
 (.bad 200)))
 (.bad 200)))))))
def P (n0_0 n0_1 n0_2 n0_3 n0_4 c0_0 c0_1 c0_2 c0_3 c0_4 r0_0 r0_1 r0_2 r0_3 r0_4 : Int) : Prop :=
 (((bool01 (decide (16384 < n0_0))) ≠ 0 →
  (5 : Int) = (chkZ n0_0 n0_1 (consZ n0_2 (consZ n0_3 (consZ n0_4 (consZ c0_3 (consZ c0_4 0)))))) ∧ True) ∧ ((bool01 (decide (16384 < n0_0))) = 0 →
  (((bool01 (decide (2048 < n0_1))) ≠ 0 →
   (5 : Int) = (chkZ n0_0 n0_1 (consZ n0_2 (consZ n0_3 (consZ n0_4 (consZ c0_3 (consZ c0_4 0)))))) ∧ True) ∧ ((bool01 (decide (2048 < n0_1))) = 0 →
   (((bool01 (decide (255 < n0_3))) ≠ 0 →
    (5 : Int) = (chkZ n0_0 n0_1 (consZ n0_2 (consZ n0_3 (consZ n0_4 (consZ c0_3 (consZ c0_4 0)))))) ∧ True) ∧ ((bool01 (decide (255 < n0_3))) = 0 →
    (((bool01 (decide (255 < n0_4))) ≠ 0 →
     (5 : Int) = (chkZ n0_0 n0_1 (consZ n0_2 (consZ n0_3 (consZ n0_4 (consZ c0_3 (consZ c0_4 0)))))) ∧ True) ∧ ((bool01 (decide (255 < n0_4))) = 0 →
     (((bool01 (n0_2 != n0_1)) ≠ 0 →
      (2 : Int) = (chkZ n0_0 n0_1 (consZ n0_2 (consZ n0_3 (consZ n0_4 (consZ c0_3 (consZ c0_4 0)))))) ∧ True) ∧ ((bool01 (n0_2 != n0_1)) = 0 →
      (((bool01 (decide (n0_3 ≤ r0_3))) ≠ 0 →
       (((bool01 ((adZ c0_3 n0_3 n0_1) == 0)) ≠ 0 →
        (2 : Int) = (chkZ n0_0 n0_1 (consZ n0_2 (consZ n0_3 (consZ n0_4 (consZ c0_3 (consZ c0_4 0)))))) ∧ True) ∧ ((bool01 ((adZ c0_3 n0_3 n0_1) == 0)) = 0 →
        (((bool01 (decide (n0_4 ≤ r0_4))) ≠ 0 →
         (((bool01 ((adZ c0_4 n0_4 n0_1) == 0)) ≠ 0 →
          (2 : Int) = (chkZ n0_0 n0_1 (consZ n0_2 (consZ n0_3 (consZ n0_4 (consZ c0_3 (consZ c0_4 0)))))) ∧ True) ∧ ((bool01 ((adZ c0_4 n0_4 n0_1) == 0)) = 0 →
          ∃ I1000 : Int → Nat → Prop, (∃ m, I1000 0 m) ∧
          ∀ y1000 : Int, ∀ m1000, ((0 ≤ y1000 ∧ y1000 ≤ 4611686018427387904) ∧ True) → I1000 y1000 m1000 →
           (((bool01 (decide (y1000 < n0_3))) ≠ 0 →
            ∃ I1002 : Int → Nat → Prop, (∃ m, I1002 0 m) ∧
            ∀ y1002 : Int, ∀ m1002, ((0 ≤ y1002 ∧ y1002 ≤ 4611686018427387904) ∧ True) → I1002 y1002 m1002 →
             (((bool01 (decide (y1002 < y1000))) ≠ 0 →
              (((bool01 (decide (y1002 < n0_3))) ≠ 0 →
               (((bool01 ((IntKind.wrap .i64 (rdZ c0_3 y1000)) == (IntKind.wrap .i64 (rdZ c0_3 y1002)))) ≠ 0 →
                (((bool01 ((0 : Int) == 0)) ≠ 0 →
                 (((bool01 ((0 : Int) == 0)) ≠ 0 →
                  (9 : Int) = (chkZ n0_0 n0_1 (consZ n0_2 (consZ n0_3 (consZ n0_4 (consZ c0_3 (consZ c0_4 0)))))) ∧ True) ∧ ((bool01 ((0 : Int) == 0)) = 0 →
                  (0 : Int) = (chkZ n0_0 n0_1 (consZ n0_2 (consZ n0_3 (consZ n0_4 (consZ c0_3 (consZ c0_4 0)))))) ∧ True))) ∧ ((bool01 ((0 : Int) == 0)) = 0 →
                 (((bool01 (decide ((y1000 + 1) ≤ 4611686018427387904))) ≠ 0 →
                  ∃ m', m' < m1000 ∧ I1000 (y1000 + 1) m') ∧ ((bool01 (decide ((y1000 + 1) ≤ 4611686018427387904))) = 0 →
                  False))))) ∧ ((bool01 ((IntKind.wrap .i64 (rdZ c0_3 y1000)) == (IntKind.wrap .i64 (rdZ c0_3 y1002)))) = 0 →
                (((bool01 (decide ((y1002 + 1) ≤ 4611686018427387904))) ≠ 0 →
                 ∃ m', m' < m1002 ∧ I1002 (y1002 + 1) m') ∧ ((bool01 (decide ((y1002 + 1) ≤ 4611686018427387904))) = 0 →
                 False))))) ∧ ((bool01 (decide (y1002 < n0_3))) = 0 →
               False))) ∧ ((bool01 (decide (y1002 < y1000))) = 0 →
              (((bool01 ((1 : Int) == 0)) ≠ 0 →
               (((bool01 ((0 : Int) == 0)) ≠ 0 →
                (9 : Int) = (chkZ n0_0 n0_1 (consZ n0_2 (consZ n0_3 (consZ n0_4 (consZ c0_3 (consZ c0_4 0)))))) ∧ True) ∧ ((bool01 ((0 : Int) == 0)) = 0 →
                (0 : Int) = (chkZ n0_0 n0_1 (consZ n0_2 (consZ n0_3 (consZ n0_4 (consZ c0_3 (consZ c0_4 0)))))) ∧ True))) ∧ ((bool01 ((1 : Int) == 0)) = 0 →
               (((bool01 (decide ((y1000 + 1) ≤ 4611686018427387904))) ≠ 0 →
                ∃ m', m' < m1000 ∧ I1000 (y1000 + 1) m') ∧ ((bool01 (decide ((y1000 + 1) ≤ 4611686018427387904))) = 0 →
                False))))))) ∧ ((bool01 (decide (y1000 < n0_3))) = 0 →
            (((bool01 ((1 : Int) == 0)) ≠ 0 →
             (9 : Int) = (chkZ n0_0 n0_1 (consZ n0_2 (consZ n0_3 (consZ n0_4 (consZ c0_3 (consZ c0_4 0)))))) ∧ True) ∧ ((bool01 ((1 : Int) == 0)) = 0 →
             (0 : Int) = (chkZ n0_0 n0_1 (consZ n0_2 (consZ n0_3 (consZ n0_4 (consZ c0_3 (consZ c0_4 0)))))) ∧ True))))))) ∧ ((bool01 (decide (n0_4 ≤ r0_4))) = 0 →
         False))))) ∧ ((bool01 (decide (n0_3 ≤ r0_3))) = 0 →
       False))))))))))))
theorem holds (n0_0 n0_1 n0_2 n0_3 n0_4 c0_0 c0_1 c0_2 c0_3 c0_4 r0_0 r0_1 r0_2 r0_3 r0_4 : Int) (l_n0_0 : 0 ≤ n0_0) (u_n0_0 : n0_0 ≤ 1000000) (l_n0_1 : 0 ≤ n0_1) (u_n0_1 : n0_1 ≤ 1000000) (l_n0_2 : 0 ≤ n0_2) (u_n0_2 : n0_2 ≤ 1000000) (l_n0_3 : 0 ≤ n0_3) (u_n0_3 : n0_3 ≤ 1000000) (l_n0_4 : 0 ≤ n0_4) (u_n0_4 : n0_4 ≤ 1000000) (h_n0_0 : n0_0 ≤ r0_0) (h_n0_1 : n0_1 ≤ r0_1) (h_n0_2 : n0_2 ≤ r0_2) (h_n0_3 : n0_3 ≤ r0_3) (h_n0_4 : n0_4 ≤ r0_4) : P n0_0 n0_1 n0_2 n0_3 n0_4 c0_0 c0_1 c0_2 c0_3 c0_4 r0_0 r0_1 r0_2 r0_3 r0_4 := by
 unfold P
 simp only [nrm, nro, Int.reduceEq, Int.reduceNeg, reduceIte]
 simp only [chk_ev]
 refine ⟨fun h1 => chk_long (.inl h1), fun h1 => ⟨fun h2 => chk_long (.inr (.inl h2)), fun h2 => ⟨fun h3 => chk_long (.inr (.inr (.inl h3))), fun h3 => ⟨fun h4 => chk_long (.inr (.inr (.inr h4))), fun h4 => ?_⟩⟩⟩⟩
 have hl : ¬ (16384 < n0_0 ∨ 2048 < n0_1 ∨ 255 < n0_3 ∨ 255 < n0_4) := by omega
 refine ⟨fun h5 => chk_arg hl (.inl h5), fun h5 => ⟨by omega, fun h6 => chk_arg hl (.inr (.inl (adZ_eq.1 h6))), fun h6 => ⟨by omega, fun h7 => chk_arg hl (.inr (.inr (adZ_eq.1 h7))), fun h7 => ?_⟩⟩⟩
 refine ⟨fun i m => (∀ a b : Int, 0 ≤ b → b < a → a < i → ¬ IntKind.wrap .i64 (rdZ c0_3 a) = IntKind.wrap .i64 (rdZ c0_3 b)) ∧ i ≤ n0_3 ∧ m = (n0_3 - i).toNat, ⟨_, fun a b _ _ _ => by omega, l_n0_3, rfl⟩, fun i m hb hI => ?_⟩
 obtain ⟨hA, hi, rfl⟩ := hI
 refine ⟨fun h => ?_, fun h => ?_⟩
 ·refine ⟨fun k m => (∀ b : Int, 0 ≤ b → b < k → ¬ IntKind.wrap .i64 (rdZ c0_3 i) = IntKind.wrap .i64 (rdZ c0_3 b)) ∧ k ≤ i ∧ m = (i - k).toNat, ⟨_, fun b _ _ => by omega, hb.1, rfl⟩, fun k m hk hI => ?_⟩
  obtain ⟨hB, hki, rfl⟩ := hI
  refine ⟨fun g => ⟨by omega, fun g1 => chk_twice hl h5 (adZ_ne.1 h6) (adZ_ne.1 h7) (tw_of hk.1 g h g1), fun g1 => ⟨by omega, _, ?_, fun b b0 b1 => ?_, by omega, rfl⟩⟩, fun g => ⟨by omega, _, ?_, fun a b b0 b1 b2 => ?_, by omega, rfl⟩⟩
  ·omega
  ·by_cases e : b = k
   ·subst e; exact g1
   ·exact hB b b0 (by omega)
  ·omega
  ·by_cases e : a = i
   ·subst e; exact hB b b0 (by omega)
   ·exact hA a b b0 b1 (by omega)
 ·refine chk_ok hl h5 (adZ_ne.1 h6) (adZ_ne.1 h7) ?_
  rintro ⟨a, b, g1, g2, g3⟩
  exact hA a b (by omega) (by omega) (by omega) g3
theorem plain (i v ro p) : statR 2 rc tree ⟨i, fN, v, ro, p⟩ = P (i 0) (i 1) (i 2) (i 3) (i 4) (i 5) (i 6) (i 7) (i 8) (i 9) (i 10) (i 11) (i 12) (i 13) (i 14) := by kernel_rfl
theorem ran : ranR us (fun _ _ => .auto) rc 2 tree = true := by kernel_rfl
theorem fineT : fineR 2 rc tree = true := by kernel_rfl
theorem ok : RcOk (cxOf 2) rc := okR us_ok ran fineT okb fun i v ro p hρ hcap hpre => by rw [plain]; have q := hρ.hi; exact holds (i 0) (i 1) (i 2) (i 3) (i 4) (i 5) (i 6) (i 7) (i 8) (i 9) (i 10) (i 11) (i 12) (i 13) (i 14) (q 0 _ rfl).1 (q 0 _ rfl).2 (q 1 _ rfl).1 (q 1 _ rfl).2 (q 2 _ rfl).1 (q 2 _ rfl).2 (q 3 _ rfl).1 (q 3 _ rfl).2 (q 4 _ rfl).1 (q 4 _ rfl).2 (hcap _ (mg 0 rfl)) (hcap _ (mg 1 rfl)) (hcap _ (mg 2 rfl)) (hcap _ (mg 3 rfl)) (hcap _ (mg 4 rfl))
end CRICheck
namespace CRDec
def rc : Rc := ⟨47, [none], [.int .u32], [], .tup [some 5, none], [.int .i64 (.f 67 (.v 0) (.c 0) (.c 0)), .int .i64 (.f 67 (.v 0) (.c 1) (.c 0)), .int .i64 (.f 67 (.v 0) (.c 2) (.c 0)), .int .i64 (.f 67 (.v 0) (.c 3) (.c 0)), .int .i64 (.f 67 (.v 0) (.c 4) (.c 0)), .int .i64 (.f 67 (.v 0) (.c 5) (.c 0))]⟩
theorem okb : rc.ok = true := by kernel_rfl
noncomputable def us : SMs := fun Γ ins n => smH (cxG n Γ ins) [] (smR (cxG n Γ ins) [])
theorem us_ok : SMsOk us := fun Γ ins n => smH_ok (tabsG n Γ ins) (rhs_nil _) (smR_ok (tabsG n Γ ins) (rcs_nil _))
def Q0 : E := (.b .quo .i64 (.v 0) (.c 67108864))
def Q1 : E := (.b .rem .i64 (.v 0) (.c 65536))
def Q2 : E := (.b .quo .i64 (.v 0) (.c 2097152))
def Q3 : E := (.b .rem .i64 Q2 (.c 32))
def Q4 : E := (.b .quo .i64 (.v 0) (.c 65536))
def Q5 : E := (.b .rem .i64 Q4 (.c 32))
def Q6 : E := (tk (.c 23) Q0)
def Q7 : E := (tl Q0 (.c 30))
def Q8 : E := (tn Q1 (.c 0))
def Q9 : E := (te Q0 (.c 31))
def Q10 : E := (tl (.c 32768) Q1)
def Q11 : E := (.b .psub .i64 Q1 (.c 65536))
def Q12 : E := (te Q0 (.c 32))
def Q13 : E := (te Q0 (.c 34))
def Q14 : E := (te Q0 (.c 35))
def Q15 : E := (te Q0 (.c 36))
def Q16 : E := (te Q0 (.c 37))
def Q17 : E := (te Q0 (.c 38))
def Q18 : E := (te Q0 (.c 33))
def Q19 : E := (tn Q5 (.c 0))
def Q20 : E := (te Q0 (.c 40))
def Q21 : E := (te Q0 (.c 39))
def Q22 : E := (tn Q3 (.c 0))
def Q23 : E := (te Q0 (.c 41))
def Q24 : E := (te Q0 (.c 42))
def Q25 : E := (te Q0 (.c 43))
def tree : TT (List E) :=
 (.br (tl (.c 1) Q0) (.br (tl Q0 (.c 23)) (.br (tn (.b .rem .i64 Q1 (.c 2048)) (.c 0)) (.leaf [(.c 0), (.c 0), (.c 0), (.c 0), (.c 0), (.c 3)]) (.leaf [Q0, Q3, Q5, (.b .quo .i64 Q1 (.c 2048)), (.c 0), (.c 0)])) (.br Q6 (.br Q7 (.br Q8 (.leaf [(.c 0), (.c 0), (.c 0), (.c 0), (.c 0), (.c 3)]) (.leaf [Q0, Q3, Q5, (.c 0), (.c 0), (.c 0)])) (.br Q9 (.br Q10 (.leaf [Q0, Q3, Q5, (.c 0), Q11, (.c 0)]) (.leaf [Q0, Q3, Q5, (.c 0), Q1, (.c 0)])) (.br Q12 (.leaf [Q0, Q3, Q5, (.c 0), Q1, (.c 0)]) (.br Q13 (.leaf [Q0, Q3, Q5, (.c 0), Q1, (.c 0)]) (.br Q14 (.leaf [Q0, Q3, Q5, (.c 0), Q1, (.c 0)]) (.br Q15 (.leaf [Q0, Q3, Q5, (.c 0), Q1, (.c 0)]) (.br Q16 (.leaf [Q0, Q3, Q5, (.c 0), Q1, (.c 0)]) (.br Q17 (.leaf [Q0, Q3, Q5, (.c 0), Q1, (.c 0)]) (.br Q18 (.br Q19 (.leaf [(.c 0), (.c 0), (.c 0), (.c 0),
 (.c 0), (.c 3)]) (.leaf [Q0, Q3, Q5, (.c 0), Q1, (.c 0)])) (.br Q20 (.br Q19 (.leaf [(.c 0), (.c 0), (.c 0), (.c 0), (.c 0), (.c 3)]) (.leaf [Q0, Q3, Q5, (.c 0), Q1, (.c 0)])) (.br Q21 (.br Q22 (.leaf [(.c 0), (.c 0), (.c 0), (.c 0), (.c 0), (.c 3)]) (.br Q19 (.leaf [(.c 0), (.c 0), (.c 0), (.c 0), (.c 0), (.c 3)]) (.leaf [Q0, Q3, Q5, (.c 0), Q1, (.c 0)]))) (.br Q23 (.br Q8 (.leaf [(.c 0), (.c 0), (.c 0), (.c 0), (.c 0), (.c 3)]) (.br Q22 (.leaf [(.c 0), (.c 0), (.c 0), (.c 0), (.c 0), (.c 3)]) (.leaf [Q0, Q3, Q5, (.c 0), (.c 0), (.c 0)]))) (.br Q24 (.br Q8 (.leaf [(.c 0), (.c 0), (.c 0), (.c 0), (.c 0), (.c 3)]) (.br Q22 (.leaf [(.c 0), (.c 0), (.c 0), (.c 0), (.c 0), (.c 3)]) (.br Q19 (.leaf [(.c 0), (.c 0), (.c 0), (.c 0), (.c 0), (.c 3)]) (.leaf [Q0, Q3, Q5, (.c 0), (.c 0), (.c
 0)])))) (.br Q25 (.br Q8 (.leaf [(.c 0), (.c 0), (.c 0), (.c 0), (.c 0), (.c 3)]) (.br Q22 (.leaf [(.c 0), (.c 0), (.c 0), (.c 0), (.c 0), (.c 3)]) (.br Q19 (.leaf [(.c 0), (.c 0), (.c 0), (.c 0), (.c 0), (.c 3)]) (.leaf [Q0, Q3, Q5, (.c 0), (.c 0), (.c 0)])))) (.leaf [(.c 0), (.c 0), (.c 0), (.c 0), (.c 0), (.c 2)]))))))))))))))) (.br Q9 (.br Q10 (.leaf [Q0, Q3, Q5, (.c 0), Q11, (.c 0)]) (.leaf [Q0, Q3, Q5, (.c 0), Q1, (.c 0)])) (.br Q12 (.leaf [Q0, Q3, Q5, (.c 0), Q1, (.c 0)]) (.br Q13 (.leaf [Q0, Q3, Q5, (.c 0), Q1, (.c 0)]) (.br Q14 (.leaf [Q0, Q3, Q5, (.c 0), Q1, (.c 0)]) (.br Q15 (.leaf [Q0, Q3, Q5, (.c 0), Q1, (.c 0)]) (.br Q16 (.leaf [Q0, Q3, Q5, (.c 0), Q1, (.c 0)]) (.br Q17 (.leaf [Q0, Q3, Q5, (.c 0), Q1, (.c 0)]) (.br Q18 (.br Q19 (.leaf [(.c 0), (.c 0), (.c 0), (.c 0), (.c
 0), (.c 3)]) (.leaf [Q0, Q3, Q5, (.c 0), Q1, (.c 0)])) (.br Q20 (.br Q19 (.leaf [(.c 0), (.c 0), (.c 0), (.c 0), (.c 0), (.c 3)]) (.leaf [Q0, Q3, Q5, (.c 0), Q1, (.c 0)])) (.br Q21 (.br Q22 (.leaf [(.c 0), (.c 0), (.c 0), (.c 0), (.c 0), (.c 3)]) (.br Q19 (.leaf [(.c 0), (.c 0), (.c 0), (.c 0), (.c 0), (.c 3)]) (.leaf [Q0, Q3, Q5, (.c 0), Q1, (.c 0)]))) (.br Q23 (.br Q8 (.leaf [(.c 0), (.c 0), (.c 0), (.c 0), (.c 0), (.c 3)]) (.br Q22 (.leaf [(.c 0), (.c 0), (.c 0), (.c 0), (.c 0), (.c 3)]) (.leaf [Q0, Q3, Q5, (.c 0), (.c 0), (.c 0)]))) (.br Q24 (.br Q8 (.leaf [(.c 0), (.c 0), (.c 0), (.c 0), (.c 0), (.c 3)]) (.br Q22 (.leaf [(.c 0), (.c 0), (.c 0), (.c 0), (.c 0), (.c 3)]) (.br Q19 (.leaf [(.c 0), (.c 0), (.c 0), (.c 0), (.c 0), (.c 3)]) (.leaf [Q0, Q3, Q5, (.c 0), (.c 0), (.c 0)]))))
 (.br Q25 (.br Q8 (.leaf [(.c 0), (.c 0), (.c 0), (.c 0), (.c 0), (.c 3)]) (.br Q22 (.leaf [(.c 0), (.c 0), (.c 0), (.c 0), (.c 0), (.c 3)]) (.br Q19 (.leaf [(.c 0), (.c 0), (.c 0), (.c 0), (.c 0), (.c 3)]) (.leaf [Q0, Q3, Q5, (.c 0), (.c 0), (.c 0)])))) (.leaf [(.c 0), (.c 0), (.c 0), (.c 0), (.c 0), (.c 2)])))))))))))))))) (.br Q6 (.br Q7 (.br Q8 (.leaf [(.c 0), (.c 0), (.c 0), (.c 0), (.c 0), (.c 3)]) (.leaf [Q0, Q3, Q5, (.c 0), (.c 0), (.c 0)])) (.br Q9 (.br Q10 (.leaf [Q0, Q3, Q5, (.c 0), Q11, (.c 0)]) (.leaf [Q0, Q3, Q5, (.c 0), Q1, (.c 0)])) (.br Q12 (.leaf [Q0, Q3, Q5, (.c 0), Q1, (.c 0)]) (.br Q13 (.leaf [Q0, Q3, Q5, (.c 0), Q1, (.c 0)]) (.br Q14 (.leaf [Q0, Q3, Q5, (.c 0), Q1, (.c 0)]) (.br Q15 (.leaf [Q0, Q3, Q5, (.c 0), Q1, (.c 0)]) (.br Q16 (.leaf [Q0, Q3, Q5, (.c 0), Q1, (.c
 0)]) (.br Q17 (.leaf [Q0, Q3, Q5, (.c 0), Q1, (.c 0)]) (.br Q18 (.br Q19 (.leaf [(.c 0), (.c 0), (.c 0), (.c 0), (.c 0), (.c 3)]) (.leaf [Q0, Q3, Q5, (.c 0), Q1, (.c 0)])) (.br Q20 (.br Q19 (.leaf [(.c 0), (.c 0), (.c 0), (.c 0), (.c 0), (.c 3)]) (.leaf [Q0, Q3, Q5, (.c 0), Q1, (.c 0)])) (.br Q21 (.br Q22 (.leaf [(.c 0), (.c 0), (.c 0), (.c 0), (.c 0), (.c 3)]) (.br Q19 (.leaf [(.c 0), (.c 0), (.c 0), (.c 0), (.c 0), (.c 3)]) (.leaf [Q0, Q3, Q5, (.c 0), Q1, (.c 0)]))) (.br Q23 (.br Q8 (.leaf [(.c 0), (.c 0), (.c 0), (.c 0), (.c 0), (.c 3)]) (.br Q22 (.leaf [(.c 0), (.c 0), (.c 0), (.c 0), (.c 0), (.c 3)]) (.leaf [Q0, Q3, Q5, (.c 0), (.c 0), (.c 0)]))) (.br Q24 (.br Q8 (.leaf [(.c 0), (.c 0), (.c 0), (.c 0), (.c 0), (.c 3)]) (.br Q22 (.leaf [(.c 0), (.c 0), (.c 0), (.c 0), (.c 0), (.c
 3)]) (.br Q19 (.leaf [(.c 0), (.c 0), (.c 0), (.c 0), (.c 0), (.c 3)]) (.leaf [Q0, Q3, Q5, (.c 0), (.c 0), (.c 0)])))) (.br Q25 (.br Q8 (.leaf [(.c 0), (.c 0), (.c 0), (.c 0), (.c 0), (.c 3)]) (.br Q22 (.leaf [(.c 0), (.c 0), (.c 0), (.c 0), (.c 0), (.c 3)]) (.br Q19 (.leaf [(.c 0), (.c 0), (.c 0), (.c 0), (.c 0), (.c 3)]) (.leaf [Q0, Q3, Q5, (.c 0), (.c 0), (.c 0)])))) (.leaf [(.c 0), (.c 0), (.c 0), (.c 0), (.c 0), (.c 2)]))))))))))))))) (.br Q9 (.br Q10 (.leaf [Q0, Q3, Q5, (.c 0), Q11, (.c 0)]) (.leaf [Q0, Q3, Q5, (.c 0), Q1, (.c 0)])) (.br Q12 (.leaf [Q0, Q3, Q5, (.c 0), Q1, (.c 0)]) (.br Q13 (.leaf [Q0, Q3, Q5, (.c 0), Q1, (.c 0)]) (.br Q14 (.leaf [Q0, Q3, Q5, (.c 0), Q1, (.c 0)]) (.br Q15 (.leaf [Q0, Q3, Q5, (.c 0), Q1, (.c 0)]) (.br Q16 (.leaf [Q0, Q3, Q5, (.c 0), Q1, (.c 0)])
 (.br Q17 (.leaf [Q0, Q3, Q5, (.c 0), Q1, (.c 0)]) (.br Q18 (.br Q19 (.leaf [(.c 0), (.c 0), (.c 0), (.c 0), (.c 0), (.c 3)]) (.leaf [Q0, Q3, Q5, (.c 0), Q1, (.c 0)])) (.br Q20 (.br Q19 (.leaf [(.c 0), (.c 0), (.c 0), (.c 0), (.c 0), (.c 3)]) (.leaf [Q0, Q3, Q5, (.c 0), Q1, (.c 0)])) (.br Q21 (.br Q22 (.leaf [(.c 0), (.c 0), (.c 0), (.c 0), (.c 0), (.c 3)]) (.br Q19 (.leaf [(.c 0), (.c 0), (.c 0), (.c 0), (.c 0), (.c 3)]) (.leaf [Q0, Q3, Q5, (.c 0), Q1, (.c 0)]))) (.br Q23 (.br Q8 (.leaf [(.c 0), (.c 0), (.c 0), (.c 0), (.c 0), (.c 3)]) (.br Q22 (.leaf [(.c 0), (.c 0), (.c 0), (.c 0), (.c 0), (.c 3)]) (.leaf [Q0, Q3, Q5, (.c 0), (.c 0), (.c 0)]))) (.br Q24 (.br Q8 (.leaf [(.c 0), (.c 0), (.c 0), (.c 0), (.c 0), (.c 3)]) (.br Q22 (.leaf [(.c 0), (.c 0), (.c 0), (.c 0), (.c 0), (.c 3)])
 (.br Q19 (.leaf [(.c 0), (.c 0), (.c 0), (.c 0), (.c 0), (.c 3)]) (.leaf [Q0, Q3, Q5, (.c 0), (.c 0), (.c 0)])))) (.br Q25 (.br Q8 (.leaf [(.c 0), (.c 0), (.c 0), (.c 0), (.c 0), (.c 3)]) (.br Q22 (.leaf [(.c 0), (.c 0), (.c 0), (.c 0), (.c 0), (.c 3)]) (.br Q19 (.leaf [(.c 0), (.c 0), (.c 0), (.c 0), (.c 0), (.c 3)]) (.leaf [Q0, Q3, Q5, (.c 0), (.c 0), (.c 0)])))) (.leaf [(.c 0), (.c 0), (.c 0), (.c 0), (.c 0), (.c 2)]))))))))))))))))
noncomputable def sq0 (a : Int) : Int := (Pd (BO.ev .rem .i64 (BO.ev .quo .i64 a 65536) 32) 0)
noncomputable def sq1 (a : Int) : Int := (Pd (BO.ev .rem .i64 (BO.ev .quo .i64 a 2097152) 32) 0)
def sL0 (a z0 z2 z4 z6 z8 z10 : Int) : Prop := (z0 : Int) = (decZ a 0) ∧ (z2 : Int) = (decZ a 1) ∧ (z4 : Int) = (decZ a 2) ∧ (z6 : Int) = (decZ a 3) ∧ (z8 : Int) = (decZ a 4) ∧ (z10 : Int) = (decZ a 5) ∧ True
def sq2 (a : Int) : Prop := (Pb (Pe (BO.ev .quo .i64 a 67108864) 31) (Pb (PL 32768 (BO.ev .rem .i64 a 65536)) (sL0 a (BO.ev .quo .i64 a 67108864) (BO.ev .rem .i64 (BO.ev .quo .i64 a 2097152) 32) (BO.ev .rem .i64 (BO.ev .quo .i64 a 65536) 32) 0 ((BO.ev .rem .i64 a 65536) - 65536) 0) (sL0 a (BO.ev .quo .i64 a 67108864) (BO.ev .rem .i64 (BO.ev .quo .i64 a 2097152) 32) (BO.ev .rem .i64 (BO.ev .quo .i64 a 65536) 32) 0 (BO.ev .rem .i64 a 65536) 0)) (Pb (Pe (BO.ev .quo .i64 a 67108864) 32) (sL0 a (BO.ev .quo .i64 a 67108864) (BO.ev .rem .i64 (BO.ev .quo .i64 a 2097152) 32) (BO.ev .rem .i64 (BO.ev .quo .i64 a 65536) 32) 0 (BO.ev .rem .i64 a 65536) 0) (Pb (Pe (BO.ev .quo .i64 a 67108864) 34) (sL0 a (BO.ev .quo .i64 a 67108864) (BO.ev .rem .i64 (BO.ev .quo .i64 a 2097152) 32) (BO.ev .rem .i64
 (BO.ev .quo .i64 a 65536) 32) 0 (BO.ev .rem .i64 a 65536) 0) (Pb (Pe (BO.ev .quo .i64 a 67108864) 35) (sL0 a (BO.ev .quo .i64 a 67108864) (BO.ev .rem .i64 (BO.ev .quo .i64 a 2097152) 32) (BO.ev .rem .i64 (BO.ev .quo .i64 a 65536) 32) 0 (BO.ev .rem .i64 a 65536) 0) (Pb (Pe (BO.ev .quo .i64 a 67108864) 36) (sL0 a (BO.ev .quo .i64 a 67108864) (BO.ev .rem .i64 (BO.ev .quo .i64 a 2097152) 32) (BO.ev .rem .i64 (BO.ev .quo .i64 a 65536) 32) 0 (BO.ev .rem .i64 a 65536) 0) (Pb (Pe (BO.ev .quo .i64 a 67108864) 37) (sL0 a (BO.ev .quo .i64 a 67108864) (BO.ev .rem .i64 (BO.ev .quo .i64 a 2097152) 32) (BO.ev .rem .i64 (BO.ev .quo .i64 a 65536) 32) 0 (BO.ev .rem .i64 a 65536) 0) (Pb (Pe (BO.ev .quo .i64 a 67108864) 38) (sL0 a (BO.ev .quo .i64 a 67108864) (BO.ev .rem .i64 (BO.ev .quo .i64 a 2097152) 32)
 (BO.ev .rem .i64 (BO.ev .quo .i64 a 65536) 32) 0 (BO.ev .rem .i64 a 65536) 0) (Pb (Pe (BO.ev .quo .i64 a 67108864) 33) (Pb (sq0 a) (sL0 a 0 0 0 0 0 3) (sL0 a (BO.ev .quo .i64 a 67108864) (BO.ev .rem .i64 (BO.ev .quo .i64 a 2097152) 32) (BO.ev .rem .i64 (BO.ev .quo .i64 a 65536) 32) 0 (BO.ev .rem .i64 a 65536) 0)) (Pb (Pe (BO.ev .quo .i64 a 67108864) 40) (Pb (sq0 a) (sL0 a 0 0 0 0 0 3) (sL0 a (BO.ev .quo .i64 a 67108864) (BO.ev .rem .i64 (BO.ev .quo .i64 a 2097152) 32) (BO.ev .rem .i64 (BO.ev .quo .i64 a 65536) 32) 0 (BO.ev .rem .i64 a 65536) 0)) (Pb (Pe (BO.ev .quo .i64 a 67108864) 39) (Pb (sq1 a) (sL0 a 0 0 0 0 0 3) (Pb (sq0 a) (sL0 a 0 0 0 0 0 3) (sL0 a (BO.ev .quo .i64 a 67108864) (BO.ev .rem .i64 (BO.ev .quo .i64 a 2097152) 32) (BO.ev .rem .i64 (BO.ev .quo .i64 a 65536) 32) 0 (BO.ev
 .rem .i64 a 65536) 0))) (Pb (Pe (BO.ev .quo .i64 a 67108864) 41) (Pb (Pd (BO.ev .rem .i64 a 65536) 0) (sL0 a 0 0 0 0 0 3) (Pb (sq1 a) (sL0 a 0 0 0 0 0 3) (sL0 a (BO.ev .quo .i64 a 67108864) (BO.ev .rem .i64 (BO.ev .quo .i64 a 2097152) 32) (BO.ev .rem .i64 (BO.ev .quo .i64 a 65536) 32) 0 0 0))) (Pb (Pe (BO.ev .quo .i64 a 67108864) 42) (Pb (Pd (BO.ev .rem .i64 a 65536) 0) (sL0 a 0 0 0 0 0 3) (Pb (sq1 a) (sL0 a 0 0 0 0 0 3) (Pb (sq0 a) (sL0 a 0 0 0 0 0 3) (sL0 a (BO.ev .quo .i64 a 67108864) (BO.ev .rem .i64 (BO.ev .quo .i64 a 2097152) 32) (BO.ev .rem .i64 (BO.ev .quo .i64 a 65536) 32) 0 0 0)))) (Pb (Pe (BO.ev .quo .i64 a 67108864) 43) (Pb (Pd (BO.ev .rem .i64 a 65536) 0) (sL0 a 0 0 0 0 0 3) (Pb (sq1 a) (sL0 a 0 0 0 0 0 3) (Pb (sq0 a) (sL0 a 0 0 0 0 0 3) (sL0 a (BO.ev .quo .i64 a 67108864)
 (BO.ev .rem .i64 (BO.ev .quo .i64 a 2097152) 32) (BO.ev .rem .i64 (BO.ev .quo .i64 a 65536) 32) 0 0 0)))) (sL0 a 0 0 0 0 0 2))))))))))))))
def sq3 (a : Int) : Prop := (Pb (Pl 23 (BO.ev .quo .i64 a 67108864)) (Pb (PL (BO.ev .quo .i64 a 67108864) 30) (Pb (Pd (BO.ev .rem .i64 a 65536) 0) (sL0 a 0 0 0 0 0 3) (sL0 a (BO.ev .quo .i64 a 67108864) (BO.ev .rem .i64 (BO.ev .quo .i64 a 2097152) 32) (BO.ev .rem .i64 (BO.ev .quo .i64 a 65536) 32) 0 0 0)) (sq2 a)) (sq2 a))
def P (a : Int) : Prop :=
 (Pb (PL 1 (BO.ev .quo .i64 a 67108864)) (Pb (PL (BO.ev .quo .i64 a 67108864) 23) (Pb (Pd (BO.ev .rem .i64 (BO.ev .rem .i64 a 65536) 2048) 0) (sL0 a 0 0 0 0 0 3) (sL0 a (BO.ev .quo .i64 a 67108864) (BO.ev .rem .i64 (BO.ev .quo .i64 a 2097152) 32) (BO.ev .rem .i64 (BO.ev .quo .i64 a 65536) 32) (BO.ev .quo .i64 (BO.ev .rem .i64 a 65536) 2048) 0 0)) (sq3 a)) (sq3 a))
theorem q1 {w : Int} (h : 0 ≤ w) (h2 : w ≤ 4294967295) : BO.ev .quo .i64 w 67108864 = w / 67108864 := quo_pos h (by omega) (by decide)
theorem q2 {w : Int} (h : 0 ≤ w) (h2 : w ≤ 4294967295) : BO.ev .quo .i64 w 2097152 = w / 2097152 := quo_pos h (by omega) (by decide)
theorem q3 {w : Int} (h : 0 ≤ w) (h2 : w ≤ 4294967295) : BO.ev .quo .i64 w 65536 = w / 65536 := quo_pos h (by omega) (by decide)
theorem q4 {w : Int} (h : 0 ≤ w) (h2 : w ≤ 4294967295) : BO.ev .quo .i64 (w % 65536) 2048 = w % 65536 / 2048 := quo_pos (by omega) (by omega) (by decide)
set_option maxHeartbeats 8000000 in
theorem holds (p0 : Int) (l_p0 : 0 ≤ p0) (u_p0 : p0 ≤ 4294967295) : P p0 := by
 delta P sq0 sq1 sq2 sq3 sL0 Pb PL Pl Pe Pd
 have e1 := q1 l_p0 u_p0
 have e2 := q2 l_p0 u_p0
 have e3 := q3 l_p0 u_p0
 have e4 := q4 l_p0 u_p0
 have e5 : BO.ev .rem .i64 (p0 / 2097152) 32 = p0 / 2097152 % 32 := rem_pos (by omega)
 have e6 : BO.ev .rem .i64 (p0 / 65536) 32 = p0 / 65536 % 32 := rem_pos (by omega)
 have e7 : BO.ev .rem .i64 p0 65536 = p0 % 65536 := rem_pos (by omega)
 have e8 : BO.ev .rem .i64 (p0 % 65536) 2048 = p0 % 65536 % 2048 := rem_pos (by omega)
 simp only [e1, e2, e3, e7, e4, e5, e6, e8]
 simp only [nrm, Int.reduceEq, Int.reduceNeg, reduceIte]
 repeat' (first | refine ⟨fun _ => ?_, fun _ => ?_⟩ | exact dec_no2 l_p0 u_p0 (by omega) | exact dec_no3 l_p0 u_p0 (by omega) (by unfold decP; simp only; omega) | exact dec_fit l_p0 u_p0 (by unfold decP; simp only; omega) (by omega) (by omega) (by omega) (by split <;> omega) (by unfold decN; simp only; split <;> (try split) <;> omega) | rintro _ rfl _)
theorem plain (i v ro p) : statR 2 rc tree ⟨i, fN, v, ro, p⟩ = P (i 0) := by kernel_rfl
theorem ran : ranR us (fun _ _ => .auto) rc 2 tree = true := by kernel_rfl
theorem fineT : fineR 2 rc tree = true := by kernel_rfl
theorem ok : RcOk (cxOf 2) rc := okR us_ok ran fineT okb fun i v ro p hρ hcap hpre => by rw [plain]; have q := hρ.hi; exact holds (i 0) (q 0 _ rfl).1 (q 0 _ rfl).2
end CRDec
namespace CRLow
def rc : Rc := ⟨49, [none], [.int .i64], [], .one, [.int .i32 (.w .i32 (.v 0))]⟩
theorem okb : rc.ok = true := by kernel_rfl
noncomputable def us : SMs := fun Γ ins n => smH (cxG n Γ ins) [] (smR (cxG n Γ ins) [])
theorem us_ok : SMsOk us := fun Γ ins n => smH_ok (tabsG n Γ ins) (rhs_nil _) (smR_ok (tabsG n Γ ins) (rcs_nil _))
def tree : TT (List E) :=
(.br (.b .lt .i64 (.b .rem .i64 (.v 0) (.c 4294967296)) (.c 0))
 (.br (.b .le .i64 (.c 2147483648) (.b .padd .i64 (.b .rem .i64 (.v 0) (.c 4294967296)) (.c 4294967296)))
 (.leaf [(.w .i32 (.b .psub .i64 (.b .padd .i64 (.b .rem .i64 (.v 0) (.c 4294967296)) (.c 4294967296)) (.c 4294967296)))])
 (.leaf [(.w .i32 (.b .padd .i64 (.b .rem .i64 (.v 0) (.c 4294967296)) (.c 4294967296)))]))
 (.br (.b .le .i64 (.c 2147483648) (.b .rem .i64 (.v 0) (.c 4294967296)))
 (.leaf [(.w .i32 (.b .psub .i64 (.b .rem .i64 (.v 0) (.c 4294967296)) (.c 4294967296)))])
 (.leaf [(.w .i32 (.b .rem .i64 (.v 0) (.c 4294967296)))])))
def P (p0 : Int) : Prop :=
 (((bool01 (decide ((BO.ev .rem .i64 p0 4294967296) < 0))) ≠ 0 →
  (((bool01 (decide (2147483648 ≤ ((BO.ev .rem .i64 p0 4294967296) + 4294967296)))) ≠ 0 →
   ((IntKind.wrap .i32 (((BO.ev .rem .i64 p0 4294967296) + 4294967296) - 4294967296)) : Int) = (IntKind.wrap .i32 p0) ∧ True) ∧ ((bool01 (decide (2147483648 ≤ ((BO.ev .rem .i64 p0 4294967296) + 4294967296)))) = 0 →
   ((IntKind.wrap .i32 ((BO.ev .rem .i64 p0 4294967296) + 4294967296)) : Int) = (IntKind.wrap .i32 p0) ∧ True))) ∧ ((bool01 (decide ((BO.ev .rem .i64 p0 4294967296) < 0))) = 0 →
  (((bool01 (decide (2147483648 ≤ (BO.ev .rem .i64 p0 4294967296)))) ≠ 0 →
   ((IntKind.wrap .i32 ((BO.ev .rem .i64 p0 4294967296) - 4294967296)) : Int) = (IntKind.wrap .i32 p0) ∧ True) ∧ ((bool01 (decide (2147483648 ≤ (BO.ev .rem .i64 p0 4294967296)))) = 0 →
   ((IntKind.wrap .i32 (BO.ev .rem .i64 p0 4294967296)) : Int) = (IntKind.wrap .i32 p0) ∧ True))))
theorem i32_form (x : Int) : IntKind.wrap .i32 x = if 2147483648 ≤ x % 4294967296 then x % 4294967296 - 4294967296 else x % 4294967296 := by
 simp [IntKind.wrap, IntKind.bits, IntKind.signed] <;> (try split) <;> omega
theorem tm (x : Int) : BO.ev .rem .i64 x 4294967296 = if 0 ≤ x then x % 4294967296 else -((-x) % 4294967296) := by
 show x.tmod 4294967296 = _
 split
 ·exact Int.tmod_eq_emod_of_nonneg (by assumption)
 ·rename_i h
  rw [← Int.neg_neg x, Int.neg_tmod, Int.tmod_eq_emod_of_nonneg (by omega), Int.neg_neg]
theorem holds (p0 : Int) (l_p0 : -9223372036854775808 ≤ p0) (u_p0 : p0 ≤ 9223372036854775807) : P p0 := by
 unfold P
 simp only [tm, i32_form]
 simp only [nrm, Int.reduceEq, Int.reduceNeg, reduceIte]
 refine ⟨fun h => ⟨fun h2 => ?_, fun h2 => ?_⟩, fun h => ⟨fun h2 => ?_, fun h2 => ?_⟩⟩ <;> (repeat' split at *) <;> omega
theorem plain (i v ro p) : statR 2 rc tree ⟨i, fN, v, ro, p⟩ = P (i 0) := by kernel_rfl
theorem ran : ranR us (fun _ _ => .auto) rc 2 tree = true := by kernel_rfl
theorem fineT : fineR 2 rc tree = true := by kernel_rfl
theorem ok : RcOk (cxOf 2) rc := okR us_ok ran fineT okb fun i v ro p hρ hcap hpre => by rw [plain]; have q := hρ.hi; exact holds (i 0) (q 0 _ rfl).1 (q 0 _ rfl).2
end CRLow
namespace CRPlain
def rc : Rc := ⟨150, [none], [.int .i32], [], .one, [.int .i64 (.w .u32 (.v 0))]⟩
theorem okb : rc.ok = true := by kernel_rfl
noncomputable def us : SMs := fun Γ ins n => smH (cxG n Γ ins) [] (smR (cxG n Γ ins) [])
theorem us_ok : SMsOk us := fun Γ ins n => smH_ok (tabsG n Γ ins) (rhs_nil _) (smR_ok (tabsG n Γ ins) (rcs_nil _))
def tree : TT (List E) :=
(.br (.b .lt .i64 (.b .rem .i64 (.v 0) (.c 4294967296)) (.c 0))
 (.leaf [(.b .padd .i64 (.b .rem .i64 (.v 0) (.c 4294967296)) (.c 4294967296))])
 (.leaf [(.b .rem .i64 (.v 0) (.c 4294967296))]))
def P (p0 : Int) : Prop :=
 (((bool01 (decide ((BO.ev .rem .i64 p0 4294967296) < 0))) ≠ 0 →
  (((BO.ev .rem .i64 p0 4294967296) + 4294967296) : Int) = (IntKind.wrap .u32 p0) ∧ True) ∧ ((bool01 (decide ((BO.ev .rem .i64 p0 4294967296) < 0))) = 0 →
  ((BO.ev .rem .i64 p0 4294967296) : Int) = (IntKind.wrap .u32 p0) ∧ True))
theorem tm (x : Int) : BO.ev .rem .i64 x 4294967296 = if 0 ≤ x then x % 4294967296 else -((-x) % 4294967296) := by
 show x.tmod 4294967296 = _
 split
 ·exact Int.tmod_eq_emod_of_nonneg (by assumption)
 ·rename_i h
  rw [← Int.neg_neg x, Int.neg_tmod, Int.tmod_eq_emod_of_nonneg (by omega), Int.neg_neg]
theorem holds (p0 : Int) (l_p0 : -2147483648 ≤ p0) (u_p0 : p0 ≤ 2147483647) : P p0 := by
 unfold P
 simp only [tm, wu32]
 simp only [nrm, Int.reduceEq, Int.reduceNeg, reduceIte]
 refine ⟨fun h => ?_, fun h => ?_⟩ <;> (repeat' split at *) <;> omega
theorem plain (i v ro p) : statR 2 rc tree ⟨i, fN, v, ro, p⟩ = P (i 0) := by kernel_rfl
theorem ran : ranR us (fun _ _ => .auto) rc 2 tree = true := by kernel_rfl
theorem fineT : fineR 2 rc tree = true := by kernel_rfl
theorem ok : RcOk (cxOf 2) rc := okR us_ok ran fineT okb fun i v ro p hρ hcap hpre => by rw [plain]; have q := hρ.hi; exact holds (i 0) (q 0 _ rfl).1 (q 0 _ rfl).2
end CRPlain
namespace CRBits
def rc : Rc := ⟨145, [none], [.int .i32], [], .agg 32, [.int .i64 (.f 2 (.v 0) (.c 0) (.c 0)), .int .i64 (.f 2 (.v 0) (.c 1) (.c 0)), .int .i64 (.f 2 (.v 0) (.c 2) (.c 0)), .int .i64 (.f 2 (.v 0) (.c 3) (.c 0)), .int .i64 (.f 2 (.v 0) (.c 4) (.c 0)), .int .i64 (.f 2 (.v 0) (.c 5) (.c 0)), .int .i64 (.f 2 (.v 0) (.c 6) (.c 0)), .int .i64 (.f 2 (.v 0) (.c 7) (.c 0)), .int .i64 (.f 2 (.v 0) (.c 8) (.c 0)), .int .i64 (.f 2 (.v 0) (.c 9) (.c 0)), .int .i64 (.f 2 (.v 0) (.c 10) (.c 0)), .int .i64 (.f 2 (.v 0) (.c 11) (.c 0)), .int .i64 (.f 2 (.v 0) (.c 12) (.c 0)), .int .i64 (.f 2 (.v 0) (.c 13) (.c 0)), .int .i64 (.f 2 (.v 0) (.c 14) (.c 0)), .int .i64 (.f 2 (.v 0) (.c 15) (.c 0)), .int .i64 (.f 2 (.v 0) (.c 16) (.c 0)), .int .i64 (.f 2 (.v 0) (.c 17) (.c 0)), .int .i64 (.f 2 (.v 0) (.c 18) (.c 0)), .int .i64 (.f 2 (.v 0) (.c 19) (.c 0)), .int .i64 (.f 2 (.v 0) (.c 20) (.c 0)), .int .i64 (.f 2 (.v 0) (.c 21) (.c 0)), .int .i64 (.f 2 (.v 0) (.c 22) (.c 0)), .int .i64 (.f 2 (.v 0) (.c 23) (.c 0)), .int .i64 (.f 2 (.v 0) (.c 24) (.c 0)), .int .i64 (.f 2 (.v 0) (.c 25) (.c 0)), .int .i64 (.f 2 (.v 0) (.c 26) (.c 0)), .int .i64 (.f 2 (.v 0) (.c 27) (.c 0)), .int .i64 (.f 2 (.v 0) (.c 28) (.c 0)), .int .i64 (.f 2 (.v 0) (.c 29) (.c 0)), .int .i64 (.f 2 (.v 0) (.c 30) (.c 0)), .int .i64 (.f 2 (.v 0) (.c 31) (.c 0))]⟩
theorem okb : rc.ok = true := by kernel_rfl
noncomputable def us : SMs := fun Γ ins n => smH (cxG n Γ ins) [] (smR (cxG n Γ ins) [CRPlain.rc])
theorem us_ok : SMsOk us := fun Γ ins n => smH_ok (tabsG n Γ ins) (rhs_nil _) (smR_ok (tabsG n Γ ins) (rcs_cons CRPlain.okb (rc_n CRPlain.ok) (rcs_nil _)))
def Q0 : E := (.b .quo .i64 (.w .u32 (.v 0)) (.c 2))
def Q1 : E := (.b .quo .i64 Q0 (.c 2))
def Q2 : E := (.b .quo .i64 Q1 (.c 2))
def Q3 : E := (.b .quo .i64 Q2 (.c 2))
def Q4 : E := (.b .quo .i64 Q3 (.c 2))
def Q5 : E := (.b .quo .i64 Q4 (.c 2))
def Q6 : E := (.b .quo .i64 Q5 (.c 2))
def Q7 : E := (.b .quo .i64 Q6 (.c 2))
def Q8 : E := (.b .quo .i64 Q7 (.c 2))
def Q9 : E := (.b .quo .i64 Q8 (.c 2))
def Q10 : E := (.b .quo .i64 Q9 (.c 2))
def Q11 : E := (.b .quo .i64 Q10 (.c 2))
def Q12 : E := (.b .quo .i64 Q11 (.c 2))
def Q13 : E := (.b .quo .i64 Q12 (.c 2))
def Q14 : E := (.b .quo .i64 Q13 (.c 2))
def Q15 : E := (.b .quo .i64 Q14 (.c 2))
def Q16 : E := (.b .quo .i64 Q15 (.c 2))
def Q17 : E := (.b .quo .i64 Q16 (.c 2))
def Q18 : E := (.b .quo .i64 Q17 (.c 2))
def Q19 : E := (.b .quo .i64 Q18 (.c 2))
def Q20 : E := (.b .quo .i64 Q19 (.c 2))
def Q21 : E := (.b .quo .i64 Q20 (.c 2))
def Q22 : E := (.b .quo .i64 Q21 (.c 2))
def Q23 : E := (.b .quo .i64 Q22 (.c 2))
def Q24 : E := (.b .quo .i64 Q23 (.c 2))
def Q25 : E := (.b .quo .i64 Q24 (.c 2))
def Q26 : E := (.b .quo .i64 Q25 (.c 2))
def Q27 : E := (.b .quo .i64 Q26 (.c 2))
def Q28 : E := (.b .quo .i64 Q27 (.c 2))
def Q29 : E := (.b .quo .i64 Q28 (.c 2))
def tree : TT (List E) :=
 (.leaf [(.b .rem .i64 (.w .u32 (.v 0)) (.c 2)), (.b .rem .i64 Q0 (.c 2)), (.b .rem .i64 Q1 (.c 2)), (.b .rem .i64 Q2 (.c 2)), (.b .rem .i64 Q3 (.c 2)), (.b .rem .i64 Q4 (.c 2)), (.b .rem .i64 Q5 (.c 2)), (.b .rem .i64 Q6 (.c 2)), (.b .rem .i64 Q7 (.c 2)), (.b .rem .i64 Q8 (.c 2)), (.b .rem .i64 Q9 (.c 2)), (.b .rem .i64 Q10 (.c 2)), (.b .rem .i64 Q11 (.c 2)), (.b .rem .i64 Q12 (.c 2)), (.b .rem .i64 Q13 (.c 2)), (.b .rem .i64 Q14 (.c 2)), (.b .rem .i64 Q15 (.c 2)), (.b .rem .i64 Q16 (.c 2)), (.b .rem .i64 Q17 (.c 2)), (.b .rem .i64 Q18 (.c 2)), (.b .rem .i64 Q19 (.c 2)), (.b .rem .i64 Q20 (.c 2)), (.b .rem .i64 Q21 (.c 2)), (.b .rem .i64 Q22 (.c 2)), (.b .rem .i64 Q23 (.c 2)), (.b .rem .i64 Q24 (.c 2)), (.b .rem .i64 Q25 (.c 2)), (.b .rem .i64 Q26 (.c 2)), (.b .rem .i64 Q27 (.c 2)), (.b
 .rem .i64 Q28 (.c 2)), (.b .rem .i64 Q29 (.c 2)), (.b .rem .i64 (.b .quo .i64 Q29 (.c 2)) (.c 2))])
noncomputable def sq0 (a : Int) : Int := (BO.ev .quo .i64 (BO.ev .quo .i64 (BO.ev .quo .i64 (BO.ev .quo .i64 (BO.ev .quo .i64 (BO.ev .quo .i64 (BO.ev .quo .i64 (BO.ev .quo .i64 (BO.ev .quo .i64 (BO.ev .quo .i64 (BO.ev .quo .i64 (BO.ev .quo .i64 (BO.ev .quo .i64 (BO.ev .quo .i64 (BO.ev .quo .i64 (BO.ev .quo .i64 (U3 a) 2) 2) 2) 2) 2) 2) 2) 2) 2) 2) 2) 2) 2) 2) 2) 2)
noncomputable def sq1 (a : Int) : Int := (BO.ev .quo .i64 (BO.ev .quo .i64 (BO.ev .quo .i64 (BO.ev .quo .i64 (BO.ev .quo .i64 (BO.ev .quo .i64 (BO.ev .quo .i64 (BO.ev .quo .i64 (sq0 a) 2) 2) 2) 2) 2) 2) 2) 2)
noncomputable def sq2 (a : Int) : Int := (BO.ev .quo .i64 (BO.ev .quo .i64 (BO.ev .quo .i64 (BO.ev .quo .i64 (BO.ev .quo .i64 (BO.ev .quo .i64 (BO.ev .quo .i64 (BO.ev .quo .i64 (U3 a) 2) 2) 2) 2) 2) 2) 2) 2)
noncomputable def sq3 (a : Int) : Int := (BO.ev .quo .i64 (BO.ev .quo .i64 (BO.ev .quo .i64 (BO.ev .quo .i64 (sq2 a) 2) 2) 2) 2)
noncomputable def sq4 (a : Int) : Int := (BO.ev .quo .i64 (BO.ev .quo .i64 (BO.ev .quo .i64 (BO.ev .quo .i64 (sq1 a) 2) 2) 2) 2)
noncomputable def sq5 (a : Int) : Int := (BO.ev .quo .i64 (BO.ev .quo .i64 (BO.ev .quo .i64 (BO.ev .quo .i64 (sq0 a) 2) 2) 2) 2)
noncomputable def sq6 (a : Int) : Int := (BO.ev .quo .i64 (BO.ev .quo .i64 (BO.ev .quo .i64 (BO.ev .quo .i64 (U3 a) 2) 2) 2) 2)
def P (a : Int) : Prop :=
 (((BO.ev .rem .i64 (U3 a) 2) : Int) = (bitZ a 0) ∧ ((BO.ev .rem .i64 (BO.ev .quo .i64 (U3 a) 2) 2) : Int) = (bitZ a 1) ∧ ((BO.ev .rem .i64 (BO.ev .quo .i64 (BO.ev .quo .i64 (U3 a) 2) 2) 2) : Int) = (bitZ a 2) ∧ ((BO.ev .rem .i64 (BO.ev .quo .i64 (BO.ev .quo .i64 (BO.ev .quo .i64 (U3 a) 2) 2) 2) 2) : Int) = (bitZ a 3) ∧ ((BO.ev .rem .i64 (sq6 a) 2) : Int) = (bitZ a 4) ∧ ((BO.ev .rem .i64 (BO.ev .quo .i64 (sq6 a) 2) 2) : Int) = (bitZ a 5) ∧ ((BO.ev .rem .i64 (BO.ev .quo .i64 (BO.ev .quo .i64 (sq6 a) 2) 2) 2) : Int) = (bitZ a 6) ∧ ((BO.ev .rem .i64 (BO.ev .quo .i64 (BO.ev .quo .i64 (BO.ev .quo .i64 (sq6 a) 2) 2) 2) 2) : Int) = (bitZ a 7) ∧ ((BO.ev .rem .i64 (sq2 a) 2) : Int) = (bitZ a 8) ∧ ((BO.ev .rem .i64 (BO.ev .quo .i64 (sq2 a) 2) 2) : Int) = (bitZ a 9) ∧ ((BO.ev .rem .i64 (BO.ev .quo
 .i64 (BO.ev .quo .i64 (sq2 a) 2) 2) 2) : Int) = (bitZ a 10) ∧ ((BO.ev .rem .i64 (BO.ev .quo .i64 (BO.ev .quo .i64 (BO.ev .quo .i64 (sq2 a) 2) 2) 2) 2) : Int) = (bitZ a 11) ∧ ((BO.ev .rem .i64 (sq3 a) 2) : Int) = (bitZ a 12) ∧ ((BO.ev .rem .i64 (BO.ev .quo .i64 (sq3 a) 2) 2) : Int) = (bitZ a 13) ∧ ((BO.ev .rem .i64 (BO.ev .quo .i64 (BO.ev .quo .i64 (sq3 a) 2) 2) 2) : Int) = (bitZ a 14) ∧ ((BO.ev .rem .i64 (BO.ev .quo .i64 (BO.ev .quo .i64 (BO.ev .quo .i64 (sq3 a) 2) 2) 2) 2) : Int) = (bitZ a 15) ∧ ((BO.ev .rem .i64 (sq0 a) 2) : Int) = (bitZ a 16) ∧ ((BO.ev .rem .i64 (BO.ev .quo .i64 (sq0 a) 2) 2) : Int) = (bitZ a 17) ∧ ((BO.ev .rem .i64 (BO.ev .quo .i64 (BO.ev .quo .i64 (sq0 a) 2) 2) 2) : Int) = (bitZ a 18) ∧ ((BO.ev .rem .i64 (BO.ev .quo .i64 (BO.ev .quo .i64 (BO.ev .quo .i64 (sq0 a) 2)
 2) 2) 2) : Int) = (bitZ a 19) ∧ ((BO.ev .rem .i64 (sq5 a) 2) : Int) = (bitZ a 20) ∧ ((BO.ev .rem .i64 (BO.ev .quo .i64 (sq5 a) 2) 2) : Int) = (bitZ a 21) ∧ ((BO.ev .rem .i64 (BO.ev .quo .i64 (BO.ev .quo .i64 (sq5 a) 2) 2) 2) : Int) = (bitZ a 22) ∧ ((BO.ev .rem .i64 (BO.ev .quo .i64 (BO.ev .quo .i64 (BO.ev .quo .i64 (sq5 a) 2) 2) 2) 2) : Int) = (bitZ a 23) ∧ ((BO.ev .rem .i64 (sq1 a) 2) : Int) = (bitZ a 24) ∧ ((BO.ev .rem .i64 (BO.ev .quo .i64 (sq1 a) 2) 2) : Int) = (bitZ a 25) ∧ ((BO.ev .rem .i64 (BO.ev .quo .i64 (BO.ev .quo .i64 (sq1 a) 2) 2) 2) : Int) = (bitZ a 26) ∧ ((BO.ev .rem .i64 (BO.ev .quo .i64 (BO.ev .quo .i64 (BO.ev .quo .i64 (sq1 a) 2) 2) 2) 2) : Int) = (bitZ a 27) ∧ ((BO.ev .rem .i64 (sq4 a) 2) : Int) = (bitZ a 28) ∧ ((BO.ev .rem .i64 (BO.ev .quo .i64 (sq4 a) 2) 2) : Int) =
 (bitZ a 29) ∧ ((BO.ev .rem .i64 (BO.ev .quo .i64 (BO.ev .quo .i64 (sq4 a) 2) 2) 2) : Int) = (bitZ a 30) ∧ ((BO.ev .rem .i64 (BO.ev .quo .i64 (BO.ev .quo .i64 (BO.ev .quo .i64 (sq4 a) 2) 2) 2) 2) : Int) = (bitZ a 31) ∧ True)
def qk (y : Int) : Nat → Int
 | 0 => y
 | k + 1 => BO.ev .quo .i64 (qk y k) 2
theorem qk_eq {y : Int} (h0 : 0 ≤ y) (h1 : y ≤ 4294967295) : ∀ k, qk y k = y / 2 ^ k
 | 0 => by rw [qk]; simp
 | k + 1 => by
  have hp : (0 : Int) < 2 ^ k := Int.pow_pos (by decide)
  have hk : 0 ≤ y / 2 ^ k := Int.ediv_nonneg h0 (by omega)
  have hk2 : y / 2 ^ k ≤ y := Int.ediv_le_self _ h0
  rw [qk, qk_eq h0 h1 k, quo_pos hk (by omega) (by decide), Int.ediv_ediv_of_nonneg (by omega), Int.pow_succ]
theorem bk {x : Int} (k : Nat) : BO.ev .rem .i64 (qk (IntKind.wrap .u32 x) k) 2 = bitZ x k := by
 have h0 : 0 ≤ IntKind.wrap .u32 x := by rw [wu32]; omega
 have h1 : IntKind.wrap .u32 x ≤ 4294967295 := by rw [wu32]; omega
 have hp : (0 : Int) < 2 ^ k := Int.pow_pos (by decide)
 rw [qk_eq h0 h1, rem_pos (Int.ediv_nonneg h0 (by omega)), wu32]; rfl
theorem holds (p0 : Int) (l_p0 : -2147483648 ≤ p0) (u_p0 : p0 ≤ 2147483647) : P p0 := by
 delta P sq0 sq1 sq2 sq3 sq4 sq5 sq6 U3
 exact ⟨bk 0, bk 1, bk 2, bk 3, bk 4, bk 5, bk 6, bk 7, bk 8, bk 9, bk 10, bk 11, bk 12, bk 13, bk 14, bk 15, bk 16, bk 17, bk 18, bk 19, bk 20, bk 21, bk 22, bk 23, bk 24, bk 25, bk 26, bk 27, bk 28, bk 29, bk 30, bk 31, trivial⟩
theorem plain (i v ro p) : statR 2 rc tree ⟨i, fN, v, ro, p⟩ = P (i 0) := by kernel_rfl
theorem ran : ranR us (fun f _ => if [145].contains f then .unroll 400 else .auto) rc 2 tree = true := by kernel_rfl
theorem fineT : fineR 2 rc tree = true := by kernel_rfl
theorem ok : RcOk (cxOf 2) rc := okR us_ok ran fineT okb fun i v ro p hρ hcap hpre => by rw [plain]; have q := hρ.hi; exact holds (i 0) (q 0 _ rfl).1 (q 0 _ rfl).2
end CRBits
namespace CROf
def rc : Rc := ⟨149, [some 32], [.int .i64, .int .i64, .int .i64, .int .i64, .int .i64, .int .i64, .int .i64, .int .i64, .int .i64, .int .i64, .int .i64, .int .i64, .int .i64, .int .i64, .int .i64, .int .i64, .int .i64, .int .i64, .int .i64, .int .i64, .int .i64, .int .i64, .int .i64, .int .i64, .int .i64, .int .i64, .int .i64, .int .i64, .int .i64, .int .i64, .int .i64, .int .i64], [], .one, [.int .i32 (.f 77 (.v 0) (.v 1) (listE [(.v 2), (.v 3), (.v 4), (.v 5), (.v 6), (.v 7), (.v 8), (.v 9), (.v 10), (.v 11), (.v 12), (.v 13), (.v 14), (.v 15), (.v 16), (.v 17), (.v 18), (.v 19), (.v 20), (.v 21), (.v 22), (.v 23), (.v 24), (.v 25), (.v 26), (.v 27), (.v 28), (.v 29), (.v 30), (.v 31)]))]⟩
theorem okb : rc.ok = true := by kernel_rfl
noncomputable def us : SMs := fun Γ ins n => smH (cxG n Γ ins) [] (smR (cxG n Γ ins) [CRLow.rc])
theorem us_ok : SMsOk us := fun Γ ins n => smH_ok (tabsG n Γ ins) (rhs_nil _) (smR_ok (tabsG n Γ ins) (rcs_cons CRLow.okb (rc_n CRLow.ok) (rcs_nil _)))
def tree : TT (List E) :=
(.new 1000 (.w .i64 (.b .padd .i64 (.w .i64 (.b .pmul .i64 (.c 2) (.w .i64 (.b .padd .i64 (.w .i64 (.b .pmul .i64 (.c 2) (.w .i64 (.b .padd .i64 (.w .i64 (.b .pmul .i64 (.c 2) (.w .i64 (.b .padd .i64 (.w .i64 (.b .pmul .i64 (.c 2) (.w .i64 (.b .padd .i64 (.w .i64 (.b .pmul .i64 (.c 2) (.w .i64 (.b .padd .i64 (.w .i64 (.b .pmul .i64 (.c 2) (.w .i64 (.b .padd .i64 (.w .i64 (.b .pmul .i64 (.c 2) (.w .i64 (.b .padd .i64 (.w .i64 (.b .pmul .i64 (.c 2) (.w .i64 (.b .padd .i64 (.w .i64 (.b .pmul .i64 (.c 2) (.w .i64 (.b .padd .i64 (.w .i64 (.b .pmul .i64 (.c 2) (.w .i64 (.b .padd .i64 (.w .i64 (.b .pmul .i64 (.c 2) (.w .i64 (.b .padd .i64 (.w .i64 (.b .pmul .i64 (.c 2) (.w .i64 (.b .padd .i64 (.w .i64 (.b .pmul .i64 (.c 2) (.w .i64 (.b .padd .i64 (.w .i64 (.b .pmul .i64 (.c 2) (.w .i64 (.b .padd .i64 (.w .i64 (.b .pmul .i64 (.c 2) (.w .i64 (.b .padd .i64 (.w .i64 (.b .pmul .i64 (.c 2) (.w .i64 (.b .padd .i64 (.w .i64 (.b .pmul .i64 (.c 2) (.w .i64 (.b .padd .i64 (.w .i64 (.b .pmul .i64 (.c 2) (.w .i64 (.b .padd .i64 (.w .i64 (.b .pmul .i64 (.c 2) (.w .i64 (.b .padd .i64 (.w .i64 (.b .pmul .i64 (.c 2) (.w .i64 (.b .padd .i64 (.w .i64 (.b .pmul .i64 (.c 2) (.w .i64 (.b .padd .i64 (.w .i64 (.b .pmul .i64 (.c 2) (.w .i64 (.b .padd .i64 (.w .i64 (.b .pmul .i64 (.c 2) (.w .i64 (.b .padd .i64 (.w .i64 (.b .pmul .i64 (.c 2) (.w .i64 (.b .padd .i64 (.w .i64 (.b .pmul .i64 (.c 2) (.w .i64 (.b .padd .i64 (.w .i64 (.b .pmul .i64 (.c 2) (.w .i64 (.b .padd .i64 (.w .i64 (.b .pmul .i64 (.c 2) (.w .i64 (.b .padd .i64 (.w .i64 (.b .pmul .i64 (.c 2) (.w .i64 (.b .padd .i64 (.w .i64 (.b .pmul .i64 (.c 2) (.w .i64 (.b .padd .i64 (.w .i64 (.b .pmul .i64 (.c 2) (.w .i64 (.b .padd .i64 (.w .i64 (.b .pmul .i64 (.c 2) (.v 31))) (.v 30))))) (.v 29))))) (.v 28))))) (.v 27))))) (.v 26))))) (.v 25))))) (.v 24))))) (.v 23))))) (.v 22))))) (.v 21))))) (.v 20))))) (.v 19))))) (.v 18))))) (.v 17))))) (.v 16))))) (.v 15))))) (.v 14))))) (.v 13))))) (.v 12))))) (.v 11))))) (.v 10))))) (.v 9))))) (.v 8))))) (.v 7))))) (.v 6))))) (.v 5))))) (.v 4))))) (.v 3))))) (.v 2))))) (.v 1))))) (.v 0)))
 (.leaf [(.w .i32 (.cl 1000 (-9223372036854775808) 9223372036854775807))]))
def P (p0_0 p0_1 p0_2 p0_3 p0_4 p0_5 p0_6 p0_7 p0_8 p0_9 p0_10 p0_11 p0_12 p0_13 p0_14 p0_15 p0_16 p0_17 p0_18 p0_19 p0_20 p0_21 p0_22 p0_23 p0_24 p0_25 p0_26 p0_27 p0_28 p0_29 p0_30 p0_31 : Int) : Prop :=
 ∀ y1000 : Int, y1000 = (IntKind.wrap .i64 ((IntKind.wrap .i64 (2 * (IntKind.wrap .i64 ((IntKind.wrap .i64 (2 * (IntKind.wrap .i64 ((IntKind.wrap .i64 (2 * (IntKind.wrap .i64 ((IntKind.wrap .i64 (2 * (IntKind.wrap .i64 ((IntKind.wrap .i64 (2 * (IntKind.wrap .i64 ((IntKind.wrap .i64 (2 * (IntKind.wrap .i64 ((IntKind.wrap .i64 (2 * (IntKind.wrap .i64 ((IntKind.wrap .i64 (2 * (IntKind.wrap .i64 ((IntKind.wrap .i64 (2 * (IntKind.wrap .i64 ((IntKind.wrap .i64 (2 * (IntKind.wrap .i64 ((IntKind.wrap .i64 (2 * (IntKind.wrap .i64 ((IntKind.wrap .i64 (2 * (IntKind.wrap .i64 ((IntKind.wrap .i64 (2 * (IntKind.wrap .i64 ((IntKind.wrap .i64 (2 * (IntKind.wrap .i64 ((IntKind.wrap .i64 (2 * (IntKind.wrap .i64 ((IntKind.wrap .i64 (2 * (IntKind.wrap .i64 ((IntKind.wrap .i64 (2 * (IntKind.wrap .i64 ((IntKind.wrap .i64 (2 * (IntKind.wrap .i64 ((IntKind.wrap .i64 (2 * (IntKind.wrap .i64 ((IntKind.wrap .i64 (2 * (IntKind.wrap .i64 ((IntKind.wrap .i64 (2 * (IntKind.wrap .i64 ((IntKind.wrap .i64 (2 * (IntKind.wrap .i64 ((IntKind.wrap .i64 (2 * (IntKind.wrap .i64 ((IntKind.wrap .i64 (2 * (IntKind.wrap .i64 ((IntKind.wrap .i64 (2 * (IntKind.wrap .i64 ((IntKind.wrap .i64 (2 * (IntKind.wrap .i64 ((IntKind.wrap .i64 (2 * (IntKind.wrap .i64 ((IntKind.wrap .i64 (2 * (IntKind.wrap .i64 ((IntKind.wrap .i64 (2 * (IntKind.wrap .i64 ((IntKind.wrap .i64 (2 * (IntKind.wrap .i64 ((IntKind.wrap .i64 (2 * p0_31)) + p0_30)))) + p0_29)))) + p0_28)))) + p0_27)))) + p0_26)))) + p0_25)))) + p0_24)))) + p0_23)))) + p0_22)))) + p0_21)))) + p0_20)))) + p0_19)))) + p0_18)))) + p0_17)))) + p0_16)))) + p0_15)))) + p0_14)))) + p0_13)))) + p0_12)))) + p0_11)))) + p0_10)))) + p0_9)))) + p0_8)))) + p0_7)))) + p0_6)))) + p0_5)))) + p0_4)))) + p0_3)))) + p0_2)))) + p0_1)))) + p0_0)) → ((-9223372036854775808) ≤ y1000 ∧ y1000 ≤ 9223372036854775807) →
 ((IntKind.wrap .i32 y1000) : Int) = (ofZ p0_0 p0_1 (consZ p0_2 (consZ p0_3 (consZ p0_4 (consZ p0_5 (consZ p0_6 (consZ p0_7 (consZ p0_8 (consZ p0_9 (consZ p0_10 (consZ p0_11 (consZ p0_12 (consZ p0_13 (consZ p0_14 (consZ p0_15 (consZ p0_16 (consZ p0_17 (consZ p0_18 (consZ p0_19 (consZ p0_20 (consZ p0_21 (consZ p0_22 (consZ p0_23 (consZ p0_24 (consZ p0_25 (consZ p0_26 (consZ p0_27 (consZ p0_28 (consZ p0_29 (consZ p0_30 (consZ p0_31 0))))))))))))))))))))))))))))))) ∧ True
def hw (f : Nat → Int) : Nat → Int → Int
 | 0, a => a
 | k + 1, a => hw f k (IntKind.wrap .i64 (IntKind.wrap .i64 (2 * a) + f k))
theorem hw_mod (f : Nat → Int) : ∀ (k : Nat) (a b : Int), (a - b) % 4294967296 = 0 → (hw f k a - (b * 2 ^ k + sumB f k)) % 4294967296 = 0
 | 0, a, b, h => by rw [hw, sumB]; simp; omega
 | k + 1, a, b, h => by
  rw [hw, sumB]
  have h1 := w64_emod (2 * a)
  have h2 := w64_emod (IntKind.wrap .i64 (2 * a) + f k)
  have := hw_mod f k (IntKind.wrap .i64 (IntKind.wrap .i64 (2 * a) + f k)) (2 * b + f k) (by omega)
  have e : (2 * b + f k) * 2 ^ k + sumB f k = b * 2 ^ (k + 1) + (sumB f k + f k * 2 ^ k) := by
   rw [Int.pow_succ, Int.add_mul, Int.mul_comm 2 b, Int.mul_assoc b 2, Int.mul_comm 2 (2 ^ k)]; omega
  rw [e] at this
  exact this
theorem hw_word (f : Nat → Int) : IntKind.wrap .i32 (hw f 31 (f 31)) = IntKind.wrap .i32 (sumB f 32) := by
 have h := hw_mod f 31 (f 31) (f 31) (by omega)
 refine wi_cong ?_
 rw [sumB]
 have : f 31 * 2 ^ 31 = 2147483648 * f 31 := by rw [Int.mul_comm]; rfl
 rw [this] at h ⊢
 omega
def gk (l : List Int) (i : Nat) : Int := l.getD i 0
set_option maxRecDepth 100000 in
theorem holds (p0_0 p0_1 p0_2 p0_3 p0_4 p0_5 p0_6 p0_7 p0_8 p0_9 p0_10 p0_11 p0_12 p0_13 p0_14 p0_15 p0_16 p0_17 p0_18 p0_19 p0_20 p0_21 p0_22 p0_23 p0_24 p0_25 p0_26 p0_27 p0_28 p0_29 p0_30 p0_31 : Int) (l_p0_0 : -9223372036854775808 ≤ p0_0) (u_p0_0 : p0_0 ≤ 9223372036854775807) (l_p0_1 : -9223372036854775808 ≤ p0_1) (u_p0_1 : p0_1 ≤ 9223372036854775807) (l_p0_2 : -9223372036854775808 ≤ p0_2) (u_p0_2 : p0_2 ≤ 9223372036854775807) (l_p0_3 : -9223372036854775808 ≤ p0_3) (u_p0_3 : p0_3 ≤ 9223372036854775807) (l_p0_4 : -9223372036854775808 ≤ p0_4) (u_p0_4 : p0_4 ≤ 9223372036854775807) (l_p0_5 : -9223372036854775808 ≤ p0_5) (u_p0_5 : p0_5 ≤ 9223372036854775807) (l_p0_6 : -9223372036854775808 ≤ p0_6) (u_p0_6 : p0_6 ≤ 9223372036854775807) (l_p0_7 : -9223372036854775808 ≤ p0_7) (u_p0_7 : p0_7 ≤ 9223372036854775807) (l_p0_8 : -9223372036854775808 ≤ p0_8) (u_p0_8 : p0_8 ≤ 9223372036854775807) (l_p0_9 : -9223372036854775808 ≤ p0_9) (u_p0_9 : p0_9 ≤ 9223372036854775807) (l_p0_10 : -9223372036854775808 ≤ p0_10) (u_p0_10 : p0_10 ≤ 9223372036854775807) (l_p0_11 : -9223372036854775808 ≤ p0_11) (u_p0_11 : p0_11 ≤ 9223372036854775807) (l_p0_12 : -9223372036854775808 ≤ p0_12) (u_p0_12 : p0_12 ≤ 9223372036854775807) (l_p0_13 : -9223372036854775808 ≤ p0_13) (u_p0_13 : p0_13 ≤ 9223372036854775807) (l_p0_14 : -9223372036854775808 ≤ p0_14) (u_p0_14 : p0_14 ≤ 9223372036854775807) (l_p0_15 : -9223372036854775808 ≤ p0_15) (u_p0_15 : p0_15 ≤ 9223372036854775807) (l_p0_16 : -9223372036854775808 ≤ p0_16) (u_p0_16 : p0_16 ≤ 9223372036854775807) (l_p0_17 : -9223372036854775808 ≤ p0_17) (u_p0_17 : p0_17 ≤ 9223372036854775807) (l_p0_18 : -9223372036854775808 ≤ p0_18) (u_p0_18 : p0_18 ≤ 9223372036854775807) (l_p0_19 : -9223372036854775808 ≤ p0_19) (u_p0_19 : p0_19 ≤ 9223372036854775807) (l_p0_20 : -9223372036854775808 ≤ p0_20) (u_p0_20 : p0_20 ≤ 9223372036854775807) (l_p0_21 : -9223372036854775808 ≤ p0_21) (u_p0_21 : p0_21 ≤ 9223372036854775807) (l_p0_22 : -9223372036854775808 ≤ p0_22) (u_p0_22 : p0_22 ≤ 9223372036854775807) (l_p0_23 : -9223372036854775808 ≤ p0_23) (u_p0_23 : p0_23 ≤ 9223372036854775807) (l_p0_24 : -9223372036854775808 ≤ p0_24) (u_p0_24 : p0_24 ≤ 9223372036854775807) (l_p0_25 : -9223372036854775808 ≤ p0_25) (u_p0_25 : p0_25 ≤ 9223372036854775807) (l_p0_26 : -9223372036854775808 ≤ p0_26) (u_p0_26 : p0_26 ≤ 9223372036854775807) (l_p0_27 : -9223372036854775808 ≤ p0_27) (u_p0_27 : p0_27 ≤ 9223372036854775807) (l_p0_28 : -9223372036854775808 ≤ p0_28) (u_p0_28 : p0_28 ≤ 9223372036854775807) (l_p0_29 : -9223372036854775808 ≤ p0_29) (u_p0_29 : p0_29 ≤ 9223372036854775807) (l_p0_30 : -9223372036854775808 ≤ p0_30) (u_p0_30 : p0_30 ≤ 9223372036854775807) (l_p0_31 : -9223372036854775808 ≤ p0_31) (u_p0_31 : p0_31 ≤ 9223372036854775807) : P p0_0 p0_1 p0_2 p0_3 p0_4 p0_5 p0_6 p0_7 p0_8 p0_9 p0_10 p0_11 p0_12 p0_13 p0_14 p0_15 p0_16 p0_17 p0_18 p0_19 p0_20 p0_21 p0_22 p0_23 p0_24 p0_25 p0_26 p0_27 p0_28 p0_29 p0_30 p0_31 := by
 unfold P
 have h1 := of_chn (gk [p0_0, p0_1, p0_2, p0_3, p0_4, p0_5, p0_6, p0_7, p0_8, p0_9, p0_10, p0_11, p0_12, p0_13, p0_14, p0_15, p0_16, p0_17, p0_18, p0_19, p0_20, p0_21, p0_22, p0_23, p0_24, p0_25, p0_26, p0_27, p0_28, p0_29, p0_30, p0_31])
 have h2 := hw_word (gk [p0_0, p0_1, p0_2, p0_3, p0_4, p0_5, p0_6, p0_7, p0_8, p0_9, p0_10, p0_11, p0_12, p0_13, p0_14, p0_15, p0_16, p0_17, p0_18, p0_19, p0_20, p0_21, p0_22, p0_23, p0_24, p0_25, p0_26, p0_27, p0_28, p0_29, p0_30, p0_31])
 rintro _ rfl _
 exact ⟨h2.trans h1.symm, trivial⟩
theorem plain (i v ro p) : statR 2 rc tree ⟨i, fN, v, ro, p⟩ = P (i 0) (i 1) (i 2) (i 3) (i 4) (i 5) (i 6) (i 7) (i 8) (i 9) (i 10) (i 11) (i 12) (i 13) (i 14) (i 15) (i 16) (i 17) (i 18) (i 19) (i 20) (i 21) (i 22) (i 23) (i 24) (i 25) (i 26) (i 27) (i 28) (i 29) (i 30) (i 31) := by kernel_rfl
theorem ran : ranR us (fun f _ => if [149].contains f then .unroll 400 else .auto) rc 2 tree = true := by kernel_rfl
theorem fineT : fineR 2 rc tree = true := by kernel_rfl
theorem ok : RcOk (cxOf 2) rc := okR us_ok ran fineT okb fun i v ro p hρ hcap hpre => by rw [plain]; have q := hρ.hi; exact holds (i 0) (i 1) (i 2) (i 3) (i 4) (i 5) (i 6) (i 7) (i 8) (i 9) (i 10) (i 11) (i 12) (i 13) (i 14) (i 15) (i 16) (i 17) (i 18) (i 19) (i 20) (i 21) (i 22) (i 23) (i 24) (i 25) (i 26) (i 27) (i 28) (i 29) (i 30) (i 31) (q 0 _ rfl).1 (q 0 _ rfl).2 (q 1 _ rfl).1 (q 1 _ rfl).2 (q 2 _ rfl).1 (q 2 _ rfl).2 (q 3 _ rfl).1 (q 3 _ rfl).2 (q 4 _ rfl).1 (q 4 _ rfl).2 (q 5 _ rfl).1 (q 5 _ rfl).2 (q 6 _ rfl).1 (q 6 _ rfl).2 (q 7 _ rfl).1 (q 7 _ rfl).2 (q 8 _ rfl).1 (q 8 _ rfl).2 (q 9 _ rfl).1 (q 9 _ rfl).2 (q 10 _ rfl).1 (q 10 _ rfl).2 (q 11 _ rfl).1 (q 11 _ rfl).2 (q 12 _ rfl).1 (q 12 _ rfl).2 (q 13 _ rfl).1 (q 13 _ rfl).2 (q 14 _ rfl).1 (q 14 _ rfl).2 (q 15 _ rfl).1 (q 15 _ rfl).2 (q 16 _ rfl).1 (q 16 _ rfl).2 (q 17 _ rfl).1 (q 17 _ rfl).2 (q 18 _ rfl).1 (q 18 _ rfl).2 (q 19 _ rfl).1 (q 19 _ rfl).2 (q 20 _ rfl).1 (q 20 _ rfl).2 (q 21 _ rfl).1 (q 21 _ rfl).2 (q 22 _ rfl).1 (q 22 _ rfl).2 (q 23 _ rfl).1 (q 23 _ rfl).2 (q 24 _ rfl).1 (q 24 _ rfl).2 (q 25 _ rfl).1 (q 25 _ rfl).2 (q 26 _ rfl).1 (q 26 _ rfl).2 (q 27 _ rfl).1 (q 27 _ rfl).2 (q 28 _ rfl).1 (q 28 _ rfl).2 (q 29 _ rfl).1 (q 29 _ rfl).2 (q 30 _ rfl).1 (q 30 _ rfl).2 (q 31 _ rfl).1 (q 31 _ rfl).2
end CROf
namespace CRBy
def rc : Rc := ⟨148, [none], [.int .i32], [], .one, [.int .i64 (.f 79 (.v 0) (.c 0) (.c 0))]⟩
theorem okb : rc.ok = true := by kernel_rfl
noncomputable def us : SMs := fun Γ ins n => smH (cxG n Γ ins) [] (smR (cxG n Γ ins) [])
theorem us_ok : SMsOk us := fun Γ ins n => smH_ok (tabsG n Γ ins) (rhs_nil _) (smR_ok (tabsG n Γ ins) (rcs_nil _))
def tree : TT (List E) :=
(.br (.b .lt .i64 (.b .rem .i64 (.v 0) (.c 32)) (.c 0))
 (.leaf [(.b .padd .i64 (.b .rem .i64 (.v 0) (.c 32)) (.c 32))])
 (.leaf [(.b .rem .i64 (.v 0) (.c 32))]))
def P (p0 : Int) : Prop :=
 (((bool01 (decide ((BO.ev .rem .i64 p0 32) < 0))) ≠ 0 →
  (((BO.ev .rem .i64 p0 32) + 32) : Int) = (md32 p0) ∧ True) ∧ ((bool01 (decide ((BO.ev .rem .i64 p0 32) < 0))) = 0 →
  ((BO.ev .rem .i64 p0 32) : Int) = (md32 p0) ∧ True))
theorem tm (x : Int) : BO.ev .rem .i64 x 32 = if 0 ≤ x then x % 32 else -((-x) % 32) := by
 show x.tmod 32 = _
 split
 ·exact Int.tmod_eq_emod_of_nonneg (by assumption)
 ·rename_i h
  rw [← Int.neg_neg x, Int.neg_tmod, Int.tmod_eq_emod_of_nonneg (by omega), Int.neg_neg]
theorem holds (p0 : Int) (l_p0 : -2147483648 ≤ p0) (u_p0 : p0 ≤ 2147483647) : P p0 := by
 unfold P md32
 simp only [tm]
 simp only [nrm, Int.reduceEq, Int.reduceNeg, reduceIte]
 refine ⟨fun h => ?_, fun h => ?_⟩ <;> (repeat' split at *) <;> omega
theorem plain (i v ro p) : statR 2 rc tree ⟨i, fN, v, ro, p⟩ = P (i 0) := by kernel_rfl
theorem ran : ranR us (fun _ _ => .auto) rc 2 tree = true := by kernel_rfl
theorem fineT : fineR 2 rc tree = true := by kernel_rfl
theorem ok : RcOk (cxOf 2) rc := okR us_ok ran fineT okb fun i v ro p hρ hcap hpre => by rw [plain]; have q := hρ.hi; exact holds (i 0) (q 0 _ rfl).1 (q 0 _ rfl).2
end CRBy
end Go.Proofs.YtemcjakecoceaaaGreatDoor
