/-
  What functions of the program answer, as numbers of what they are handed: their runs by the engine, the plain statements behind them. No condition.
-/
import Derived.Test.YthfckifhnaoopacGab
import Derived.Test.YthfckifhnaoopacGp1
set_option linter.unusedVariables false
set_option linter.unusedSimpArgs false
set_option maxRecDepth 100000
namespace Go.Proofs.Ythfckifhnaoopac
open Go.Eng Go.RowKit
namespace CRSame17
def rc : Rc := ⟨8, [none, none], [.row [.int .i64] 1000000, .row [.int .i64] 1000000], [], .one, [.bool (.ite (.b .eq .i64 (.v 0) (.v 1)) (.f 32 (.v 2) (.v 3) (.v 0)) (.c 0))]⟩
theorem okb : rc.ok = true := by kernel_rfl
noncomputable def us : SMs := fun Γ ins n => smH (cxG n Γ ins) [] (smR (cxG n Γ ins) [])
theorem us_ok : SMsOk us := fun Γ ins n => qZp (tabsG n Γ ins) (qZk _) (qZo (tabsG n Γ ins) (qZy _))
def tree : TT (List E) :=
(.br (.b .ne .i64 (.v 0) (.v 1))
 (.leaf [(.c 0)])
 (.loop ⟨1000, [some (0, 4611686018427387904)], [(.c 0)], 1002⟩
 (.br (.b .lt .i64 (.cl 1000 0 4611686018427387904) (.v 0))
 (.br (.b .lt .i64 (.cl 1000 0 4611686018427387904) (.v 1))
 (.br (.b .ne .i64 (.w .i64 (.f 13 (.v 2) (.cl 1000 0 4611686018427387904) (.c 0))) (.w .i64 (.f 13 (.v 3) (.cl 1000 0 4611686018427387904) (.c 0))))
 (.exit 0)
 (.br (.b .le .i64 (.b .padd .i64 (.cl 1000 0 4611686018427387904) (.c 1)) (.c 4611686018427387904))
 (.back [(.b .padd .i64 (.cl 1000 0 4611686018427387904) (.c 1))])
 (.bad 303)))
 (.bad 200))
 (.exit 1))
 (.br (.b .eq .i64 (.v 1002) (.c 0))
 (.leaf [(.c 0)])
 (.leaf [(.c 1)]))))
def P (n0 n1 c0 c1 r0 r1 : Int) : Prop :=
 (((qQq (n0 != n1)) ≠ 0 →
  ((0 : Int) ≠ 0 ↔ ((iteZ (qQq (n0 == n1)) (qXo c0 c1 n0) 0) : Int) ≠ 0) ∧ True) ∧ ((qQq (n0 != n1)) = 0 →
  ∃ I1000 : Int → Nat → Prop, (∃ m, I1000 0 m) ∧
  ∀ y1000 : Int, ∀ m1000, ((0 ≤ y1000 ∧ y1000 ≤ 4611686018427387904) ∧ True) → I1000 y1000 m1000 →
   (((qQq (decide (y1000 < n0))) ≠ 0 →
    (((qQq (decide (y1000 < n1))) ≠ 0 →
     (((qQq ((IntKind.wrap .i64 (rdZ c0 y1000)) != (IntKind.wrap .i64 (rdZ c1 y1000)))) ≠ 0 →
      (((qQq ((0 : Int) == 0)) ≠ 0 →
       ((0 : Int) ≠ 0 ↔ ((iteZ (qQq (n0 == n1)) (qXo c0 c1 n0) 0) : Int) ≠ 0) ∧ True) ∧ ((qQq ((0 : Int) == 0)) = 0 →
       ((1 : Int) ≠ 0 ↔ ((iteZ (qQq (n0 == n1)) (qXo c0 c1 n0) 0) : Int) ≠ 0) ∧ True))) ∧ ((qQq ((IntKind.wrap .i64 (rdZ c0 y1000)) != (IntKind.wrap .i64 (rdZ c1 y1000)))) = 0 →
      (((qQq (decide ((y1000 + 1) ≤ 4611686018427387904))) ≠ 0 →
       ∃ m', m' < m1000 ∧ I1000 (y1000 + 1) m') ∧ ((qQq (decide ((y1000 + 1) ≤ 4611686018427387904))) = 0 →
       False))))) ∧ ((qQq (decide (y1000 < n1))) = 0 →
     False))) ∧ ((qQq (decide (y1000 < n0))) = 0 →
    (((qQq ((1 : Int) == 0)) ≠ 0 →
     ((0 : Int) ≠ 0 ↔ ((iteZ (qQq (n0 == n1)) (qXo c0 c1 n0) 0) : Int) ≠ 0) ∧ True) ∧ ((qQq ((1 : Int) == 0)) = 0 →
     ((1 : Int) ≠ 0 ↔ ((iteZ (qQq (n0 == n1)) (qXo c0 c1 n0) 0) : Int) ≠ 0) ∧ True))))))
theorem holds (n0 n1 c0 c1 r0 r1 : Int) (l_n0 : 0 ≤ n0) (u_n0 : n0 ≤ 1000000) (l_n1 : 0 ≤ n1) (u_n1 : n1 ≤ 1000000) (h_n0 : n0 ≤ r0) (h_n1 : n1 ≤ r1) : P n0 n1 c0 c1 r0 r1 := by
 unfold P
 simp only [nrm, Int.reduceEq, Int.reduceNeg, reduceIte]
 refine ⟨fun h => by simp [h], fun h => ?_⟩
 subst h
 simp only [if_true]
 have hs := sameZ_iff c0 c1 n0
 refine ⟨fun i m => (∀ k : Nat, (k : Int) < i → IntKind.wrap .i64 (rdZ c0 k) = IntKind.wrap .i64 (rdZ c1 k)) ∧ i ≤ n0 ∧ m = (n0 - i).toNat, ⟨_, fun k hk => by omega, l_n0, rfl⟩, fun i m hb hI => ?_⟩
 obtain ⟨hI, hi, rfl⟩ := hI
 obtain ⟨j, rfl⟩ : ∃ j : Nat, i = j := ⟨i.toNat, by omega⟩
 refine ⟨fun h1 => ⟨fun h2 => ⟨fun h3 => by have : ¬ (qXo c0 c1 n0 ≠ 0) := fun h => h3 (hs.1 h j h1); simp_all, fun h3 => ⟨fun h4 => ⟨_, ?_, fun k hk => ?_, by omega, rfl⟩, fun h4 => by omega⟩⟩, fun h2 => by omega⟩, fun h1 => by have := hs.2 fun k hk => hI k (by omega); simp_all⟩
 ·omega
 ·by_cases e : k = j
  ·subst e; exact h3
  ·exact hI k (by omega)
theorem plain (i v ro p) : statR 2 rc tree ⟨i, fN, v, ro, p⟩ = P (i 0) (i 1) (i 2) (i 3) (i 4) (i 5) := by kernel_rfl
theorem ran : ranR us (fun _ _ => .auto) rc 2 tree = true := by kernel_rfl
theorem fineT : fineR 2 rc tree = true := by kernel_rfl
theorem ok : RcOk (cxOf 2) rc := okR us_ok ran fineT okb fun i v ro p hρ hcap hpre => by rw [plain]; have q := hρ.hi; exact holds _ _ _ _ _ _ (q 0 _ rfl).1 (q 0 _ rfl).2 (q 1 _ rfl).1 (q 1 _ rfl).2 (hcap _ (mg 0 rfl)) (hcap _ (mg 1 rfl))
end CRSame17
namespace CRSame15
def rc : Rc := ⟨26, [none, none], [.row [.int .i32] 1000000, .row [.int .i32] 1000000], [], .one, [.bool (.ite (.b .eq .i64 (.v 0) (.v 1)) (.f 72 (.v 2) (.v 3) (.v 0)) (.c 0))]⟩
theorem okb : rc.ok = true := by kernel_rfl
noncomputable def us : SMs := fun Γ ins n => smH (cxG n Γ ins) [] (smR (cxG n Γ ins) [])
theorem us_ok : SMsOk us := fun Γ ins n => qZp (tabsG n Γ ins) (qZk _) (qZo (tabsG n Γ ins) (qZy _))
def tree : TT (List E) :=
(.br (.b .ne .i64 (.v 0) (.v 1))
 (.leaf [(.c 0)])
 (.loop ⟨1000, [some (0, 4611686018427387904)], [(.c 0)], 1002⟩
 (.br (.b .lt .i64 (.cl 1000 0 4611686018427387904) (.v 0))
 (.br (.b .lt .i64 (.cl 1000 0 4611686018427387904) (.v 1))
 (.br (.b .ne .i64 (.w .i32 (.f 13 (.v 2) (.cl 1000 0 4611686018427387904) (.c 0))) (.w .i32 (.f 13 (.v 3) (.cl 1000 0 4611686018427387904) (.c 0))))
 (.exit 0)
 (.br (.b .le .i64 (.b .padd .i64 (.cl 1000 0 4611686018427387904) (.c 1)) (.c 4611686018427387904))
 (.back [(.b .padd .i64 (.cl 1000 0 4611686018427387904) (.c 1))])
 (.bad 303)))
 (.bad 200))
 (.exit 1))
 (.br (.b .eq .i64 (.v 1002) (.c 0))
 (.leaf [(.c 0)])
 (.leaf [(.c 1)]))))
def P (n0 n1 c0 c1 r0 r1 : Int) : Prop :=
 (((qQq (n0 != n1)) ≠ 0 →
  ((0 : Int) ≠ 0 ↔ ((iteZ (qQq (n0 == n1)) (qJe c0 c1 n0) 0) : Int) ≠ 0) ∧ True) ∧ ((qQq (n0 != n1)) = 0 →
  ∃ I1000 : Int → Nat → Prop, (∃ m, I1000 0 m) ∧
  ∀ y1000 : Int, ∀ m1000, ((0 ≤ y1000 ∧ y1000 ≤ 4611686018427387904) ∧ True) → I1000 y1000 m1000 →
   (((qQq (decide (y1000 < n0))) ≠ 0 →
    (((qQq (decide (y1000 < n1))) ≠ 0 →
     (((qQq ((IntKind.wrap .i32 (rdZ c0 y1000)) != (IntKind.wrap .i32 (rdZ c1 y1000)))) ≠ 0 →
      (((qQq ((0 : Int) == 0)) ≠ 0 →
       ((0 : Int) ≠ 0 ↔ ((iteZ (qQq (n0 == n1)) (qJe c0 c1 n0) 0) : Int) ≠ 0) ∧ True) ∧ ((qQq ((0 : Int) == 0)) = 0 →
       ((1 : Int) ≠ 0 ↔ ((iteZ (qQq (n0 == n1)) (qJe c0 c1 n0) 0) : Int) ≠ 0) ∧ True))) ∧ ((qQq ((IntKind.wrap .i32 (rdZ c0 y1000)) != (IntKind.wrap .i32 (rdZ c1 y1000)))) = 0 →
      (((qQq (decide ((y1000 + 1) ≤ 4611686018427387904))) ≠ 0 →
       ∃ m', m' < m1000 ∧ I1000 (y1000 + 1) m') ∧ ((qQq (decide ((y1000 + 1) ≤ 4611686018427387904))) = 0 →
       False))))) ∧ ((qQq (decide (y1000 < n1))) = 0 →
     False))) ∧ ((qQq (decide (y1000 < n0))) = 0 →
    (((qQq ((1 : Int) == 0)) ≠ 0 →
     ((0 : Int) ≠ 0 ↔ ((iteZ (qQq (n0 == n1)) (qJe c0 c1 n0) 0) : Int) ≠ 0) ∧ True) ∧ ((qQq ((1 : Int) == 0)) = 0 →
     ((1 : Int) ≠ 0 ↔ ((iteZ (qQq (n0 == n1)) (qJe c0 c1 n0) 0) : Int) ≠ 0) ∧ True))))))
theorem sameW_iff (c d n : Int) : qJe c d n ≠ 0 ↔ ∀ i : Nat, (i : Int) < n → IntKind.wrap .i32 (rdZ c i) = IntKind.wrap .i32 (rdZ d i) := by
 unfold qJe; split <;> simp_all
theorem holds (n0 n1 c0 c1 r0 r1 : Int) (l_n0 : 0 ≤ n0) (u_n0 : n0 ≤ 1000000) (l_n1 : 0 ≤ n1) (u_n1 : n1 ≤ 1000000) (h_n0 : n0 ≤ r0) (h_n1 : n1 ≤ r1) : P n0 n1 c0 c1 r0 r1 := by
 unfold P
 simp only [nrm, Int.reduceEq, Int.reduceNeg, reduceIte]
 refine ⟨fun h => by simp [h], fun h => ?_⟩
 subst h
 simp only [if_true]
 have hs := sameW_iff c0 c1 n0
 refine ⟨fun i m => (∀ k : Nat, (k : Int) < i → IntKind.wrap .i32 (rdZ c0 k) = IntKind.wrap .i32 (rdZ c1 k)) ∧ i ≤ n0 ∧ m = (n0 - i).toNat, ⟨_, fun k hk => by omega, l_n0, rfl⟩, fun i m hb hI => ?_⟩
 obtain ⟨hI, hi, rfl⟩ := hI
 obtain ⟨j, rfl⟩ : ∃ j : Nat, i = j := ⟨i.toNat, by omega⟩
 refine ⟨fun h1 => ⟨fun h2 => ⟨fun h3 => by have : ¬ (qJe c0 c1 n0 ≠ 0) := fun h => h3 (hs.1 h j h1); simp_all, fun h3 => ⟨fun h4 => ⟨_, ?_, fun k hk => ?_, by omega, rfl⟩, fun h4 => by omega⟩⟩, fun h2 => by omega⟩, fun h1 => by have := hs.2 fun k hk => hI k (by omega); simp_all⟩
 ·omega
 ·by_cases e : k = j
  ·subst e; exact h3
  ·exact hI k (by omega)
theorem plain (i v ro p) : statR 2 rc tree ⟨i, fN, v, ro, p⟩ = P (i 0) (i 1) (i 2) (i 3) (i 4) (i 5) := by kernel_rfl
theorem ran : ranR us (fun _ _ => .auto) rc 2 tree = true := by kernel_rfl
theorem fineT : fineR 2 rc tree = true := by kernel_rfl
theorem ok : RcOk (cxOf 2) rc := okR us_ok ran fineT okb fun i v ro p hρ hcap hpre => by rw [plain]; have q := hρ.hi; exact holds _ _ _ _ _ _ (q 0 _ rfl).1 (q 0 _ rfl).2 (q 1 _ rfl).1 (q 1 _ rfl).2 (hcap _ (mg 0 rfl)) (hcap _ (mg 1 rfl))
end CRSame15
namespace CRBools
def rc : Rc := ⟨27, [none, none], [.row [.bool] 1000000, .row [.bool] 1000000], [], .one, [.bool (.ite (.b .eq .i64 (.v 0) (.v 1)) (.f 62 (.v 2) (.v 3) (.v 0)) (.c 0))]⟩
theorem okb : rc.ok = true := by kernel_rfl
noncomputable def us : SMs := fun Γ ins n => smH (cxG n Γ ins) [] (smR (cxG n Γ ins) [])
theorem us_ok : SMsOk us := fun Γ ins n => qZp (tabsG n Γ ins) (qZk _) (qZo (tabsG n Γ ins) (qZy _))
def tree : TT (List E) :=
(.br (.b .ne .i64 (.v 0) (.v 1))
 (.leaf [(.c 0)])
 (.loop ⟨1000, [some (0, 4611686018427387904)], [(.c 0)], 1002⟩
 (.br (.b .lt .i64 (.cl 1000 0 4611686018427387904) (.v 0))
 (.br (.b .lt .i64 (.cl 1000 0 4611686018427387904) (.v 1))
 (.br (.b .ne .i64 (.nt (.f 13 (.v 2) (.cl 1000 0 4611686018427387904) (.c 0))) (.nt (.f 13 (.v 3) (.cl 1000 0 4611686018427387904) (.c 0))))
 (.exit 0)
 (.br (.b .le .i64 (.b .padd .i64 (.cl 1000 0 4611686018427387904) (.c 1)) (.c 4611686018427387904))
 (.back [(.b .padd .i64 (.cl 1000 0 4611686018427387904) (.c 1))])
 (.bad 303)))
 (.bad 200))
 (.exit 1))
 (.br (.b .eq .i64 (.v 1002) (.c 0))
 (.leaf [(.c 0)])
 (.leaf [(.c 1)]))))
def P (n0 n1 c0 c1 r0 r1 : Int) : Prop :=
 (((qQq (n0 != n1)) ≠ 0 →
  ((0 : Int) ≠ 0 ↔ ((iteZ (qQq (n0 == n1)) (sameB c0 c1 n0) 0) : Int) ≠ 0) ∧ True) ∧ ((qQq (n0 != n1)) = 0 →
  ∃ I1000 : Int → Nat → Prop, (∃ m, I1000 0 m) ∧
  ∀ y1000 : Int, ∀ m1000, ((0 ≤ y1000 ∧ y1000 ≤ 4611686018427387904) ∧ True) → I1000 y1000 m1000 →
   (((qQq (decide (y1000 < n0))) ≠ 0 →
    (((qQq (decide (y1000 < n1))) ≠ 0 →
     (((qQq ((qQq ((rdZ c0 y1000) == 0)) != (qQq ((rdZ c1 y1000) == 0)))) ≠ 0 →
      (((qQq ((0 : Int) == 0)) ≠ 0 →
       ((0 : Int) ≠ 0 ↔ ((iteZ (qQq (n0 == n1)) (sameB c0 c1 n0) 0) : Int) ≠ 0) ∧ True) ∧ ((qQq ((0 : Int) == 0)) = 0 →
       ((1 : Int) ≠ 0 ↔ ((iteZ (qQq (n0 == n1)) (sameB c0 c1 n0) 0) : Int) ≠ 0) ∧ True))) ∧ ((qQq ((qQq ((rdZ c0 y1000) == 0)) != (qQq ((rdZ c1 y1000) == 0)))) = 0 →
      (((qQq (decide ((y1000 + 1) ≤ 4611686018427387904))) ≠ 0 →
       ∃ m', m' < m1000 ∧ I1000 (y1000 + 1) m') ∧ ((qQq (decide ((y1000 + 1) ≤ 4611686018427387904))) = 0 →
       False))))) ∧ ((qQq (decide (y1000 < n1))) = 0 →
     False))) ∧ ((qQq (decide (y1000 < n0))) = 0 →
    (((qQq ((1 : Int) == 0)) ≠ 0 →
     ((0 : Int) ≠ 0 ↔ ((iteZ (qQq (n0 == n1)) (sameB c0 c1 n0) 0) : Int) ≠ 0) ∧ True) ∧ ((qQq ((1 : Int) == 0)) = 0 →
     ((1 : Int) ≠ 0 ↔ ((iteZ (qQq (n0 == n1)) (sameB c0 c1 n0) 0) : Int) ≠ 0) ∧ True))))))
theorem holds (n0 n1 c0 c1 r0 r1 : Int) (l_n0 : 0 ≤ n0) (u_n0 : n0 ≤ 1000000) (l_n1 : 0 ≤ n1) (u_n1 : n1 ≤ 1000000) (h_n0 : n0 ≤ r0) (h_n1 : n1 ≤ r1) : P n0 n1 c0 c1 r0 r1 := by
 unfold P
 simp only [nrm, Int.reduceEq, Int.reduceNeg, reduceIte]
 refine ⟨fun h => by simp [h], fun h => ?_⟩
 subst h
 simp only [if_true, sameB_ne]
 refine ⟨fun i m => i ≤ n0 ∧ (∀ j : Nat, (j : Int) < i → (rdZ c0 j ≠ 0 ↔ rdZ c1 j ≠ 0)) ∧ m = (n0 - i).toNat, ⟨_, l_n0, fun j hj => by omega, rfl⟩, fun i m hb hI => ?_⟩
 obtain ⟨hi, hj, rfl⟩ := hI
 have hi0 := nat_i hb.1
 refine ⟨fun h1 => ⟨fun _ => ⟨fun h2 => ?_, fun h2 => ⟨fun _ => ⟨_, ?_, ?_, fun j g => ?_, rfl⟩, fun _ => ?_⟩⟩, fun _ => ?_⟩, fun h1 => ?_⟩
 ·intro g
  have := g i.toNat (by omega)
  rw [hi0] at this
  apply h2
  by_cases a : rdZ c0 i = 0 <;> by_cases b : rdZ c1 i = 0 <;> simp_all [qQq]
 ·omega
 ·omega
 ·by_cases g2 : (j : Int) < i
  ·exact hj j g2
  ·rw [show (j : Int) = i by omega]
   by_cases a : rdZ c0 i = 0 <;> by_cases b : rdZ c1 i = 0 <;> simp_all [qQq]
 ·omega
 ·omega
 ·intro g; exact g fun j g => hj j (by omega)
theorem plain (i v ro p) : statR 2 rc tree ⟨i, fN, v, ro, p⟩ = P (i 0) (i 1) (i 2) (i 3) (i 4) (i 5) := by kernel_rfl
theorem ran : ranR us (fun _ _ => .auto) rc 2 tree = true := by kernel_rfl
theorem fineT : fineR 2 rc tree = true := by kernel_rfl
theorem ok : RcOk (cxOf 2) rc := okR us_ok ran fineT okb fun i v ro p hρ hcap hpre => by rw [plain]; have q := hρ.hi; exact holds _ _ _ _ _ _ (q 0 _ rfl).1 (q 0 _ rfl).2 (q 1 _ rfl).1 (q 1 _ rfl).2 (hcap _ (mg 0 rfl)) (hcap _ (mg 1 rfl))
end CRBools
namespace CRWords
def rc : Rc := ⟨25, [none, none], [.row [.int .u32] 1000000, .row [.int .u32] 1000000], [], .one, [.bool (.ite (.b .eq .i64 (.v 0) (.v 1)) (.f 72 (.v 2) (.v 3) (.v 0)) (.c 0))]⟩
theorem okb : rc.ok = true := by kernel_rfl
noncomputable def us : SMs := fun Γ ins n => smH (cxG n Γ ins) [] (smR (cxG n Γ ins) [])
theorem us_ok : SMsOk us := fun Γ ins n => qZp (tabsG n Γ ins) (qZk _) (qZo (tabsG n Γ ins) (qZy _))
def tree : TT (List E) :=
(.br (.b .ne .i64 (.v 0) (.v 1))
 (.leaf [(.c 0)])
 (.loop ⟨1000, [some (0, 4611686018427387904)], [(.c 0)], 1002⟩
 (.br (.b .lt .i64 (.cl 1000 0 4611686018427387904) (.v 0))
 (.br (.b .lt .i64 (.cl 1000 0 4611686018427387904) (.v 1))
 (.br (.b .ne .i64 (.w .u32 (.f 13 (.v 2) (.cl 1000 0 4611686018427387904) (.c 0))) (.w .u32 (.f 13 (.v 3) (.cl 1000 0 4611686018427387904) (.c 0))))
 (.exit 0)
 (.br (.b .le .i64 (.b .padd .i64 (.cl 1000 0 4611686018427387904) (.c 1)) (.c 4611686018427387904))
 (.back [(.b .padd .i64 (.cl 1000 0 4611686018427387904) (.c 1))])
 (.bad 303)))
 (.bad 200))
 (.exit 1))
 (.br (.b .eq .i64 (.v 1002) (.c 0))
 (.leaf [(.c 0)])
 (.leaf [(.c 1)]))))
def P (n0 n1 c0 c1 r0 r1 : Int) : Prop :=
 (((qQq (n0 != n1)) ≠ 0 →
  ((0 : Int) ≠ 0 ↔ ((iteZ (qQq (n0 == n1)) (qJe c0 c1 n0) 0) : Int) ≠ 0) ∧ True) ∧ ((qQq (n0 != n1)) = 0 →
  ∃ I1000 : Int → Nat → Prop, (∃ m, I1000 0 m) ∧
  ∀ y1000 : Int, ∀ m1000, ((0 ≤ y1000 ∧ y1000 ≤ 4611686018427387904) ∧ True) → I1000 y1000 m1000 →
   (((qQq (decide (y1000 < n0))) ≠ 0 →
    (((qQq (decide (y1000 < n1))) ≠ 0 →
     (((qQq ((IntKind.wrap .u32 (rdZ c0 y1000)) != (IntKind.wrap .u32 (rdZ c1 y1000)))) ≠ 0 →
      (((qQq ((0 : Int) == 0)) ≠ 0 →
       ((0 : Int) ≠ 0 ↔ ((iteZ (qQq (n0 == n1)) (qJe c0 c1 n0) 0) : Int) ≠ 0) ∧ True) ∧ ((qQq ((0 : Int) == 0)) = 0 →
       ((1 : Int) ≠ 0 ↔ ((iteZ (qQq (n0 == n1)) (qJe c0 c1 n0) 0) : Int) ≠ 0) ∧ True))) ∧ ((qQq ((IntKind.wrap .u32 (rdZ c0 y1000)) != (IntKind.wrap .u32 (rdZ c1 y1000)))) = 0 →
      (((qQq (decide ((y1000 + 1) ≤ 4611686018427387904))) ≠ 0 →
       ∃ m', m' < m1000 ∧ I1000 (y1000 + 1) m') ∧ ((qQq (decide ((y1000 + 1) ≤ 4611686018427387904))) = 0 →
       False))))) ∧ ((qQq (decide (y1000 < n1))) = 0 →
     False))) ∧ ((qQq (decide (y1000 < n0))) = 0 →
    (((qQq ((1 : Int) == 0)) ≠ 0 →
     ((0 : Int) ≠ 0 ↔ ((iteZ (qQq (n0 == n1)) (qJe c0 c1 n0) 0) : Int) ≠ 0) ∧ True) ∧ ((qQq ((1 : Int) == 0)) = 0 →
     ((1 : Int) ≠ 0 ↔ ((iteZ (qQq (n0 == n1)) (qJe c0 c1 n0) 0) : Int) ≠ 0) ∧ True))))))
theorem sameU_iff (c d n : Int) : qJe c d n ≠ 0 ↔ ∀ i : Nat, (i : Int) < n → IntKind.wrap .u32 (rdZ c i) = IntKind.wrap .u32 (rdZ d i) := by
 have w : ∀ a b : Int, IntKind.wrap .i32 a = IntKind.wrap .i32 b ↔ IntKind.wrap .u32 a = IntKind.wrap .u32 b := fun a b =>
  ⟨fun h => by have := congrArg (IntKind.wrap .u32) h; rwa [Go.Eng.wrap_wrap .u32 .i32 _ (by decide), Go.Eng.wrap_wrap .u32 .i32 _ (by decide)] at this,
   fun h => by have := congrArg (IntKind.wrap .i32) h; rwa [Go.Eng.wrap_wrap .i32 .u32 _ (by decide), Go.Eng.wrap_wrap .i32 .u32 _ (by decide)] at this⟩
 unfold qJe
 split
 ·rename_i h; exact ⟨fun _ i hi => (w _ _).1 (h i hi), fun _ => by decide⟩
 ·rename_i h; exact ⟨fun k => absurd rfl k, fun k => absurd (fun i hi => (w _ _).2 (k i hi)) h⟩
theorem holds (n0 n1 c0 c1 r0 r1 : Int) (l_n0 : 0 ≤ n0) (u_n0 : n0 ≤ 1000000) (l_n1 : 0 ≤ n1) (u_n1 : n1 ≤ 1000000) (h_n0 : n0 ≤ r0) (h_n1 : n1 ≤ r1) : P n0 n1 c0 c1 r0 r1 := by
 unfold P
 simp only [nrm, Int.reduceEq, Int.reduceNeg, reduceIte]
 refine ⟨fun h => by simp [h], fun h => ?_⟩
 subst h
 simp only [if_true]
 have hs := sameU_iff c0 c1 n0
 refine ⟨fun i m => (∀ k : Nat, (k : Int) < i → IntKind.wrap .u32 (rdZ c0 k) = IntKind.wrap .u32 (rdZ c1 k)) ∧ i ≤ n0 ∧ m = (n0 - i).toNat, ⟨_, fun k hk => by omega, l_n0, rfl⟩, fun i m hb hI => ?_⟩
 obtain ⟨hI, hi, rfl⟩ := hI
 obtain ⟨j, rfl⟩ : ∃ j : Nat, i = j := ⟨i.toNat, by omega⟩
 refine ⟨fun h1 => ⟨fun h2 => ⟨fun h3 => by have : ¬ (qJe c0 c1 n0 ≠ 0) := fun h => h3 (hs.1 h j h1); simp_all, fun h3 => ⟨fun h4 => ⟨_, ?_, fun k hk => ?_, by omega, rfl⟩, fun h4 => by omega⟩⟩, fun h2 => by omega⟩, fun h1 => by have := hs.2 fun k hk => hI k (by omega); simp_all⟩
 ·omega
 ·by_cases e : k = j
  ·subst e; exact h3
  ·exact hI k (by omega)
theorem plain (i v ro p) : statR 2 rc tree ⟨i, fN, v, ro, p⟩ = P (i 0) (i 1) (i 2) (i 3) (i 4) (i 5) := by kernel_rfl
theorem ran : ranR us (fun _ _ => .auto) rc 2 tree = true := by kernel_rfl
theorem fineT : fineR 2 rc tree = true := by kernel_rfl
theorem ok : RcOk (cxOf 2) rc := okR us_ok ran fineT okb fun i v ro p hρ hcap hpre => by rw [plain]; have q := hρ.hi; exact holds _ _ _ _ _ _ (q 0 _ rfl).1 (q 0 _ rfl).2 (q 1 _ rfl).1 (q 1 _ rfl).2 (hcap _ (mg 0 rfl)) (hcap _ (mg 1 rfl))
end CRWords
end Go.Proofs.Ythfckifhnaoopac
