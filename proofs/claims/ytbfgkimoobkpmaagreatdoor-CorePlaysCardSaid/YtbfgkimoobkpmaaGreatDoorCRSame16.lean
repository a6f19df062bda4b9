/-
  What astrolaberef16.Same answers, as numbers of what it is handed: its run by the engine, and the plain statement behind it. No condition.
-/
import Derived.Test.YtbfgkimoobkpmaaGreatDoorGab
import Derived.Test.YtbfgkimoobkpmaaGreatDoorGmC
namespace Go.Proofs.YtbfgkimoobkpmaaGreatDoor.CRSame16
open Go.Eng Go.RowKit
set_option linter.unusedVariables false
set_option linter.unusedSimpArgs false
set_option maxRecDepth 100000
def rc : Rc := ⟨12, [none, none], [.row [.int .i64, .int .i64, .int .i64] 1000000, .row [.int .i64, .int .i64, .int .i64] 1000000], [], .one, [.bool (.ite (.b .eq .i64 (.v 0) (.v 1)) (.f 71 (.v 2) (.v 3) (.v 0)) (.c 0))]⟩
theorem okb : rc.ok = true := by kernel_rfl
noncomputable def us : SMs := fun Γ ins n => smH (cxG n Γ ins) [] (smR (cxG n Γ ins) [])
theorem us_ok : SMsOk us := fun Γ ins n => smH_ok (tabsG n Γ ins) (rhs_nil _) (smR_ok (tabsG n Γ ins) (rcs_nil _))
def tree : TT (List E) :=
(.br (.b .ne .i64 (.v 0) (.v 1))
  (.leaf [(.c 0)])
  (.loop ⟨1000, [some (0, 4611686018427387904)], [(.c 0)], 1008⟩
  (.br (.b .lt .i64 (.cl 1000 0 4611686018427387904) (.v 0))
  (.new 1002 (.w .i64 (.f 13 (.f 13 (.v 2) (.cl 1000 0 4611686018427387904) (.c 0)) (.c 0) (.c 0)))
  (.new 1003 (.w .i64 (.f 13 (.f 13 (.v 2) (.cl 1000 0 4611686018427387904) (.c 0)) (.c 1) (.c 0)))
  (.new 1004 (.w .i64 (.f 13 (.f 13 (.v 2) (.cl 1000 0 4611686018427387904) (.c 0)) (.c 2) (.c 0)))
  (.br (.b .lt .i64 (.cl 1000 0 4611686018427387904) (.v 1))
  (.new 1005 (.w .i64 (.f 13 (.f 13 (.v 3) (.cl 1000 0 4611686018427387904) (.c 0)) (.c 0) (.c 0)))
  (.new 1006 (.w .i64 (.f 13 (.f 13 (.v 3) (.cl 1000 0 4611686018427387904) (.c 0)) (.c 1) (.c 0)))
  (.new 1007 (.w .i64 (.f 13 (.f 13 (.v 3) (.cl 1000 0 4611686018427387904) (.c 0)) (.c 2) (.c 0)))
  (.br (.nt (.ite (.b .eq .i64 (.cl 1002 (-9223372036854775808) 9223372036854775807) (.cl 1005 (-9223372036854775808) 9223372036854775807)) (.ite (.b .eq .i64 (.cl 1003 (-9223372036854775808) 9223372036854775807) (.cl 1006 (-9223372036854775808) 9223372036854775807)) (.b .eq .i64 (.cl 1004 (-9223372036854775808) 9223372036854775807) (.cl 1007 (-9223372036854775808) 9223372036854775807)) (.c 0)) (.c 0)))
  (.exit 0)
  (.br (.b .le .i64 (.b .padd .i64 (.cl 1000 0 4611686018427387904) (.c 1)) (.c 4611686018427387904))
  (.back [(.b .padd .i64 (.cl 1000 0 4611686018427387904) (.c 1))])
  (.bad 303))))))
  (.bad 200)))))
  (.exit 1))
  (.br (.b .eq .i64 (.v 1008) (.c 0))
  (.leaf [(.c 0)])
  (.leaf [(.c 1)]))))

def P (n0 n1 c0 c1 r0 r1 : Int) : Prop :=
 (((bool01 (n0 != n1)) ≠ 0 →
  ((0 : Int) ≠ 0 ↔ ((iteZ (bool01 (n0 == n1)) (sameM c0 c1 n0) 0) : Int) ≠ 0) ∧ True) ∧ ((bool01 (n0 != n1)) = 0 →
  ∃ I1000 : Int → Nat → Prop, (∃ m, I1000 0 m) ∧
  ∀ y1000 : Int, ∀ m1000, ((0 ≤ y1000 ∧ y1000 ≤ 4611686018427387904) ∧ True) → I1000 y1000 m1000 →
   (((bool01 (decide (y1000 < n0))) ≠ 0 →
    ∀ y1002 : Int, y1002 = (IntKind.wrap .i64 (rdZ (rdZ c0 y1000) 0)) → ((-9223372036854775808) ≤ y1002 ∧ y1002 ≤ 9223372036854775807) →
    ∀ y1003 : Int, y1003 = (IntKind.wrap .i64 (rdZ (rdZ c0 y1000) 1)) → ((-9223372036854775808) ≤ y1003 ∧ y1003 ≤ 9223372036854775807) →
    ∀ y1004 : Int, y1004 = (IntKind.wrap .i64 (rdZ (rdZ c0 y1000) 2)) → ((-9223372036854775808) ≤ y1004 ∧ y1004 ≤ 9223372036854775807) →
    (((bool01 (decide (y1000 < n1))) ≠ 0 →
     ∀ y1005 : Int, y1005 = (IntKind.wrap .i64 (rdZ (rdZ c1 y1000) 0)) → ((-9223372036854775808) ≤ y1005 ∧ y1005 ≤ 9223372036854775807) →
     ∀ y1006 : Int, y1006 = (IntKind.wrap .i64 (rdZ (rdZ c1 y1000) 1)) → ((-9223372036854775808) ≤ y1006 ∧ y1006 ≤ 9223372036854775807) →
     ∀ y1007 : Int, y1007 = (IntKind.wrap .i64 (rdZ (rdZ c1 y1000) 2)) → ((-9223372036854775808) ≤ y1007 ∧ y1007 ≤ 9223372036854775807) →
     (((bool01 ((iteZ (bool01 (y1002 == y1005)) (iteZ (bool01 (y1003 == y1006)) (bool01 (y1004 == y1007)) 0) 0) == 0)) ≠ 0 →
      (((bool01 ((0 : Int) == 0)) ≠ 0 →
       ((0 : Int) ≠ 0 ↔ ((iteZ (bool01 (n0 == n1)) (sameM c0 c1 n0) 0) : Int) ≠ 0) ∧ True) ∧ ((bool01 ((0 : Int) == 0)) = 0 →
       ((1 : Int) ≠ 0 ↔ ((iteZ (bool01 (n0 == n1)) (sameM c0 c1 n0) 0) : Int) ≠ 0) ∧ True))) ∧ ((bool01 ((iteZ (bool01 (y1002 == y1005)) (iteZ (bool01 (y1003 == y1006)) (bool01 (y1004 == y1007)) 0) 0) == 0)) = 0 →
      (((bool01 (decide ((y1000 + 1) ≤ 4611686018427387904))) ≠ 0 →
       ∃ m', m' < m1000 ∧ I1000 (y1000 + 1) m') ∧ ((bool01 (decide ((y1000 + 1) ≤ 4611686018427387904))) = 0 →
       False))))) ∧ ((bool01 (decide (y1000 < n1))) = 0 →
     False))) ∧ ((bool01 (decide (y1000 < n0))) = 0 →
    (((bool01 ((1 : Int) == 0)) ≠ 0 →
     ((0 : Int) ≠ 0 ↔ ((iteZ (bool01 (n0 == n1)) (sameM c0 c1 n0) 0) : Int) ≠ 0) ∧ True) ∧ ((bool01 ((1 : Int) == 0)) = 0 →
     ((1 : Int) ≠ 0 ↔ ((iteZ (bool01 (n0 == n1)) (sameM c0 c1 n0) 0) : Int) ≠ 0) ∧ True))))))

theorem sameM_iff (c d n : Int) : sameM c d n ≠ 0 ↔ ∀ i : Nat, (i : Int) < n → mk c i 0 = mk d i 0 ∧ mk c i 1 = mk d i 1 ∧ mk c i 2 = mk d i 2 := by
  unfold sameM; split <;> simp_all
theorem holds (n0 n1 c0 c1 r0 r1 : Int) (l_n0 : 0 ≤ n0) (u_n0 : n0 ≤ 1000000) (l_n1 : 0 ≤ n1) (u_n1 : n1 ≤ 1000000) (h_n0 : n0 ≤ r0) (h_n1 : n1 ≤ r1) : P n0 n1 c0 c1 r0 r1 := by
  unfold P
  simp only [b01_eq, decide_eq_true_eq, decide_eq_false_iff_not, beq_iff_eq, beq_eq_false_iff_ne, bne_iff_ne, bne_eq_false_iff_eq, Int.not_le, Int.not_lt, true_and, and_true, iteZ_ne, ne_eq, Bool.not_eq_false, Bool.not_eq_true, not_true_eq_false, not_false_eq_true, Decidable.not_not, forall_const, false_implies, true_iff, iff_true, false_iff, iff_false, Int.reduceEq, Int.reduceNeg, eq_self, if_true, if_false, reduceIte]
  refine ⟨fun h => by simp [h], fun h => ?_⟩
  subst h
  simp only [if_true]
  have hs := sameM_iff c0 c1 n0
  refine ⟨fun i m => (∀ k : Nat, (k : Int) < i → mk c0 k 0 = mk c1 k 0 ∧ mk c0 k 1 = mk c1 k 1 ∧ mk c0 k 2 = mk c1 k 2) ∧ i ≤ n0 ∧ m = (n0 - i).toNat, ⟨_, fun k hk => by omega, l_n0, rfl⟩, fun i m hb hI => ?_⟩
  obtain ⟨hI, hi, rfl⟩ := hI
  obtain ⟨j, rfl⟩ : ∃ j : Nat, i = j := ⟨i.toNat, by omega⟩
  refine ⟨fun h1 => ?_, fun h1 => by have := hs.2 fun k hk => hI k (by omega); simp_all⟩
  rintro _ rfl _ _ rfl _ _ rfl _
  refine ⟨fun h2 => ?_, fun h2 => by omega⟩
  rintro _ rfl _ _ rfl _ _ rfl _
  simp only [wrap_rd]
  by_cases q : mk c0 j 0 = mk c1 j 0 ∧ mk c0 j 1 = mk c1 j 1 ∧ mk c0 j 2 = mk c1 j 2
  · obtain ⟨q0, q1, q2⟩ := q
    simp only [q0, q1, q2, if_true]
    refine ⟨fun h => by simp [bool01] at h, fun _ => ⟨fun _ => ⟨_, ?_, fun k hk => ?_, by omega, rfl⟩, fun h4 => by omega⟩⟩
    · omega
    · by_cases e : k = j
      · subst e; exact ⟨q0, q1, q2⟩
      · exact hI k (by omega)
  · have hn : ¬ (sameM c0 c1 n0 ≠ 0) := fun h => q (hs.1 h j h1)
    refine ⟨fun _ => by simp_all, fun h => absurd ?_ h⟩
    by_cases q0 : mk c0 j 0 = mk c1 j 0
    · refine (if_pos q0).trans ?_
      by_cases q1 : mk c0 j 1 = mk c1 j 1
      · refine (if_pos q1).trans ?_
        have q2 : ¬ mk c0 j 2 = mk c1 j 2 := fun e => q ⟨q0, q1, e⟩
        simp [bool01, q2]
      · exact if_neg q1
    · exact if_neg q0

theorem plain (i v ro p) : statR 2 rc tree ⟨i, fN, v, ro, p⟩ = P (i 0) (i 1) (i 2) (i 3) (i 4) (i 5) := by kernel_rfl
theorem ran : ranR us (fun _ _ => .auto) rc 2 tree = true := by kernel_rfl
theorem fineT : fineR 2 rc tree = true := by kernel_rfl
theorem ok : RcOk (cxOf 2) rc := okR us_ok ran fineT okb fun i v ro p hρ hcap hpre => by rw [plain]; exact holds (i 0) (i 1) (i 2) (i 3) (i 4) (i 5) (hρ.hi 0 _ rfl).1 (hρ.hi 0 _ rfl).2 (hρ.hi 1 _ rfl).1 (hρ.hi 1 _ rfl).2 (hcap _ (List.mem_of_getElem? (i := 0) rfl)) (hcap _ (List.mem_of_getElem? (i := 1) rfl))
end Go.Proofs.YtbfgkimoobkpmaaGreatDoor.CRSame16
