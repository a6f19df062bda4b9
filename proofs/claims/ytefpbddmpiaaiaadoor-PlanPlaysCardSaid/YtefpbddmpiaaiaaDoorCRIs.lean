/-
  What astrolaberef19.Is answers, as numbers of what it is handed: its run by the engine, and the plain statement behind it. No condition.
-/
import Derived.Test.YtefpbddmpiaaiaaDoorGab
import Derived.Test.YtefpbddmpiaaiaaDoorGmP
namespace Go.Proofs.YtefpbddmpiaaiaaDoor.CRIs
open Go.Eng Go.RowKit
set_option linter.unusedVariables false
set_option linter.unusedSimpArgs false
set_option maxRecDepth 100000
def rc : Rc := ⟨37, [none], [.str], [], .one, [.bool (.f 53 (.v 0) (.c 0) (.c 0))]⟩
theorem okb : rc.ok = true := by kernel_rfl
noncomputable def us : SMs := fun Γ ins n => smH (cxG n Γ ins) [] (smR (cxG n Γ ins) [])
theorem us_ok : SMsOk us := fun Γ ins n => smH_ok (rhs_nil _) (smR_ok (rcs_nil _))
def tree : TT (List E) :=
(.br (.b .lt .i64 (.f 21 (.v 0) (.c 0) (.c 0)) (.c 1))
  (.leaf [(.c 0)])
  (.br (.b .lt .i64 (.c 24) (.f 21 (.v 0) (.c 0) (.c 0)))
  (.leaf [(.c 0)])
  (.loop ⟨1000, [some (0, 4611686018427387904)], [(.c 0)], 1002⟩
  (.br (.b .lt .i64 (.cl 1000 0 4611686018427387904) (.f 21 (.v 0) (.c 0) (.c 0)))
  (.br (.b .le .i64 (.c 97) (.f 22 (.v 0) (.cl 1000 0 4611686018427387904) (.c 0)))
  (.br (.nt (.b .le .i64 (.f 22 (.v 0) (.cl 1000 0 4611686018427387904) (.c 0)) (.c 122)))
  (.br (.b .eq .i64 (.cl 1000 0 4611686018427387904) (.c 0))
  (.exit 0)
  (.br (.b .ne .i64 (.f 22 (.v 0) (.cl 1000 0 4611686018427387904) (.c 0)) (.c 95))
  (.br (.b .lt .i64 (.f 22 (.v 0) (.cl 1000 0 4611686018427387904) (.c 0)) (.c 48))
  (.exit 1)
  (.br (.b .lt .i64 (.c 57) (.f 22 (.v 0) (.cl 1000 0 4611686018427387904) (.c 0)))
  (.exit 2)
  (.br (.b .le .i64 (.b .padd .i64 (.cl 1000 0 4611686018427387904) (.c 1)) (.c 4611686018427387904))
  (.back [(.b .padd .i64 (.cl 1000 0 4611686018427387904) (.c 1))])
  (.bad 303))))
  (.br (.b .le .i64 (.b .padd .i64 (.cl 1000 0 4611686018427387904) (.c 1)) (.c 4611686018427387904))
  (.back [(.b .padd .i64 (.cl 1000 0 4611686018427387904) (.c 1))])
  (.bad 303))))
  (.br (.b .le .i64 (.b .padd .i64 (.cl 1000 0 4611686018427387904) (.c 1)) (.c 4611686018427387904))
  (.back [(.b .padd .i64 (.cl 1000 0 4611686018427387904) (.c 1))])
  (.bad 303)))
  (.br (.b .eq .i64 (.cl 1000 0 4611686018427387904) (.c 0))
  (.exit 3)
  (.br (.b .ne .i64 (.f 22 (.v 0) (.cl 1000 0 4611686018427387904) (.c 0)) (.c 95))
  (.br (.b .lt .i64 (.f 22 (.v 0) (.cl 1000 0 4611686018427387904) (.c 0)) (.c 48))
  (.exit 4)
  (.br (.b .lt .i64 (.c 57) (.f 22 (.v 0) (.cl 1000 0 4611686018427387904) (.c 0)))
  (.exit 5)
  (.br (.b .le .i64 (.b .padd .i64 (.cl 1000 0 4611686018427387904) (.c 1)) (.c 4611686018427387904))
  (.back [(.b .padd .i64 (.cl 1000 0 4611686018427387904) (.c 1))])
  (.bad 303))))
  (.br (.b .le .i64 (.b .padd .i64 (.cl 1000 0 4611686018427387904) (.c 1)) (.c 4611686018427387904))
  (.back [(.b .padd .i64 (.cl 1000 0 4611686018427387904) (.c 1))])
  (.bad 303)))))
  (.exit 6))
  (.br (.b .eq .i64 (.v 1002) (.c 0))
  (.leaf [(.c 0)])
  (.br (.b .eq .i64 (.v 1002) (.c 1))
  (.leaf [(.c 0)])
  (.br (.b .eq .i64 (.v 1002) (.c 2))
  (.leaf [(.c 0)])
  (.br (.b .eq .i64 (.v 1002) (.c 3))
  (.leaf [(.c 0)])
  (.br (.b .eq .i64 (.v 1002) (.c 4))
  (.leaf [(.c 0)])
  (.br (.b .eq .i64 (.v 1002) (.c 5))
  (.leaf [(.c 0)])
  (.leaf [(.c 1)]))))))))))

def P (s0 : Int) : Prop :=
 (((bool01 (decide ((slenZ s0) < 1))) ≠ 0 →
  ((0 : Int) ≠ 0 ↔ ((isZ s0) : Int) ≠ 0) ∧ True) ∧ ((bool01 (decide ((slenZ s0) < 1))) = 0 →
  (((bool01 (decide (24 < (slenZ s0)))) ≠ 0 →
   ((0 : Int) ≠ 0 ↔ ((isZ s0) : Int) ≠ 0) ∧ True) ∧ ((bool01 (decide (24 < (slenZ s0)))) = 0 →
   ∃ I1000 : Int → Nat → Prop, (∃ m, I1000 0 m) ∧
   ∀ y1000 : Int, ∀ m1000, ((0 ≤ y1000 ∧ y1000 ≤ 4611686018427387904) ∧ True) → I1000 y1000 m1000 →
    (((bool01 (decide (y1000 < (slenZ s0)))) ≠ 0 →
     (((bool01 (decide (97 ≤ (sbyteZ s0 y1000)))) ≠ 0 →
      (((bool01 ((bool01 (decide ((sbyteZ s0 y1000) ≤ 122))) == 0)) ≠ 0 →
       (((bool01 (y1000 == 0)) ≠ 0 →
        (((bool01 ((0 : Int) == 0)) ≠ 0 →
         ((0 : Int) ≠ 0 ↔ ((isZ s0) : Int) ≠ 0) ∧ True) ∧ ((bool01 ((0 : Int) == 0)) = 0 →
         (((bool01 ((0 : Int) == 1)) ≠ 0 →
          ((0 : Int) ≠ 0 ↔ ((isZ s0) : Int) ≠ 0) ∧ True) ∧ ((bool01 ((0 : Int) == 1)) = 0 →
          (((bool01 ((0 : Int) == 2)) ≠ 0 →
           ((0 : Int) ≠ 0 ↔ ((isZ s0) : Int) ≠ 0) ∧ True) ∧ ((bool01 ((0 : Int) == 2)) = 0 →
           (((bool01 ((0 : Int) == 3)) ≠ 0 →
            ((0 : Int) ≠ 0 ↔ ((isZ s0) : Int) ≠ 0) ∧ True) ∧ ((bool01 ((0 : Int) == 3)) = 0 →
            (((bool01 ((0 : Int) == 4)) ≠ 0 →
             ((0 : Int) ≠ 0 ↔ ((isZ s0) : Int) ≠ 0) ∧ True) ∧ ((bool01 ((0 : Int) == 4)) = 0 →
             (((bool01 ((0 : Int) == 5)) ≠ 0 →
              ((0 : Int) ≠ 0 ↔ ((isZ s0) : Int) ≠ 0) ∧ True) ∧ ((bool01 ((0 : Int) == 5)) = 0 →
              ((1 : Int) ≠ 0 ↔ ((isZ s0) : Int) ≠ 0) ∧ True))))))))))))) ∧ ((bool01 (y1000 == 0)) = 0 →
        (((bool01 ((sbyteZ s0 y1000) != 95)) ≠ 0 →
         (((bool01 (decide ((sbyteZ s0 y1000) < 48))) ≠ 0 →
          (((bool01 ((1 : Int) == 0)) ≠ 0 →
           ((0 : Int) ≠ 0 ↔ ((isZ s0) : Int) ≠ 0) ∧ True) ∧ ((bool01 ((1 : Int) == 0)) = 0 →
           (((bool01 ((1 : Int) == 1)) ≠ 0 →
            ((0 : Int) ≠ 0 ↔ ((isZ s0) : Int) ≠ 0) ∧ True) ∧ ((bool01 ((1 : Int) == 1)) = 0 →
            (((bool01 ((1 : Int) == 2)) ≠ 0 →
             ((0 : Int) ≠ 0 ↔ ((isZ s0) : Int) ≠ 0) ∧ True) ∧ ((bool01 ((1 : Int) == 2)) = 0 →
             (((bool01 ((1 : Int) == 3)) ≠ 0 →
              ((0 : Int) ≠ 0 ↔ ((isZ s0) : Int) ≠ 0) ∧ True) ∧ ((bool01 ((1 : Int) == 3)) = 0 →
              (((bool01 ((1 : Int) == 4)) ≠ 0 →
               ((0 : Int) ≠ 0 ↔ ((isZ s0) : Int) ≠ 0) ∧ True) ∧ ((bool01 ((1 : Int) == 4)) = 0 →
               (((bool01 ((1 : Int) == 5)) ≠ 0 →
                ((0 : Int) ≠ 0 ↔ ((isZ s0) : Int) ≠ 0) ∧ True) ∧ ((bool01 ((1 : Int) == 5)) = 0 →
                ((1 : Int) ≠ 0 ↔ ((isZ s0) : Int) ≠ 0) ∧ True))))))))))))) ∧ ((bool01 (decide ((sbyteZ s0 y1000) < 48))) = 0 →
          (((bool01 (decide (57 < (sbyteZ s0 y1000)))) ≠ 0 →
           (((bool01 ((2 : Int) == 0)) ≠ 0 →
            ((0 : Int) ≠ 0 ↔ ((isZ s0) : Int) ≠ 0) ∧ True) ∧ ((bool01 ((2 : Int) == 0)) = 0 →
            (((bool01 ((2 : Int) == 1)) ≠ 0 →
             ((0 : Int) ≠ 0 ↔ ((isZ s0) : Int) ≠ 0) ∧ True) ∧ ((bool01 ((2 : Int) == 1)) = 0 →
             (((bool01 ((2 : Int) == 2)) ≠ 0 →
              ((0 : Int) ≠ 0 ↔ ((isZ s0) : Int) ≠ 0) ∧ True) ∧ ((bool01 ((2 : Int) == 2)) = 0 →
              (((bool01 ((2 : Int) == 3)) ≠ 0 →
               ((0 : Int) ≠ 0 ↔ ((isZ s0) : Int) ≠ 0) ∧ True) ∧ ((bool01 ((2 : Int) == 3)) = 0 →
               (((bool01 ((2 : Int) == 4)) ≠ 0 →
                ((0 : Int) ≠ 0 ↔ ((isZ s0) : Int) ≠ 0) ∧ True) ∧ ((bool01 ((2 : Int) == 4)) = 0 →
                (((bool01 ((2 : Int) == 5)) ≠ 0 →
                 ((0 : Int) ≠ 0 ↔ ((isZ s0) : Int) ≠ 0) ∧ True) ∧ ((bool01 ((2 : Int) == 5)) = 0 →
                 ((1 : Int) ≠ 0 ↔ ((isZ s0) : Int) ≠ 0) ∧ True))))))))))))) ∧ ((bool01 (decide (57 < (sbyteZ s0 y1000)))) = 0 →
           (((bool01 (decide ((y1000 + 1) ≤ 4611686018427387904))) ≠ 0 →
            ∃ m', m' < m1000 ∧ I1000 (y1000 + 1) m') ∧ ((bool01 (decide ((y1000 + 1) ≤ 4611686018427387904))) = 0 →
            False))))))) ∧ ((bool01 ((sbyteZ s0 y1000) != 95)) = 0 →
         (((bool01 (decide ((y1000 + 1) ≤ 4611686018427387904))) ≠ 0 →
          ∃ m', m' < m1000 ∧ I1000 (y1000 + 1) m') ∧ ((bool01 (decide ((y1000 + 1) ≤ 4611686018427387904))) = 0 →
          False))))))) ∧ ((bool01 ((bool01 (decide ((sbyteZ s0 y1000) ≤ 122))) == 0)) = 0 →
       (((bool01 (decide ((y1000 + 1) ≤ 4611686018427387904))) ≠ 0 →
        ∃ m', m' < m1000 ∧ I1000 (y1000 + 1) m') ∧ ((bool01 (decide ((y1000 + 1) ≤ 4611686018427387904))) = 0 →
        False))))) ∧ ((bool01 (decide (97 ≤ (sbyteZ s0 y1000)))) = 0 →
      (((bool01 (y1000 == 0)) ≠ 0 →
       (((bool01 ((3 : Int) == 0)) ≠ 0 →
        ((0 : Int) ≠ 0 ↔ ((isZ s0) : Int) ≠ 0) ∧ True) ∧ ((bool01 ((3 : Int) == 0)) = 0 →
        (((bool01 ((3 : Int) == 1)) ≠ 0 →
         ((0 : Int) ≠ 0 ↔ ((isZ s0) : Int) ≠ 0) ∧ True) ∧ ((bool01 ((3 : Int) == 1)) = 0 →
         (((bool01 ((3 : Int) == 2)) ≠ 0 →
          ((0 : Int) ≠ 0 ↔ ((isZ s0) : Int) ≠ 0) ∧ True) ∧ ((bool01 ((3 : Int) == 2)) = 0 →
          (((bool01 ((3 : Int) == 3)) ≠ 0 →
           ((0 : Int) ≠ 0 ↔ ((isZ s0) : Int) ≠ 0) ∧ True) ∧ ((bool01 ((3 : Int) == 3)) = 0 →
           (((bool01 ((3 : Int) == 4)) ≠ 0 →
            ((0 : Int) ≠ 0 ↔ ((isZ s0) : Int) ≠ 0) ∧ True) ∧ ((bool01 ((3 : Int) == 4)) = 0 →
            (((bool01 ((3 : Int) == 5)) ≠ 0 →
             ((0 : Int) ≠ 0 ↔ ((isZ s0) : Int) ≠ 0) ∧ True) ∧ ((bool01 ((3 : Int) == 5)) = 0 →
             ((1 : Int) ≠ 0 ↔ ((isZ s0) : Int) ≠ 0) ∧ True))))))))))))) ∧ ((bool01 (y1000 == 0)) = 0 →
       (((bool01 ((sbyteZ s0 y1000) != 95)) ≠ 0 →
        (((bool01 (decide ((sbyteZ s0 y1000) < 48))) ≠ 0 →
         (((bool01 ((4 : Int) == 0)) ≠ 0 →
          ((0 : Int) ≠ 0 ↔ ((isZ s0) : Int) ≠ 0) ∧ True) ∧ ((bool01 ((4 : Int) == 0)) = 0 →
          (((bool01 ((4 : Int) == 1)) ≠ 0 →
           ((0 : Int) ≠ 0 ↔ ((isZ s0) : Int) ≠ 0) ∧ True) ∧ ((bool01 ((4 : Int) == 1)) = 0 →
           (((bool01 ((4 : Int) == 2)) ≠ 0 →
            ((0 : Int) ≠ 0 ↔ ((isZ s0) : Int) ≠ 0) ∧ True) ∧ ((bool01 ((4 : Int) == 2)) = 0 →
            (((bool01 ((4 : Int) == 3)) ≠ 0 →
             ((0 : Int) ≠ 0 ↔ ((isZ s0) : Int) ≠ 0) ∧ True) ∧ ((bool01 ((4 : Int) == 3)) = 0 →
             (((bool01 ((4 : Int) == 4)) ≠ 0 →
              ((0 : Int) ≠ 0 ↔ ((isZ s0) : Int) ≠ 0) ∧ True) ∧ ((bool01 ((4 : Int) == 4)) = 0 →
              (((bool01 ((4 : Int) == 5)) ≠ 0 →
               ((0 : Int) ≠ 0 ↔ ((isZ s0) : Int) ≠ 0) ∧ True) ∧ ((bool01 ((4 : Int) == 5)) = 0 →
               ((1 : Int) ≠ 0 ↔ ((isZ s0) : Int) ≠ 0) ∧ True))))))))))))) ∧ ((bool01 (decide ((sbyteZ s0 y1000) < 48))) = 0 →
         (((bool01 (decide (57 < (sbyteZ s0 y1000)))) ≠ 0 →
          (((bool01 ((5 : Int) == 0)) ≠ 0 →
           ((0 : Int) ≠ 0 ↔ ((isZ s0) : Int) ≠ 0) ∧ True) ∧ ((bool01 ((5 : Int) == 0)) = 0 →
           (((bool01 ((5 : Int) == 1)) ≠ 0 →
            ((0 : Int) ≠ 0 ↔ ((isZ s0) : Int) ≠ 0) ∧ True) ∧ ((bool01 ((5 : Int) == 1)) = 0 →
            (((bool01 ((5 : Int) == 2)) ≠ 0 →
             ((0 : Int) ≠ 0 ↔ ((isZ s0) : Int) ≠ 0) ∧ True) ∧ ((bool01 ((5 : Int) == 2)) = 0 →
             (((bool01 ((5 : Int) == 3)) ≠ 0 →
              ((0 : Int) ≠ 0 ↔ ((isZ s0) : Int) ≠ 0) ∧ True) ∧ ((bool01 ((5 : Int) == 3)) = 0 →
              (((bool01 ((5 : Int) == 4)) ≠ 0 →
               ((0 : Int) ≠ 0 ↔ ((isZ s0) : Int) ≠ 0) ∧ True) ∧ ((bool01 ((5 : Int) == 4)) = 0 →
               (((bool01 ((5 : Int) == 5)) ≠ 0 →
                ((0 : Int) ≠ 0 ↔ ((isZ s0) : Int) ≠ 0) ∧ True) ∧ ((bool01 ((5 : Int) == 5)) = 0 →
                ((1 : Int) ≠ 0 ↔ ((isZ s0) : Int) ≠ 0) ∧ True))))))))))))) ∧ ((bool01 (decide (57 < (sbyteZ s0 y1000)))) = 0 →
          (((bool01 (decide ((y1000 + 1) ≤ 4611686018427387904))) ≠ 0 →
           ∃ m', m' < m1000 ∧ I1000 (y1000 + 1) m') ∧ ((bool01 (decide ((y1000 + 1) ≤ 4611686018427387904))) = 0 →
           False))))))) ∧ ((bool01 ((sbyteZ s0 y1000) != 95)) = 0 →
        (((bool01 (decide ((y1000 + 1) ≤ 4611686018427387904))) ≠ 0 →
         ∃ m', m' < m1000 ∧ I1000 (y1000 + 1) m') ∧ ((bool01 (decide ((y1000 + 1) ≤ 4611686018427387904))) = 0 →
         False))))))))) ∧ ((bool01 (decide (y1000 < (slenZ s0)))) = 0 →
     (((bool01 ((6 : Int) == 0)) ≠ 0 →
      ((0 : Int) ≠ 0 ↔ ((isZ s0) : Int) ≠ 0) ∧ True) ∧ ((bool01 ((6 : Int) == 0)) = 0 →
      (((bool01 ((6 : Int) == 1)) ≠ 0 →
       ((0 : Int) ≠ 0 ↔ ((isZ s0) : Int) ≠ 0) ∧ True) ∧ ((bool01 ((6 : Int) == 1)) = 0 →
       (((bool01 ((6 : Int) == 2)) ≠ 0 →
        ((0 : Int) ≠ 0 ↔ ((isZ s0) : Int) ≠ 0) ∧ True) ∧ ((bool01 ((6 : Int) == 2)) = 0 →
        (((bool01 ((6 : Int) == 3)) ≠ 0 →
         ((0 : Int) ≠ 0 ↔ ((isZ s0) : Int) ≠ 0) ∧ True) ∧ ((bool01 ((6 : Int) == 3)) = 0 →
         (((bool01 ((6 : Int) == 4)) ≠ 0 →
          ((0 : Int) ≠ 0 ↔ ((isZ s0) : Int) ≠ 0) ∧ True) ∧ ((bool01 ((6 : Int) == 4)) = 0 →
          (((bool01 ((6 : Int) == 5)) ≠ 0 →
           ((0 : Int) ≠ 0 ↔ ((isZ s0) : Int) ≠ 0) ∧ True) ∧ ((bool01 ((6 : Int) == 5)) = 0 →
           ((1 : Int) ≠ 0 ↔ ((isZ s0) : Int) ≠ 0) ∧ True))))))))))))))))))

theorem holds (s0 : Int) : P s0 := by
  unfold P
  simp only [b01_eq, decide_eq_true_eq, decide_eq_false_iff_not, beq_iff_eq, beq_eq_false_iff_ne, bne_iff_ne, bne_eq_false_iff_eq, Int.not_le, Int.not_lt, true_and, and_true, iteZ_ne, ne_eq, Bool.not_eq_false, Bool.not_eq_true, not_true_eq_false, not_false_eq_true, Decidable.not_not, forall_const, false_implies, true_iff, iff_true, false_iff, iff_false, Int.reduceEq, Int.reduceNeg, eq_self, if_true, if_false, reduceIte]
  have hl := slenZ_bd s0
  simp only [isZ_eq]
  unfold isName
  refine ⟨fun h => by omega, fun h => ⟨fun h2 => by omega, fun h2 => ?_⟩⟩
  refine ⟨fun i m => i ≤ slenZ s0 ∧ (1 ≤ i → smallB (sbyteZ s0 0)) ∧ (∀ j : Nat, (j : Int) < i → otherB (sbyteZ s0 j)) ∧ m = (slenZ s0 - i).toNat, ⟨_, hl.1, fun h => by omega, fun j hj => by omega, rfl⟩, fun i m hb hI => ?_⟩
  obtain ⟨hi, hs, hj, rfl⟩ := hI
  have hi0 := nat_i hb.1
  have next : i < slenZ s0 → (i = 0 → smallB (sbyteZ s0 0)) → otherB (sbyteZ s0 i) → ∃ m', m' < (slenZ s0 - i).toNat ∧ i + 1 ≤ slenZ s0 ∧ (1 ≤ i + 1 → smallB (sbyteZ s0 0)) ∧ (∀ j : Nat, (j : Int) < i + 1 → otherB (sbyteZ s0 j)) ∧ m' = (slenZ s0 - (i + 1)).toNat := fun h1 h2 h3 => by
    refine ⟨_, by omega, by omega, fun _ => ?_, fun j g => ?_, rfl⟩
    · by_cases g : i = 0
      · exact h2 g
      · exact hs (by omega)
    · by_cases g2 : (j : Int) < i
      · exact hj j g2
      · rw [show (j : Int) = i by omega]; exact h3
  have bad : i < slenZ s0 → ¬ otherB (sbyteZ s0 i) → ¬ (1 ≤ slenZ s0 ∧ slenZ s0 ≤ 24 ∧ smallB (sbyteZ s0 0) ∧ ∀ j : Nat, (j : Int) < slenZ s0 → otherB (sbyteZ s0 j)) := fun h1 h3 h => h3 (by have := h.2.2.2 i.toNat (by omega); rwa [hi0] at this)
  have first : i = 0 → ¬ smallB (sbyteZ s0 i) → ¬ (1 ≤ slenZ s0 ∧ slenZ s0 ≤ 24 ∧ smallB (sbyteZ s0 0) ∧ ∀ j : Nat, (j : Int) < slenZ s0 → otherB (sbyteZ s0 j)) := fun h1 h3 h => h3 (by subst h1; exact h.2.2.1)
  have hm : i < slenZ s0 → i + 1 ≤ 4611686018427387904 := fun h => by have := hl.2; unfold strMax at this; omega
  repeat' (first | apply And.intro | intro _)
  all_goals first
    | (exfalso; have := hm (by assumption); omega)
    | exact next (by assumption) (fun h => by subst h; unfold smallB; omega) (by unfold otherB smallB; omega)
    | exact next (by assumption) (fun h => absurd h (by assumption)) (by unfold otherB smallB; omega)
    | (rename_i h; exact bad (by assumption) (by unfold otherB smallB; omega) h)
    | (rename_i h; exact first (by assumption) (by unfold smallB; omega) h)
    | (rename_i h; exact h ⟨by omega, by omega, hs (by omega), fun j g => hj j (by omega)⟩)

theorem plain (i : Nat → Int) (v : Nat → Value) (ro : Nat → RO) (p : Program) : TT.hdP (rc.cx (cxOf 2)) (rlF ⟨i, fN, v, ro, p⟩ rc.res) tree ⟨i, fN, v, ro, p⟩ = P (i 0) := by kernel_rfl
theorem ran : TT.beq (projL (rc.pj (cxOf 2)) (runT us (fun _ _ => .auto) rc 2 rc.f rc.args ⟨[], []⟩)) tree = true := by kernel_rfl
theorem fineT : (TT.fine (rc.cx (cxOf 2)) 1000 [] tree && (rc.cx (cxOf 2)).okB 1000 && SV.vbL 1000 rc.args && TT.tidy (rc.cx (cxOf 2)) [] tree) = true := by kernel_rfl
theorem ok : RcOk (cxOf 2) rc :=
  rc_run (runT_ok us_ok (fun _ _ => .auto) rc 2) ran fineT okb fun ρ hρ hcap hpre => by
    obtain ⟨i, f, v, ro, p⟩ := ρ
    have hf : f = fN := hρ.hF
    subst hf
    rw [plain]
    exact holds (i 0)
end Go.Proofs.YtefpbddmpiaaiaaDoor.CRIs
