/-
  What astrolaberef07.bits answers, as numbers of what it is handed: its run by the engine, and the plain statement behind it. No condition.
-/
import Derived.Test.YtbfgkimoobkpmaaGreatDoorGab
import Derived.Test.YtbfgkimoobkpmaaGreatDoorGmD
namespace Go.Proofs.YtbfgkimoobkpmaaGreatDoor.CRBitN
open Go.Eng Go.RowKit
set_option linter.unusedVariables false
set_option linter.unusedSimpArgs false
set_option maxRecDepth 100000
def rc : Rc := ⟨59, [none], [.int .i64], [], .one, [.int .i64 (.ite (.b .lt .i64 (.v 0) (.c 0)) (.c 0) (.f 3 (.v 0) (.c 0) (.c 0)))]⟩
theorem okb : rc.ok = true := by kernel_rfl
noncomputable def us : SMs := fun Γ ins n => smH (cxG n Γ ins) [] (smR (cxG n Γ ins) [])
theorem us_ok : SMsOk us := fun Γ ins n => smH_ok (tabsG n Γ ins) (rhs_nil _) (smR_ok (tabsG n Γ ins) (rcs_nil _))
def tree : TT (List E) :=
(.loop ⟨1000, [some (-9223372036854775808, 9223372036854775807), some (0, 4611686018427387904)], [(.v 0), (.c 0)], 1003⟩
  (.br (.b .lt .i64 (.c 0) (.cl 1000 (-9223372036854775808) 9223372036854775807))
  (.br (.b .le .i64 (.b .padd .i64 (.cl 1001 0 4611686018427387904) (.c 1)) (.c 4611686018427387904))
  (.back [(.b .quo .i64 (.cl 1000 (-9223372036854775808) 9223372036854775807) (.c 2)), (.b .padd .i64 (.cl 1001 0 4611686018427387904) (.c 1))])
  (.bad 303))
  (.exit 0))
  (.leaf [(.cl 1001 0 4611686018427387904)]))

def P (p0 : Int) : Prop :=
 ∃ I1000 : Int → Int → Nat → Prop, (∃ m, I1000 p0 0 m) ∧
 ∀ y1000 y1001 : Int, ∀ m1000, (((-9223372036854775808) ≤ y1000 ∧ y1000 ≤ 9223372036854775807) ∧ (0 ≤ y1001 ∧ y1001 ≤ 4611686018427387904) ∧ True) → I1000 y1000 y1001 m1000 →
  (((bool01 (decide (0 < y1000))) ≠ 0 →
   (((bool01 (decide ((y1001 + 1) ≤ 4611686018427387904))) ≠ 0 →
    ∃ m', m' < m1000 ∧ I1000 (BO.ev .quo .i64 y1000 2) (y1001 + 1) m') ∧ ((bool01 (decide ((y1001 + 1) ≤ 4611686018427387904))) = 0 →
    False))) ∧ ((bool01 (decide (0 < y1000))) = 0 →
   (y1001 : Int) = (iteZ (bool01 (decide (p0 < 0))) 0 (blen64 p0)) ∧ True))

theorem bl_half {x : Int} (h : 0 < x) (h2 : x ≤ 9223372036854775807) : blen64 x = 1 + blen64 (x / 2) := by
  unfold blen64
  rw [Int.emod_eq_of_lt (by omega) (by omega), Int.emod_eq_of_lt (by omega) (by omega), Lib.bitLen_half x.toNat (by omega) (by omega), show (x / 2).toNat = x.toNat / 2 by omega]
  push_cast; rfl
theorem bl_zero : blen64 0 = 0 := by decide
theorem holds (p0 : Int) (l_p0 : -9223372036854775808 ≤ p0) (u_p0 : p0 ≤ 9223372036854775807) : P p0 := by
  unfold P
  simp only [b01_eq, decide_eq_true_eq, decide_eq_false_iff_not, beq_iff_eq, beq_eq_false_iff_ne, bne_iff_ne, bne_eq_false_iff_eq, Int.not_le, Int.not_lt, true_and, and_true, iteZ_ne, ne_eq, Bool.not_eq_false, Bool.not_eq_true, not_true_eq_false, not_false_eq_true, Decidable.not_not, forall_const, false_implies, true_iff, iff_true, false_iff, iff_false, Int.reduceEq, Int.reduceNeg, eq_self, if_true, if_false, reduceIte, ob_le, ob_lt, ob_p, ob_n]
  refine ⟨fun x k m => (if p0 < 0 then 0 else blen64 p0) = k + (if x < 0 then 0 else blen64 x) ∧ (x ≤ 0 ∨ k ≤ 64) ∧ k + (if x ≤ 0 then 0 else blen64 x) ≤ 64 ∧ m = x.toNat, ⟨_, by omega, by omega, ?_, rfl⟩, fun x k m hb hI => ?_⟩
  · split
    · omega
    · have := bitLenB 64 (p0 % 18446744073709551616).toNat (by omega) (by omega)
      unfold blen64; omega
  obtain ⟨h1, h2, h3, rfl⟩ := hI
  have hq : 0 < x → BO.ev .quo .i64 x 2 = x / 2 := fun h => quo_pos (by omega) (by omega) (by decide)
  refine ⟨fun hx => ?_, fun hx => ?_⟩
  · rw [hq hx]
    have hh := bl_half hx (by omega)
    rw [if_neg (show ¬ x < 0 by omega)] at h1
    rw [if_neg (show ¬ x ≤ 0 by omega)] at h3
    have hz := (show 0 ≤ blen64 (x / 2) by unfold blen64; omega)
    refine ⟨by omega, _, ?_, ?_, by omega, ?_, rfl⟩
    · omega
    · rw [if_neg (show ¬ x / 2 < 0 by omega)]; omega
    · split
      · omega
      · omega
  · have : (if x < 0 then 0 else blen64 x) = 0 := by
      by_cases h : x < 0
      · rw [if_pos h]
      · rw [if_neg h, show x = 0 by omega, bl_zero]
    omega

theorem plain (i v ro p) : statR 2 rc tree ⟨i, fN, v, ro, p⟩ = P (i 0) := by kernel_rfl
theorem ran : ranR us (fun _ _ => .auto) rc 2 tree = true := by kernel_rfl
theorem fineT : fineR 2 rc tree = true := by kernel_rfl
theorem ok : RcOk (cxOf 2) rc := okR us_ok ran fineT okb fun i v ro p hρ hcap hpre => by rw [plain]; exact holds (i 0) (hρ.hi 0 _ rfl).1 (hρ.hi 0 _ rfl).2
end Go.Proofs.YtbfgkimoobkpmaaGreatDoor.CRBitN
