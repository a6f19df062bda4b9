/-
  What astrolaberef07.Cost answers, as numbers of what it is handed: its run by the engine, and the plain statement behind it. No condition.
-/
import Derived.Test.YtbfgkimoobkpmaaGreatDoorGab
import Derived.Test.YtbfgkimoobkpmaaGreatDoorCRBitN
import Derived.Test.YtbfgkimoobkpmaaGreatDoorCRCost6
import Derived.Test.YtbfgkimoobkpmaaGreatDoorGmD
namespace Go.Proofs.YtbfgkimoobkpmaaGreatDoor.CRCost7
open Go.Eng Go.RowKit
set_option linter.unusedVariables false
set_option linter.unusedSimpArgs false
set_option maxRecDepth 100000
def rc : Rc := ⟨36, [none, none], [.int .i64, .int .i32], [], .one, [.int .i64 (.f 65 (.v 0) (.v 1) (.c 0))]⟩
theorem okb : rc.ok = true := by kernel_rfl
noncomputable def us : SMs := fun Γ ins n => smH (cxG n Γ ins) [] (smR (cxG n Γ ins) [CRBitN.rc, CRCost6.rc])
theorem us_ok : SMsOk us := fun Γ ins n => smH_ok (tabsG n Γ ins) (rhs_nil _) (smR_ok (tabsG n Γ ins) (rcs_cons CRBitN.okb (rc_n CRBitN.ok) (rcs_cons CRCost6.okb (rc_n CRCost6.ok) (rcs_nil _))))
def tree : TT (List E) :=
(.br (.b .eq .i64 (.v 0) (.c 22))
  (.br (.b .lt .i64 (.v 1) (.c 0))
  (.new 1000 (.ite (.b .lt .i64 (.b .psub .i64 (.c 0) (.v 1)) (.c 0)) (.c 0) (.f 3 (.b .psub .i64 (.c 0) (.v 1)) (.c 0) (.c 0)))
  (.leaf [(.b .padd .i64 (.c 2) (.cl 1000 0 64))]))
  (.leaf [(.b .padd .i64 (.c 2) (.ite (.b .lt .i64 (.v 1) (.c 0)) (.c 0) (.f 3 (.v 1) (.c 0) (.c 0))))]))
  (.br (.b .eq .i64 (.v 0) (.c 23))
  (.br (.b .lt .i64 (.v 1) (.c 0))
  (.new 1000 (.ite (.b .lt .i64 (.b .psub .i64 (.c 0) (.v 1)) (.c 0)) (.c 0) (.f 3 (.b .psub .i64 (.c 0) (.v 1)) (.c 0) (.c 0)))
  (.leaf [(.b .padd .i64 (.c 2) (.cl 1000 0 64))]))
  (.leaf [(.b .padd .i64 (.c 2) (.ite (.b .lt .i64 (.v 1) (.c 0)) (.c 0) (.f 3 (.v 1) (.c 0) (.c 0))))]))
  (.leaf [(.f 66 (.v 0) (.c 0) (.c 0))])))

def P (p0 p1 : Int) : Prop :=
 (((bool01 (p0 == 22)) ≠ 0 →
  (((bool01 (decide (p1 < 0))) ≠ 0 →
   ∀ y1000 : Int, y1000 = (iteZ (bool01 (decide ((0 - p1) < 0))) 0 (blen64 (0 - p1))) → (0 ≤ y1000 ∧ y1000 ≤ 64) →
   ((2 + y1000) : Int) = (aluC p0 p1) ∧ True) ∧ ((bool01 (decide (p1 < 0))) = 0 →
   ((2 + (iteZ (bool01 (decide (p1 < 0))) 0 (blen64 p1))) : Int) = (aluC p0 p1) ∧ True))) ∧ ((bool01 (p0 == 22)) = 0 →
  (((bool01 (p0 == 23)) ≠ 0 →
   (((bool01 (decide (p1 < 0))) ≠ 0 →
    ∀ y1000 : Int, y1000 = (iteZ (bool01 (decide ((0 - p1) < 0))) 0 (blen64 (0 - p1))) → (0 ≤ y1000 ∧ y1000 ≤ 64) →
    ((2 + y1000) : Int) = (aluC p0 p1) ∧ True) ∧ ((bool01 (decide (p1 < 0))) = 0 →
    ((2 + (iteZ (bool01 (decide (p1 < 0))) 0 (blen64 p1))) : Int) = (aluC p0 p1) ∧ True))) ∧ ((bool01 (p0 == 23)) = 0 →
   ((opCo p0) : Int) = (aluC p0 p1) ∧ True))))

theorem aluL_pos {a : Int} (h : 0 ≤ a) (h2 : a ≤ 2147483647) : aluL a = blen64 a := by
  unfold aluL blen64
  rw [if_neg (by omega), show IntKind.wrap .u64 a = a from wrap_in .u64 _ (show (0 : Int) ≤ _ by omega) (show _ ≤ (18446744073709551615 : Int) by omega)]
theorem aluL_neg {a : Int} (h : a < 0) (h2 : -2147483648 ≤ a) : aluL a = blen64 (0 - a) := by
  unfold aluL blen64
  rw [if_pos (by omega), show IntKind.wrap .u64 (0 - a) = 0 - a from wrap_in .u64 _ (show (0 : Int) ≤ _ by omega) (show _ ≤ (18446744073709551615 : Int) by omega)]
theorem holds (p0 p1 : Int) (l_p0 : -9223372036854775808 ≤ p0) (u_p0 : p0 ≤ 9223372036854775807) (l_p1 : -2147483648 ≤ p1) (u_p1 : p1 ≤ 2147483647) : P p0 p1 := by
  unfold P
  have c2 : ∀ p, p = 22 ∨ p = 23 → aluC p p1 = 2 + aluL p1 := fun p h => by
    unfold aluC opCo
    rw [if_pos h, if_neg (by omega), if_neg (by omega), if_pos (by omega)]
  simp only [b01_eq, decide_eq_true_eq, decide_eq_false_iff_not, beq_iff_eq, beq_eq_false_iff_ne, bne_iff_ne, bne_eq_false_iff_eq, Int.not_le, Int.not_lt, true_and, and_true, iteZ_ne, ne_eq, Bool.not_eq_false, Bool.not_eq_true, not_true_eq_false, not_false_eq_true, Decidable.not_not, forall_const, false_implies, true_iff, iff_true, false_iff, iff_false, Int.reduceEq, Int.reduceNeg, eq_self, if_true, if_false, reduceIte]
  refine ⟨fun h => ⟨fun g => ?_, fun g => ?_⟩, fun h => ⟨fun h2 => ⟨fun g => ?_, fun g => ?_⟩, fun h2 => ?_⟩⟩
  · rintro _ rfl _
    rw [c2 p0 (.inl h), aluL_neg g l_p1, if_neg (by omega)]
  · rw [c2 p0 (.inl h), aluL_pos g u_p1, if_neg (by omega)]
  · rintro _ rfl _
    rw [c2 p0 (.inr h2), aluL_neg g l_p1, if_neg (by omega)]
  · rw [c2 p0 (.inr h2), aluL_pos g u_p1, if_neg (by omega)]
  · unfold aluC; rw [if_neg (by omega)]; omega

theorem plain (i v ro p) : statR 2 rc tree ⟨i, fN, v, ro, p⟩ = P (i 0) (i 1) := by kernel_rfl
theorem ran : ranR us (fun _ _ => .auto) rc 2 tree = true := by kernel_rfl
theorem fineT : fineR 2 rc tree = true := by kernel_rfl
theorem ok : RcOk (cxOf 2) rc := okR us_ok ran fineT okb fun i v ro p hρ hcap hpre => by rw [plain]; exact holds (i 0) (i 1) (hρ.hi 0 _ rfl).1 (hρ.hi 0 _ rfl).2 (hρ.hi 1 _ rfl).1 (hρ.hi 1 _ rfl).2
end Go.Proofs.YtbfgkimoobkpmaaGreatDoor.CRCost7
