/-
  What astrolaberef01.Plain answers, as numbers of what it is handed: its run by the engine, and the plain statement behind it. No condition.
-/
import Derived.Test.YtbfgkimoobkpmaaGreatDoorGab
import Derived.Test.YtbfgkimoobkpmaaGreatDoorGmD
namespace Go.Proofs.YtbfgkimoobkpmaaGreatDoor.CRPlain
open Go.Eng Go.RowKit
set_option linter.unusedVariables false
set_option linter.unusedSimpArgs false
set_option maxRecDepth 100000
def rc : Rc := ⟨132, [none], [.int .i32], [], .one, [.int .i64 (.w .u32 (.v 0))]⟩
theorem okb : rc.ok = true := by kernel_rfl
noncomputable def us : SMs := fun Γ ins n => smH (cxG n Γ ins) [] (smR (cxG n Γ ins) [])
theorem us_ok : SMsOk us := fun Γ ins n => smH_ok (tabsG n Γ ins) (rhs_nil _) (smR_ok (tabsG n Γ ins) (rcs_nil _))
def tree : TT (List E) :=
(.br (.b .lt .i64 (.b .rem .i64 (.v 0) (.c 4294967296)) (.c 0))
  (.leaf [(.b .padd .i64 (.b .rem .i64 (.v 0) (.c 4294967296)) (.c 4294967296))])
  (.leaf [(.b .rem .i64 (.v 0) (.c 4294967296))]))

def P (p0 : Int) : Prop :=
 (((bool01 (decide ((BO.ev .rem .i64 p0 4294967296) < 0))) ≠ 0 →
  (((BO.ev .rem .i64 p0 4294967296) + 4294967296) : Int) = (IntKind.wrap .u32 p0) ∧ True) ∧ ((bool01 (decide ((BO.ev .rem .i64 p0 4294967296) < 0))) = 0 →
  ((BO.ev .rem .i64 p0 4294967296) : Int) = (IntKind.wrap .u32 p0) ∧ True))

theorem tm (x : Int) : BO.ev .rem .i64 x 4294967296 = if 0 ≤ x then x % 4294967296 else -((-x) % 4294967296) := by
  show x.tmod 4294967296 = _
  split
  · exact Int.tmod_eq_emod_of_nonneg (by assumption)
  · rename_i h
    rw [← Int.neg_neg x, Int.neg_tmod, Int.tmod_eq_emod_of_nonneg (by omega), Int.neg_neg]
theorem holds (p0 : Int) (l_p0 : -2147483648 ≤ p0) (u_p0 : p0 ≤ 2147483647) : P p0 := by
  unfold P
  simp only [tm, wu32]
  simp only [b01_eq, decide_eq_true_eq, decide_eq_false_iff_not, beq_iff_eq, beq_eq_false_iff_ne, bne_iff_ne, bne_eq_false_iff_eq, Int.not_le, Int.not_lt, true_and, and_true, iteZ_ne, ne_eq, Bool.not_eq_false, Bool.not_eq_true, not_true_eq_false, not_false_eq_true, Decidable.not_not, forall_const, false_implies, true_iff, iff_true, false_iff, iff_false, Int.reduceEq, Int.reduceNeg, eq_self, if_true, if_false, reduceIte]
  refine ⟨fun h => ?_, fun h => ?_⟩ <;> (repeat' split at *) <;> omega

theorem plain (i v ro p) : statR 2 rc tree ⟨i, fN, v, ro, p⟩ = P (i 0) := by kernel_rfl
theorem ran : ranR us (fun _ _ => .auto) rc 2 tree = true := by kernel_rfl
theorem fineT : fineR 2 rc tree = true := by kernel_rfl
theorem ok : RcOk (cxOf 2) rc := okR us_ok ran fineT okb fun i v ro p hρ hcap hpre => by rw [plain]; exact holds (i 0) (hρ.hi 0 _ rfl).1 (hρ.hi 0 _ rfl).2
end Go.Proofs.YtbfgkimoobkpmaaGreatDoor.CRPlain
