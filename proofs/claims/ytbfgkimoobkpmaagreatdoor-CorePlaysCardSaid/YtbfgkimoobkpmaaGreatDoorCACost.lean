/-
  What alu.Cost answers, as numbers of what it is handed: its run by the engine, and the plain statement behind it. No condition.
-/
import Derived.Test.YtbfgkimoobkpmaaGreatDoorGab
import Derived.Test.YtbfgkimoobkpmaaGreatDoorGib
import Derived.Test.YtbfgkimoobkpmaaGreatDoorCOCost
import Derived.Test.YtbfgkimoobkpmaaGreatDoorGmC
namespace Go.Proofs.YtbfgkimoobkpmaaGreatDoor.CACost
open Go.Eng Go.RowKit
set_option linter.unusedVariables false
set_option linter.unusedSimpArgs false
set_option maxRecDepth 100000
def rc : Rc := ⟨49, [none, none], [.int .i64, .int .i32], [], .one, [.int .i64 (.f 65 (.v 0) (.v 1) (.c 0))]⟩
theorem okb : rc.ok = true := by kernel_rfl
noncomputable def us : SMs := fun Γ ins n => smH (cxG n Γ ins) [] (smAnd 83 (libLen64 Γ ins n) (smR (cxG n Γ ins) [COCost.rc]))
theorem us_ok : SMsOk us := fun Γ ins n => smH_ok (tabsG n Γ ins) (rhs_nil _) (smAnd_ok (libLen64_ok Γ ins n) (smR_ok (tabsG n Γ ins) (rcs_cons COCost.okb (rc_n COCost.ok) (rcs_nil _))))
def tree : TT (List E) :=
(.br (.b .eq .i64 (.v 0) (.c 22))
  (.leaf [(.b .padd .i64 (.f 66 (.v 0) (.c 0) (.c 0)) (.f 3 (.w .u64 (.b .max .i64 (.v 1) (.b .psub .i64 (.c 0) (.v 1)))) (.c 0) (.c 0)))])
  (.br (.b .eq .i64 (.v 0) (.c 23))
  (.leaf [(.b .padd .i64 (.f 66 (.v 0) (.c 0) (.c 0)) (.f 3 (.w .u64 (.b .max .i64 (.v 1) (.b .psub .i64 (.c 0) (.v 1)))) (.c 0) (.c 0)))])
  (.leaf [(.f 66 (.v 0) (.c 0) (.c 0))])))

def P (p0 p1 : Int) : Prop :=
 (((bool01 (p0 == 22)) ≠ 0 →
  (((opCo p0) + (blen64 (IntKind.wrap .u64 (maxZ p1 (0 - p1))))) : Int) = (aluC p0 p1) ∧ True) ∧ ((bool01 (p0 == 22)) = 0 →
  (((bool01 (p0 == 23)) ≠ 0 →
   (((opCo p0) + (blen64 (IntKind.wrap .u64 (maxZ p1 (0 - p1))))) : Int) = (aluC p0 p1) ∧ True) ∧ ((bool01 (p0 == 23)) = 0 →
   ((opCo p0) : Int) = (aluC p0 p1) ∧ True))))

theorem holds (p0 p1 : Int) (l_p0 : -9223372036854775808 ≤ p0) (u_p0 : p0 ≤ 9223372036854775807) (l_p1 : -2147483648 ≤ p1) (u_p1 : p1 ≤ 2147483647) : P p0 p1 := by
  unfold P
  simp only [b01_eq, decide_eq_true_eq, decide_eq_false_iff_not, beq_iff_eq, beq_eq_false_iff_ne, bne_iff_ne, bne_eq_false_iff_eq, Int.not_le, Int.not_lt, true_and, and_true, iteZ_ne, ne_eq, Bool.not_eq_false, Bool.not_eq_true, not_true_eq_false, not_false_eq_true, Decidable.not_not, forall_const, false_implies, true_iff, iff_true, false_iff, iff_false, Int.reduceEq, Int.reduceNeg, eq_self, if_true, if_false, reduceIte]
  have e : ∀ p, p = 22 ∨ p = 23 → opCo p + blen64 (IntKind.wrap .u64 (maxZ p1 (0 - p1))) = aluC p p1 := fun p h => by unfold aluC; rw [if_pos h]; rfl
  refine ⟨fun h => e _ (.inl h), fun h => ⟨fun h => e _ (.inr h), fun h => ?_⟩⟩
  unfold aluC; rw [if_neg (by omega)]; omega

theorem plain (i v ro p) : statR 2 rc tree ⟨i, fN, v, ro, p⟩ = P (i 0) (i 1) := by kernel_rfl
theorem ran : ranR us (fun _ _ => .auto) rc 2 tree = true := by kernel_rfl
theorem fineT : fineR 2 rc tree = true := by kernel_rfl
theorem ok : RcOk (cxOf 2) rc := okR us_ok ran fineT okb fun i v ro p hρ hcap hpre => by rw [plain]; exact holds (i 0) (i 1) (hρ.hi 0 _ rfl).1 (hρ.hi 0 _ rfl).2 (hρ.hi 1 _ rfl).1 (hρ.hi 1 _ rfl).2
end Go.Proofs.YtbfgkimoobkpmaaGreatDoor.CACost
