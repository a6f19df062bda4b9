/-
  What astrolabelaw16.awake answers, as numbers of what it is handed: its run by the engine, and the plain statement behind it. No condition.
-/
import Derived.Test.YtbfgkimoobkpmaaGreatDoorGab
import Derived.Test.YtbfgkimoobkpmaaGreatDoorGib
import Derived.Test.YtbfgkimoobkpmaaGreatDoorGmC
namespace Go.Proofs.YtbfgkimoobkpmaaGreatDoor.CAwake16
open Go.Eng Go.RowKit
set_option linter.unusedVariables false
set_option linter.unusedSimpArgs false
set_option maxRecDepth 100000
def rc : Rc := ⟨7, [], [], [], .one, [.bool (.c 1)]⟩
theorem okb : rc.ok = true := by kernel_rfl
noncomputable def us : SMs := fun Γ ins n => smH (cxG n Γ ins) [] (smAnd 37 (libClone37 Γ ins n) (smAnd 161 (libLen32 Γ ins n) (smAnd 83 (libLen64 Γ ins n) (smR (cxG n Γ ins) []))))
theorem us_ok : SMsOk us := fun Γ ins n => smH_ok (tabsG n Γ ins) (rhs_nil _) (smAnd_ok (libClone37_ok Γ ins n) (smAnd_ok (libLen32_ok Γ ins n) (smAnd_ok (libLen64_ok Γ ins n) (smR_ok (tabsG n Γ ins) (rcs_nil _)))))
def tree : TT (List E) :=
(.leaf [(.c 1)])

def P : Prop :=
 ((1 : Int) ≠ 0 ↔ (1 : Int) ≠ 0) ∧ True

theorem holds : P := by
  unfold P
  simp

theorem plain (i v ro p) : statR 2 rc tree ⟨i, fN, v, ro, p⟩ = P  := by kernel_rfl
theorem ran : ranR us (fun _ _ => .auto) rc 2 tree = true := by kernel_rfl
theorem fineT : fineR 2 rc tree = true := by kernel_rfl
theorem ok : RcOk (cxOf 2) rc := okR us_ok ran fineT okb fun i v ro p hρ hcap hpre => by rw [plain]; exact holds
end Go.Proofs.YtbfgkimoobkpmaaGreatDoor.CAwake16
