/-
  Parts of the engine, a program's symbolic run, proved sound; and of plain laws.
-/
import Derived.Test.YteimodjkllldlaaGreatDoorGmI
set_option linter.unusedVariables false
set_option linter.unusedSimpArgs false

/-!  -/
noncomputable section
namespace Go.Eng
section
theorem dcA : decZ (IntKind.wrap .u32 2283798528) 0 = 34 ∧ decZ (IntKind.wrap .u32 2283798528) 1 = 1 ∧ decZ (IntKind.wrap .u32 2283798528) 2 = 0 ∧ decZ (IntKind.wrap .u32 2283798528) 3 = 0 ∧ decZ (IntKind.wrap .u32 2283798528) 4 = 0 ∧ decZ (IntKind.wrap .u32 2283798528) 5 = 0 := by decide
theorem dcD : decZ (IntKind.wrap .u32 2885681152) 0 = 43 ∧ decZ (IntKind.wrap .u32 2885681152) 1 = 0 ∧ decZ (IntKind.wrap .u32 2885681152) 2 = 0 ∧ decZ (IntKind.wrap .u32 2885681152) 3 = 0 ∧ decZ (IntKind.wrap .u32 2885681152) 4 = 0 ∧ decZ (IntKind.wrap .u32 2885681152) 5 = 0 := by decide
variable {M v c : Int}
end
end Go.Eng
end
