/-
  Parts of the engine, a program's symbolic run, proved sound; and of plain laws.
-/
import Derived.Test.YteimodjkllldladGmO
set_option linter.unusedVariables false
set_option linter.unusedSimpArgs false

/-!  -/
noncomputable section
namespace Go.Eng
section
variable {cK nc nr cD cS i rx rk rm hv pc st mq nm fuel T : Int}
end
end Go.Eng
end
