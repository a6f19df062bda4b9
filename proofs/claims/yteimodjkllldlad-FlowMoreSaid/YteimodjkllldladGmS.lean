/-
  Parts of the engine, a program's symbolic run, proved sound; and of plain laws.
-/
import Derived.Test.YteimodjkllldladGmR
import Derived.Test.YteimodjkllldladGmE
set_option linter.unusedVariables false
set_option linter.unusedSimpArgs false

/-!  -/
noncomputable section
namespace Go.Eng
section
variable {nr : Int} {F : Fm} {M : Mac}
end
section
variable {w nr : Int} {nc : Nat}
end
end Go.Eng
end
