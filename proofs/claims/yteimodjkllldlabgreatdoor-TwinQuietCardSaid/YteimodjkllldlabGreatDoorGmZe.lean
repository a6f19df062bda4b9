/-
  Parts of the engine, a program's symbolic run, proved sound; and of plain laws.
-/
import Derived.Test.YteimodjkllldlabGreatDoorGmZd
set_option linter.unusedVariables false
set_option linter.unusedSimpArgs false

/-!  -/
noncomputable section
namespace Go.Eng
section
variable {V nc : Int}
end
section
variable {w nc nr cS : Int}
variable {V W n : Int} {X : Int → Prop}
end
end Go.Eng
end
