/-
  Parts of the engine, a program's symbolic run, proved sound; and of plain laws.
-/
import Derived.Test.YteimodjkllldladGmU
set_option linter.unusedVariables false
set_option linter.unusedSimpArgs false

/-!  -/
noncomputable section
namespace Go.Eng
section
variable {nr cS : Int} {S : Int → Prop} {A B : Mac}
end
section
variable {nr cS op d a b n : Int} {S : Int → Prop} {A B : Mac}
end
section
variable {w nr cS : Int} {nc : Nat} {L : Lv}
end
end Go.Eng
end
