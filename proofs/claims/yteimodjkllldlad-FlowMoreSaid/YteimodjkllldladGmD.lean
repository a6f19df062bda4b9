/-
  Parts of the engine, a program's symbolic run, proved sound; and of plain laws.
-/
import Derived.Test.YteimodjkllldladGmC
set_option linter.unusedVariables false
set_option linter.unusedSimpArgs false

/-!  -/
noncomputable section
namespace Go.Eng
abbrev b32 (x : Int) : BitVec 32 := BitVec.ofInt 32 x
def bt (Z : BitVec 32) (i : Nat) : Int := if Z.getLsbD i then 1 else 0
end Go.Eng
end
