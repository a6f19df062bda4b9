/-
  Parts of the engine, a program's symbolic run, proved sound; and of plain laws.
-/
import Derived.Test.YteimodjkllldladGmT
import Derived.Test.YteimodjkllldladGu5
set_option linter.unusedVariables false
set_option linter.unusedSimpArgs false

/-!  -/
noncomputable section
namespace Go.Eng
def chn : List Int → Int
 | [] => 0
 | x :: l => qQq x (chn l)
theorem rd_chn : ∀ (l : List Int) (i : Nat), rdZ (chn l) i = l.getD i 0
 | [], i => by simp [chn, qZi]
 | x :: l, 0 => by rw [chn]; exact qQa _ _
 | x :: l, i + 1 => by
  rw [chn, qZz _ _ (by omega), show ((i + 1 : Nat) : Int) - 1 = (i : Nat) by omega, rd_chn l i]
  simp
end Go.Eng
end
