/-
  Parts of the engine, a program's symbolic run, proved sound; and of plain laws.
-/
import Derived.Test.YteimodjkllldlacGmT
import Derived.Test.YteimodjkllldlacGu5
set_option linter.unusedVariables false
set_option linter.unusedSimpArgs false

/-!  -/
noncomputable section
namespace Go.Eng
def chn : List Int → Int
 | [] => 0
 | x :: l => qQq x (chn l)
theorem qXt : ∀ (l : List Int) (i : Nat), rdZ (chn l) i = l.getD i 0
 | [], i => by simp [chn, qZe]
 | x :: l, 0 => by rw [chn]; exact qQb _ _
 | x :: l, i + 1 => by
  rw [chn, qZk _ _ (by omega), show ((i + 1 : Nat) : Int) - 1 = (i : Nat) by omega, qXt l i]
  simp
end Go.Eng
end
