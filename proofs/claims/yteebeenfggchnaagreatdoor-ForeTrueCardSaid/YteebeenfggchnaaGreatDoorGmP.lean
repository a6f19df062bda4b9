/-
  Parts of the engine, a program's symbolic run, proved sound; and of plain laws.
-/
import Derived.Test.YteebeenfggchnaaGreatDoorGmT
import Derived.Test.YteebeenfggchnaaGreatDoorGu5
set_option linter.unusedVariables false
set_option linter.unusedSimpArgs false

/-!  -/
noncomputable section
namespace Go.Eng
theorem wrap_rd (c i f : Int) : IntKind.wrap .i64 (rdZ (rdZ c i) f) = mk c i f := rfl
def chn : List Int → Int
 | [] => 0
 | x :: l => qQq x (chn l)
theorem qKm : ∀ (l : List Int) (i : Nat), rdZ (chn l) i = l.getD i 0
 | [], i => by simp [chn, qXu]
 | x :: l, 0 => by rw [chn]; exact qQk _ _
 | x :: l, i + 1 => by
  rw [chn, qQf _ _ (by omega), show ((i + 1 : Nat) : Int) - 1 = (i : Nat) by omega, qKm l i]
  simp
end Go.Eng
end
