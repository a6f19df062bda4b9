/-
  Parts of the engine, a program's symbolic run, proved sound; and of plain laws.
-/
import Derived.Test.YteimodjkllldladGmZa
set_option linter.unusedVariables false
set_option linter.unusedSimpArgs false

/-!  -/
noncomputable section
namespace Go.Eng
theorem bo1 (x k : Int) : qQz (x == k) = if x = k then 1 else 0 := by
 unfold qQz
 by_cases e : x = k
 ·rw [if_pos e]; simp [e]
 ·rw [if_neg e]; simp [e]
theorem bo2 (x k : Int) : qQz (decide (x ≤ k)) = if x ≤ k then 1 else 0 := by
 unfold qQz
 by_cases e : x ≤ k
 ·rw [if_pos e]; simp [e]
 ·rw [if_neg e]; simp [e]
end Go.Eng
end
