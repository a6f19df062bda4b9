/-
  Parts of the engine, a program's symbolic run, proved sound; and of plain laws.
-/
import Derived.Test.YteimodjkllldladGmZh
set_option linter.unusedVariables false
set_option linter.unusedSimpArgs false

/-!  -/
noncomputable section
namespace Go.Eng
theorem dec_n0 {x : Int} (h : decZ x 5 = 0) (h31 : decZ x 0 ≠ 31) : 0 ≤ decZ x 4 := by
 unfold decZ at *
 simp only [if_true] at h
 have hp : decP (x % 4294967296) := Classical.byContradiction fun g => by
  rw [if_neg g] at h
  split at h <;> exact absurd h (by decide)
 simp only [hp, not_true_eq_false, if_false, if_true, show (0 : Int) = 5 ↔ False by decide, show (4 : Int) = 5 ↔ False by decide, show (4 : Int) = 0 ↔ False by decide, show (4 : Int) = 1 ↔ False by decide, show (4 : Int) = 2 ↔ False by decide, show (4 : Int) = 3 ↔ False by decide] at *
 unfold decN
 simp only
 split
 ·exact Int.le_refl _
 ·omega
theorem any_open {c n : Int} : anyZ c n 0 ≠ 0 ↔ ∃ j : Int, 0 ≤ j ∧ j < n ∧ rdZ c j = 0 := by
 unfold anyZ
 split
 ·rename_i h
  obtain ⟨j, j0, j1, k⟩ := h
  exact ⟨fun _ => ⟨j, j0, j1, Classical.byContradiction fun g => absurd rfl (k.1 g)⟩, fun _ => by decide⟩
 ·rename_i h
  exact ⟨fun k => absurd rfl k, fun ⟨j, j0, j1, k⟩ => absurd ⟨j, j0, j1, ⟨fun g => absurd k g, fun g => absurd rfl g⟩⟩ h⟩
end Go.Eng
end
