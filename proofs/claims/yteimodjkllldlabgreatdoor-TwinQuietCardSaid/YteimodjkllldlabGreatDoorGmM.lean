/-
  Parts of the engine, a program's symbolic run, proved sound; and of plain laws.
-/
import Derived.Test.YteimodjkllldlabGreatDoorGmK
import Derived.Test.YteimodjkllldlabGreatDoorGmD
set_option linter.unusedVariables false
set_option linter.unusedSimpArgs false

/-!  -/
noncomputable section
namespace Go.Eng
section
variable {op d a b n nr rx rk rm hv pc st mq nm A B C D p s Q N : Int}
end
section
variable {nr : Int} {F : Fm} {R : Rm}
theorem aluK_iff {op a b : Int} (h1 : 1 ≤ op) (h2 : op ≤ 30) : aluK op a b = 0 ↔ (op = 22 ∨ op = 23) ∧ b = 0 := by
 unfold aluK
 by_cases h : aluP op b
 ·rw [if_pos h]; exact ⟨fun g => absurd g (by decide), fun g => absurd g h.2.2⟩
 ·rw [if_neg h]; exact ⟨fun _ => Classical.byContradiction fun g => h ⟨h1, h2, g⟩, fun _ => rfl⟩
theorem aluV_b {op a b c : Int} (h : 24 ≤ op) (h2 : op ≤ 30) : aluV op a b = aluV op a c := by
 have p : ∀ x, aluP op x := fun x => by unfold aluP; omega
 unfold aluV
 rw [if_pos (p b), if_pos (p c)]
 unfold aluX
 simp only [if_neg (show ¬ op = 1 by omega), if_neg (show ¬ op = 2 by omega), if_neg (show ¬ op = 3 by omega), if_neg (show ¬ op = 4 by omega), if_neg (show ¬ op = 5 by omega), if_neg (show ¬ op = 6 by omega), if_neg (show ¬ op = 7 by omega), if_neg (show ¬ op = 8 by omega), if_neg (show ¬ op = 9 by omega), if_neg (show ¬ op = 10 by omega), if_neg (show ¬ op = 11 by omega), if_neg (show ¬ op = 12 by omega), if_neg (show ¬ op = 13 by omega), if_neg (show ¬ op = 14 by omega), if_neg (show ¬ op = 15 by omega), if_neg (show ¬ op = 16 by omega), if_neg (show ¬ op = 17 by omega), if_neg (show ¬ op = 18 by omega), if_neg (show ¬ op = 19 by omega), if_neg (show ¬ op = 20 by omega), if_neg (show ¬ op = 21 by omega), if_neg (show ¬ op = 22 by omega), if_neg (show ¬ op = 23 by omega)]
end
end Go.Eng
end
