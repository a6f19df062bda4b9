/-
  Parts of the engine, a program's symbolic run, proved sound; and of plain laws.
-/
import Derived.Test.YteimodjkllldlaaGreatDoorGmM
set_option linter.unusedVariables false
set_option linter.unusedSimpArgs false

/-!  -/
noncomputable section
namespace Go.Eng
section
variable {w nc nr rx rk rm hv pc st mq nm A B C D p s Q N t op d a b n : Int}
end
section
variable {nr : Int} {F : Fm} {R : Rm}
theorem fto_told {rg op d a b : Int} : ftoZ op d (qQq a (qQq b (qQq rg 0))) = 0 ↔ ¬ Fm.told ⟨rg, 0, 0, 0, 0, 0⟩ op d a b := by
 obtain ⟨r0, r1, r2⟩ := rd3 a b rg
 unfold ftoZ
 rw [r0, r1, r2]
 constructor
 ·intro h g; rw [if_pos g] at h; exact absurd h (by decide)
 ·intro h; rw [if_neg h]
end
end Go.Eng
end
