/-
  Parts of the engine, a program's symbolic run, proved sound; and of plain laws.
-/
import Derived.Test.YteimodjkllldlaaGreatDoorGmK
import Derived.Test.YteimodjkllldlaaGreatDoorGmD
set_option linter.unusedVariables false
set_option linter.unusedSimpArgs false

/-!  -/
noncomputable section
namespace Go.Eng
section
variable {op d a b n nr rx rk rm hv pc st mq nm A B C D p s Q N : Int}
end
theorem may_rd (x k : Int) : rdZ (mayZ x k) 0 = x ∧ rdZ (mayZ x k) 1 = k := by
 unfold mayZ
 refine ⟨qQk _ _, ?_⟩
 rw [qQg _ _ (by omega)]; exact qQk _ _
section
variable {nr : Int} {F : Fm} {R : Rm}
theorem both_may (p q v : Int) : both p q v = if p ≠ 0 ∧ q ≠ 0 then mayZ v 1 else mayZ 0 0 := rfl
end
end Go.Eng
end
