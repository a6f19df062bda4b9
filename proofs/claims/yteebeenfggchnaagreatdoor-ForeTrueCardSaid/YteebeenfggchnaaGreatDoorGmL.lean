/-
  Parts of the engine, a program's symbolic run, proved sound; and of plain laws.
-/
import Derived.Test.YteebeenfggchnaaGreatDoorGmI
set_option linter.unusedVariables false
set_option linter.unusedSimpArgs false

/-!  -/
noncomputable section
namespace Go.Eng
section
theorem dcA : decZ (IntKind.wrap .u32 2283798528) 0 = 34 ∧ decZ (IntKind.wrap .u32 2283798528) 1 = 1 ∧ decZ (IntKind.wrap .u32 2283798528) 2 = 0 ∧ decZ (IntKind.wrap .u32 2283798528) 3 = 0 ∧ decZ (IntKind.wrap .u32 2283798528) 4 = 0 ∧ decZ (IntKind.wrap .u32 2283798528) 5 = 0 := by decide
theorem dcD : decZ (IntKind.wrap .u32 2885681152) 0 = 43 ∧ decZ (IntKind.wrap .u32 2885681152) 1 = 0 ∧ decZ (IntKind.wrap .u32 2885681152) 2 = 0 ∧ decZ (IntKind.wrap .u32 2885681152) 3 = 0 ∧ decZ (IntKind.wrap .u32 2885681152) 4 = 0 ∧ decZ (IntKind.wrap .u32 2885681152) 5 = 0 := by decide
theorem zero_rd (i : Int) (h0 : 0 ≤ i) : rdZ (zeroZ 32) i = 0 := by
 have : ∀ (n : Nat) (i : Nat), rdZ (zeroZ n) i = 0 := by
  intro n
  induction n with
  | zero => intro i; exact qXu _
  | succ n ih =>
   intro i
   cases i with
   | zero => exact qQk _ _
   | succ i =>
    show rdZ (qQq 0 (zeroZ n)) _ = 0
    rw [qQf _ _ (by omega), show ((i + 1 : Nat) : Int) - 1 = i by omega]; exact ih i
 have := this 32 i.toNat
 rwa [show ((i.toNat : Nat) : Int) = i by omega] at this
variable {M v c : Int}
end
end Go.Eng
end
