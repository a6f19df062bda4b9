/-
  Parts of the engine, a program's symbolic run, proved sound; and of plain laws.
-/
import Derived.Test.YteimodjkllldladGmD
set_option linter.unusedVariables false
set_option linter.unusedSimpArgs false

/-!  -/
noncomputable section
namespace Go.Eng
section
variable {rg rm pc st co mq nm d a b n nr : Int}
end
theorem dec_in (x : Int) (h : decZ (IntKind.wrap .u32 x) 5 = 0) : (1 ≤ decZ (IntKind.wrap .u32 x) 0 ∧ decZ (IntKind.wrap .u32 x) 0 ≤ 43) ∧ (0 ≤ decZ (IntKind.wrap .u32 x) 1 ∧ decZ (IntKind.wrap .u32 x) 1 < 32) ∧ (0 ≤ decZ (IntKind.wrap .u32 x) 2 ∧ decZ (IntKind.wrap .u32 x) 2 < 32) ∧
  (0 ≤ decZ (IntKind.wrap .u32 x) 3 ∧ decZ (IntKind.wrap .u32 x) 3 < 32) ∧ (-32768 ≤ decZ (IntKind.wrap .u32 x) 4 ∧ decZ (IntKind.wrap .u32 x) 4 ≤ 65535) := by
 have hr := decR_ok x
 obtain ⟨r0, r1, r2, r3, r4, r5⟩ := decR_rd (IntKind.wrap .u32 x)
 have z := decZ_bd (IntKind.wrap .u32 x)
 have v : ∀ j, IntKind.wrap .i64 (decZ (IntKind.wrap .u32 x) j) = decZ (IntKind.wrap .u32 x) j := fun j => w64 (by have := z j; omega) (by have := z j; omega)
 unfold okRow at hr
 rw [r0, r1, r2, r3, r4, r5, v 0, v 1, v 2, v 3, v 4] at hr
 exact hr (by simp [qQz, h])
section
variable {c0 c1 n1 i rg rm pc st co mq nm xrg xrm xpc xst xmq xnm xg xm xp xs xq xn B S : Int} {k : Nat}
end
section
variable {wq nr rg rm pc st mq nm A B B' p s Q n : Int} {k : Nat}
end
section
variable {rg rm pc st co co' mq nm d a b n nr op : Int}
end
section
variable {wq nr rg rm pc st mq nm A p s Q n nc : Int} {k : Nat}
end
end Go.Eng
end
