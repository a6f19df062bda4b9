/-
  Parts of the engine, a program's symbolic run, proved sound; and of plain laws.
-/
import Derived.Test.YteimodjkllldlabGreatDoorGmC
set_option linter.unusedVariables false
set_option linter.unusedSimpArgs false

/-!  -/
noncomputable section
namespace Go.Eng
abbrev b32 (x : Int) : BitVec 32 := BitVec.ofInt 32 x
def bt (Z : BitVec 32) (i : Nat) : Int := if Z.getLsbD i then 1 else 0
theorem does_mem' {m : Mac} {nr op d a n : Int} (h : IntKind.wrap .i32 n = n) : m.mem nr op d a n = m.memA nr op d (IntKind.wrap .i32 (m.reg a + n)) := by unfold Mac.mem; rw [h]
theorem oc34 : opCo 34 = 2 := by decide
theorem oc42 : opCo 42 = 1 := by decide
theorem oc43 : opCo 43 = 1 := by decide
end Go.Eng
end
