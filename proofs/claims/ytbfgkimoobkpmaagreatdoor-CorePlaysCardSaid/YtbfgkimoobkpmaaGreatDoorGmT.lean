/-
  Parts of the engine, a program's symbolic run, proved sound; and of plain laws.
-/
import Derived.Test.YtbfgkimoobkpmaaGreatDoorGmN
import Derived.Test.YtbfgkimoobkpmaaGreatDoorGu5
set_option linter.unusedVariables false
set_option linter.unusedSimpArgs false

/-!  -/
section
namespace Go.Eng
theorem mk_fold (c i f : Int) : IntKind.wrap .i64 (rdZ (rdZ c i) f) = mk c i f := rfl
theorem nat_i {i : Int} (h : 0 ≤ i) : ((i.toNat : Nat) : Int) = i := Int.toNat_of_nonneg h
theorem succ_i {i : Int} (h : 0 ≤ i) : (i + 1).toNat = i.toNat + 1 := by omega
end Go.Eng
end
