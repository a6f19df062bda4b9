/-
  Parts of the engine, a program's symbolic run, proved sound; and of plain laws.
-/
import Derived.Test.YteimodjkllldladGmE
import Derived.Test.YteimodjkllldladGmH
set_option linter.unusedVariables false
set_option linter.unusedSimpArgs false

/-!  -/
noncomputable section
namespace Go.Eng
theorem app0_rd (q j : Int) (h : 0 ≤ j) : rdZ (appZ 0 0 q) j = rdZ q j := by
 rw [rdZ_app, if_neg (by omega)]
 congr 1
 omega
theorem chk_zero {nC nD nS nI nO cI cO : Int} (h : chk7 nC nD nS nI nO cI cO = 0) : nC ≤ 16384 ∧ nD ≤ 2048 ∧ nI ≤ 255 ∧ nO ≤ 255 ∧ nS = nD ∧ adP cI nI nD ∧ adP cO nO nD ∧ ¬ twP cI nI := by
 unfold chk7 at h
 split at h
 ·cases h
 ·split at h
  ·cases h
  ·split at h
   ·cases h
   ·rename_i h1 h2 h3
    refine ⟨by omega, by omega, by omega, by omega, Classical.byContradiction fun e => h2 (.inl e), Classical.byContradiction fun e => h2 (.inr (.inl e)), Classical.byContradiction fun e => h2 (.inr (.inr e)), h3⟩
section
variable {cK c1 nD fuel : Int} {k : Nat}
end
end Go.Eng
end
