/-
  Parts of the engine, a program's symbolic run, proved sound; and of plain laws.
-/
import Derived.Test.YtemcjakecoceaaaGreatDoorGmT
import Derived.Test.YtemcjakecoceaaaGreatDoorGu5
set_option linter.unusedVariables false
set_option linter.unusedSimpArgs false

/-!  -/
section
namespace Go.Eng
theorem strOf_zero {s : Int} (h : slenZ s = 0) : strOf s = ⟨#[]⟩ := by
 unfold strOf; rw [h]; rfl
theorem slen_cons (n x : Int) : slenZ (consZ n x) = if n < 0 then 0 else if strMax < n then strMax else n := by
 unfold slenZ; rw [rdZ_cons_zero]
theorem strOf_empty : strOf (consZ 0 (consZ 0 0)) = ⟨#[]⟩ := strOf_zero (by rw [slen_cons]; rfl)
theorem seq_empty (s : Int) : seqZ s (consZ 0 (consZ 0 0)) ≠ 0 ↔ slenZ s = 0 := by
 unfold seqZ
 rw [strOf_empty]
 constructor
 ·intro h
  split at h
  ·rename_i e
   have := strOf_size s
   rw [e] at this
   exact this.symm
  ·exact absurd rfl h
 ·intro h
  rw [if_pos (strOf_zero h)]
  decide
noncomputable def chn : List Int → Int
 | [] => 0
 | x :: l => consZ x (chn l)
theorem rd_chn : ∀ (l : List Int) (i : Nat), rdZ (chn l) i = l.getD i 0
 | [], i => by simp [chn, rdZ_nil]
 | x :: l, 0 => by rw [chn]; exact rdZ_cons_zero _ _
 | x :: l, i + 1 => by
  rw [chn, rdZ_cons_succ _ _ (by omega), show ((i + 1 : Nat) : Int) - 1 = (i : Nat) by omega, rd_chn l i]
  simp
end Go.Eng
end
