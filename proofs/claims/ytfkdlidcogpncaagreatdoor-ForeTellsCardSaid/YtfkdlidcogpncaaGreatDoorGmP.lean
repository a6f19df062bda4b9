/-
  Parts of the engine, a program's symbolic run, proved sound; and of plain laws.
-/
import Derived.Test.YtfkdlidcogpncaaGreatDoorGmT
import Derived.Test.YtfkdlidcogpncaaGreatDoorGu5
set_option linter.unusedVariables false
set_option linter.unusedSimpArgs false

/-!  -/
noncomputable section
namespace Go.Eng
theorem wrap_rd (c i f : Int) : IntKind.wrap .i64 (rdZ (rdZ c i) f) = mk c i f := rfl
theorem strOf_zero {s : Int} (h : slenZ s = 0) : qQu s = ⟨#[]⟩ := by
 unfold qQu; rw [h]; rfl
theorem slen_cons (n x : Int) : slenZ (qQq n x) = if n < 0 then 0 else if qKf < n then qKf else n := by
 unfold slenZ; rw [qQy]
theorem strOf_empty : qQu (qQq 0 (qQq 0 0)) = ⟨#[]⟩ := strOf_zero (by rw [slen_cons]; rfl)
theorem seq_empty (s : Int) : seqZ s (qQq 0 (qQq 0 0)) ≠ 0 ↔ slenZ s = 0 := by
 unfold seqZ
 rw [strOf_empty]
 constructor
 ·intro h
  split at h
  ·rename_i e
   have := qJu s
   rw [e] at this
   exact this.symm
  ·exact absurd rfl h
 ·intro h
  rw [if_pos (strOf_zero h)]
  decide
def chn : List Int → Int
 | [] => 0
 | x :: l => qQq x (chn l)
theorem qJz : ∀ (l : List Int) (i : Nat), rdZ (chn l) i = l.getD i 0
 | [], i => by simp [chn, qXu]
 | x :: l, 0 => by rw [chn]; exact qQy _ _
 | x :: l, i + 1 => by
  rw [chn, qQe _ _ (by omega), show ((i + 1 : Nat) : Int) - 1 = (i : Nat) by omega, qJz l i]
  simp
end Go.Eng
end
