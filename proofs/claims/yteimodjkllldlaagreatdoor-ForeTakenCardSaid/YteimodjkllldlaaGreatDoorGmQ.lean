/-
  Parts of the engine, a program's symbolic run, proved sound; and of plain laws.
-/
import Derived.Test.YteimodjkllldlaaGreatDoorGmO
set_option linter.unusedVariables false
set_option linter.unusedSimpArgs false

/-!  -/
noncomputable section
namespace Go.Eng
theorem dec_no {x : Int} (e : decZ (IntKind.wrap .u32 x) 5 ≠ 0) : decZ (IntKind.wrap .u32 x) 0 = 0 := by
 unfold decZ at e ⊢
 by_cases hP : decP (IntKind.wrap .u32 x % 4294967296)
 ·simp [hP] at e
 ·simp [hP]
theorem dec_op0 {x : Int} (e : decZ (IntKind.wrap .u32 x) 5 = 0) : decZ (IntKind.wrap .u32 x) 0 ≠ 0 := by
 have := (dec_in x e).1; omega
section
variable {cK nc nr cD cS i rx rk rm hv pc st mq nm fuel T : Int}
theorem frg_at : ∀ (n k : Nat), k < n → rdZ (frgZ n) k = mayZ 0 1
 | 0, k, h => by omega
 | n + 1, 0, _ => by rw [frgZ]; exact qQk _ _
 | n + 1, k + 1, h => by
  rw [frgZ, qQg _ _ (by omega)]
  have := frg_at n k (by omega)
  rw [show ((k + 1 : Nat) : Int) - 1 = k by omega]
  exact this
theorem frm_at (cD cS : Int) : ∀ (n k : Nat), k < n → rdZ (frmF cD cS n) k = if rdZ cS k ≠ 0 then mayZ 0 0 else mayZ (IntKind.wrap .i32 (rdZ cD k)) 1
 | 0, k, h => by omega
 | n + 1, k, h => by
  rw [frmF, qQp, Int.toNat_natCast, Int.toNat_natCast]
  by_cases e : k = n
  ·rw [if_pos e, e]
  ·rw [if_neg e]; exact frm_at cD cS n k (by omega)
end
end Go.Eng
end
