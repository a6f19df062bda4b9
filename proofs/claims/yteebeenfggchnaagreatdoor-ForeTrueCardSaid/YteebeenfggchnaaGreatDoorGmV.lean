/-
  Parts of the engine, a program's symbolic run, proved sound; and of plain laws.
-/
import Derived.Test.YteebeenfggchnaaGreatDoorGmU
set_option linter.unusedVariables false
set_option linter.unusedSimpArgs false

/-!  -/
noncomputable section
namespace Go.Eng
theorem lik_at (cD cS nS cL nL : Int) : ∀ (n k : Nat), k < n → rdZ (likF cD cS nS cL nL n) k = likV cD cS nS cL nL k
 | 0, k, h => by omega
 | n + 1, k, h => by
  rw [likF, qZg, Int.toNat_natCast, Int.toNat_natCast]
  by_cases e : k = n
  ·rw [if_pos e, e]
  ·rw [if_neg e]; exact lik_at cD cS nS cL nL n k (by omega)
theorem lik_ev (cD nD cS nS cL nL : Int) : likZ cD nD (qQq cS (qQq nS (qQq cL (qQq nL 0)))) = likF cD cS nS cL nL nD.toNat := by
 have h := qKm [cS, nS, cL, nL]
 have h0 : rdZ (qQq cS (qQq nS (qQq cL (qQq nL 0)))) 0 = cS := h 0
 have h1 : rdZ (qQq cS (qQq nS (qQq cL (qQq nL 0)))) 1 = nS := h 1
 have h2 : rdZ (qQq cS (qQq nS (qQq cL (qQq nL 0)))) 2 = cL := h 2
 have h3 : rdZ (qQq cS (qQq nS (qQq cL (qQq nL 0)))) 3 = nL := h 3
 unfold likZ
 rw [h0, h1, h2, h3]
theorem lik_rd {cD nD cS nS cL nL j : Int} (h0 : 0 ≤ j) (h1 : j < nD) : rdZ (likZ cD nD (qQq cS (qQq nS (qQq cL (qQq nL 0))))) j = likV cD cS nS cL nL j := by
 rw [lik_ev]
 have := lik_at cD cS nS cL nL nD.toNat j.toNat (by omega)
 rwa [show ((j.toNat : Nat) : Int) = j by omega] at this
theorem lik_open {cD nD cS nS cL nL j : Int} (h0 : 0 ≤ j) (h1 : j < nD) (h : rdZ cS j = 0) : IntKind.wrap .i32 (rdZ (likZ cD nD (qQq cS (qQq nS (qQq cL (qQq nL 0))))) j) = IntKind.wrap .i32 (rdZ cD j) := by
 rw [lik_rd h0 h1]
 unfold likV
 rw [if_neg (by omega), qKd]
theorem likV_wrap (cD cS nS cL nL j : Int) : IntKind.wrap .i32 (likV cD cS nS cL nL j) = likV cD cS nS cL nL j := by
 unfold likV; split <;> rw [qKd]
end Go.Eng
end
