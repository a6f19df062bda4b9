/-
  Parts of the engine, a program's symbolic run, proved sound; and of plain laws.
-/
import Derived.Test.YteimodjkllldlacGmZh
set_option linter.unusedVariables false
set_option linter.unusedSimpArgs false

/-!  -/
noncomputable section
namespace Go.Eng
theorem dec_n0 {x : Int} (h : decZ x 5 = 0) (h31 : decZ x 0 ≠ 31) : 0 ≤ decZ x 4 := by
 unfold decZ at *
 simp only [if_true] at h
 have hp : decP (x % 4294967296) := Classical.byContradiction fun g => by
  rw [if_neg g] at h
  split at h <;> exact absurd h (by decide)
 simp only [hp, not_true_eq_false, if_false, if_true, show (0 : Int) = 5 ↔ False by decide, show (4 : Int) = 5 ↔ False by decide, show (4 : Int) = 0 ↔ False by decide, show (4 : Int) = 1 ↔ False by decide, show (4 : Int) = 2 ↔ False by decide, show (4 : Int) = 3 ↔ False by decide] at *
 unfold decN
 simp only
 split
 ·exact Int.le_refl _
 ·omega
theorem q0_bT {p f : Int} (p0 : 0 ≤ p) (f0 : 0 ≤ f) : bT (updZ 0 0 (updZ 0 0 1)) p f ↔ p = 0 ∧ f = 0 := by
 rw [bT_upd]
 by_cases e : p = 0
 ·subst e
  rw [if_pos rfl, qQh]
  by_cases g : f = 0
  ·subst g; simp
  ·rw [if_neg (by omega), qZe]; simp [g]
 ·rw [if_neg (by omega)]
  unfold bT
  rw [qZe, qZe]; simp [e]
theorem below_q0 {w nc nr cS : Int} (hn : 0 < nc) : Below w nc nr cS (updZ 0 0 (updZ 0 0 1)) := by
 refine ⟨fun p p0 p1 h => ?_, fun p r p0 p1 r0 r1 h => ?_⟩
 ·rw [((q0_bT p0 (by decide)).1 h).1]; exact qXu.start hn
 ·have := ((q0_bT p0 (by omega)).1 h).2; omega
theorem c32_at (X : Int) {r : Int} (r0 : 0 ≤ r) (r1 : r < 32) : rdZ (c32 X) r = rdZ X (1 + r) := by
 have h := c32_rd X r.toNat (by omega)
 rw [show ((r.toNat : Nat) : Int) = r by omega, show ((r.toNat + 1 : Nat) : Int) = 1 + r by omega] at h
 exact h
theorem bh_at {op d a b n nr cS X r : Int} (r0 : 0 ≤ r) (r1 : r < 32) : rdZ (bhcZ op d (qQq a (qQq b (qQq n (qQq nr (qQq cS (qQq X 0))))))) (1 + r) ≠ 0 ↔ behS nr cS op d a b n (fun r => rdZ X (1 + r) ≠ 0) r := by
 have h := bh_ne op d a b n nr cS X rfl (r.toNat + 1) (by omega)
 rw [show ((r.toNat + 1 : Nat) : Int) = 1 + r by omega, if_neg (by omega), show (1 + r - 1 : Int) = r by omega] at h
 exact h
theorem lev_rd {w nc nr cS p : Int} (p0 : 0 ≤ p) (p1 : p < nc) : (rdZ (rdZ (levZ w nc (qQq nr (qQq cS 0))) p) 0 ≠ 0 ↔ (qQg w nc nr cS).re p) ∧ ∀ r, 0 ≤ r → r < 32 → (rdZ (c32 (rdZ (levZ w nc (qQq nr (qQq cS 0))) p)) r ≠ 0 ↔ (qQg w nc nr cS).se p r) := by
 have e : levZ w nc (qQq nr (qQq cS 0)) = lvF (qQg w nc nr cS) nc.toNat := by
  have h := qXt [nr, cS]
  have h0 : rdZ (qQq nr (qQq cS 0)) 0 = nr := h 0
  have h1 : rdZ (qQq nr (qQq cS 0)) 1 = cS := h 1
  unfold levZ; rw [h0, h1]
 have h := lvF_at (qQg w nc nr cS) nc.toNat p.toNat (by omega)
 rw [show ((p.toNat : Nat) : Int) = p by omega] at h
 obtain ⟨g0, g1⟩ := lvRow_rd (qQg w nc nr cS) p
 refine ⟨?_, fun r r0 r1 => ?_⟩
 ·rw [e, h, g0]
  by_cases k : (qQg w nc nr cS).re p
  ·rw [if_pos k]; exact ⟨fun _ => k, fun _ => by decide⟩
  ·rw [if_neg k]; exact ⟨fun j => absurd rfl j, fun j => absurd j k⟩
 ·rw [e, c32_at _ r0 r1, h, g1 r r0 r1]
  by_cases k : (qQg w nc nr cS).se p r
  ·rw [if_pos k]; exact ⟨fun _ => k, fun _ => by decide⟩
  ·rw [if_neg k]; exact ⟨fun j => absurd rfl j, fun j => absurd j k⟩
theorem any_open {c n : Int} : anyZ c n 0 ≠ 0 ↔ ∃ j : Int, 0 ≤ j ∧ j < n ∧ rdZ c j = 0 := by
 unfold anyZ
 split
 ·rename_i h
  obtain ⟨j, j0, j1, k⟩ := h
  exact ⟨fun _ => ⟨j, j0, j1, Classical.byContradiction fun g => absurd rfl (k.1 g)⟩, fun _ => by decide⟩
 ·rename_i h
  exact ⟨fun k => absurd rfl k, fun ⟨j, j0, j1, k⟩ => absurd ⟨j, j0, j1, ⟨fun g => absurd k g, fun g => absurd rfl g⟩⟩ h⟩
end Go.Eng
end
