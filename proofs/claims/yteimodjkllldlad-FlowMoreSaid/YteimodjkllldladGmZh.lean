/-
  Parts of the engine, a program's symbolic run, proved sound; and of plain laws.
-/
import Derived.Test.YteimodjkllldladGmZg
set_option linter.unusedVariables false
set_option linter.unusedSimpArgs false

/-!  -/
noncomputable section
namespace Go.Eng
section
variable {w nc nr cS cI nI : Int}
open Classical in
theorem fpc_open (h : openIn cS cI nI) : fpcF w nc nr cS cI nI = -1 := by unfold fpcF; rw [if_pos h]
open Classical in
theorem fpc_found (ho : ¬ openIn cS cI nI) {p : Int} (p0 : 0 ≤ p) (p1 : p < nc) (hw : qJd w nr cS (qZc w nc nr cS) p) (hb : ∀ k, 0 ≤ k → k < p → ¬ qJd w nr cS (qZc w nc nr cS) k) : fpcF w nc nr cS cI nI = p := by
 unfold fpcF
 rw [if_neg ho]
 have h : (List.range nc.toNat).find? (fun (k : Nat) => decide (qJd w nr cS (qZc w nc nr cS) k)) = some p.toNat := by
  rw [List.find?_range_eq_some]
  refine ⟨by simp only [decide_eq_true_eq]; rw [show ((p.toNat : Nat) : Int) = p by omega]; exact hw, by rw [List.mem_range]; omega, fun j hj => ?_⟩
  simp only [Bool.not_eq_true', decide_eq_false_iff_not]
  exact hb j (by omega) (by omega)
 rw [h]
 simp only [Option.map_some, Option.getD_some]; omega
open Classical in
theorem fpc_none (ho : ¬ openIn cS cI nI) (n0 : 0 ≤ nc) (hb : ∀ k, 0 ≤ k → k < nc → ¬ qJd w nr cS (qZc w nc nr cS) k) : fpcF w nc nr cS cI nI = nc := by
 unfold fpcF
 rw [if_neg ho]
 have h : (List.range nc.toNat).find? (fun (k : Nat) => decide (qJd w nr cS (qZc w nc nr cS) k)) = none := by
  rw [List.find?_eq_none]
  intro j hj
  rw [List.mem_range] at hj
  simp only [decide_eq_true_eq]
  exact hb j (by omega) (by omega)
 rw [h]; rfl
theorem fwh_ev {z : Int} (hz : z = qQq nr (qQq cS (qQq cI (qQq nI 0)))) {f : Int} (hf : fpcF w nc nr cS cI nI = f) : fwhZ w nc z = (if f < nc then 12 else 0) ∧ fpcZ w nc z = if f < nc then f else 0 := by
 subst hz
 obtain ⟨⟨e0, e1⟩, e2, e3⟩ := fpc_ev (cS := cS) (cI := cI) (nI := nI) nr
 unfold fwhZ fpcZ
 rw [e0, e1, e2, e3, hf]
 exact ⟨rfl, rfl⟩
end
end Go.Eng
end
