/-
  Parts of the engine, a program's symbolic run, proved sound; and of plain laws.
-/
import Derived.Test.YteimodjkllldlacGmZg
set_option linter.unusedVariables false
set_option linter.unusedSimpArgs false

/-!  -/
noncomputable section
namespace Go.Eng
def same33 (A B : Int) : Int := (iteZ (qQz ((qQz ((rdZ A 0) == 0)) == (qQz ((rdZ B 0) == 0)))) (iteZ (qQz ((qQz ((rdZ A 1) == 0)) == (qQz ((rdZ B 1) == 0)))) (iteZ (qQz ((qQz ((rdZ A 2) == 0)) == (qQz ((rdZ B 2) == 0)))) (iteZ (qQz ((qQz ((rdZ A 3) == 0)) == (qQz ((rdZ B 3) == 0)))) (iteZ (qQz ((qQz ((rdZ A 4) == 0)) == (qQz ((rdZ B 4) == 0)))) (iteZ (qQz ((qQz ((rdZ A 5) == 0)) == (qQz ((rdZ B 5) == 0)))) (iteZ (qQz ((qQz ((rdZ A 6) == 0)) == (qQz ((rdZ B 6) == 0)))) (iteZ (qQz ((qQz ((rdZ A 7) == 0)) == (qQz ((rdZ B 7) == 0)))) (iteZ (qQz ((qQz ((rdZ A 8) == 0)) == (qQz ((rdZ B 8) == 0)))) (iteZ (qQz ((qQz ((rdZ A 9) == 0)) == (qQz ((rdZ B 9) == 0)))) (iteZ (qQz ((qQz ((rdZ A 10) == 0)) == (qQz ((rdZ B 10) == 0)))) (iteZ (qQz ((qQz ((rdZ A 11) == 0)) == (qQz ((rdZ B 11) == 0)))) (iteZ (qQz ((qQz ((rdZ A 12) == 0)) == (qQz ((rdZ B 12) == 0)))) (iteZ (qQz ((qQz ((rdZ A 13) == 0)) == (qQz ((rdZ B 13) == 0)))) (iteZ (qQz ((qQz ((rdZ A 14) == 0)) == (qQz ((rdZ B 14) == 0)))) (iteZ (qQz ((qQz ((rdZ A 15) == 0)) == (qQz ((rdZ B 15) == 0)))) (iteZ (qQz ((qQz ((rdZ A 16) == 0)) == (qQz ((rdZ B 16) == 0)))) (iteZ (qQz ((qQz ((rdZ A 17) == 0)) == (qQz ((rdZ B 17) == 0)))) (iteZ (qQz ((qQz ((rdZ A 18) == 0)) == (qQz ((rdZ B 18) == 0)))) (iteZ (qQz ((qQz ((rdZ A 19) == 0)) == (qQz ((rdZ B 19) == 0)))) (iteZ (qQz ((qQz ((rdZ A 20) == 0)) == (qQz ((rdZ B 20) == 0)))) (iteZ (qQz ((qQz ((rdZ A 21) == 0)) == (qQz ((rdZ B 21) == 0)))) (iteZ (qQz ((qQz ((rdZ A 22) == 0)) == (qQz ((rdZ B 22) == 0)))) (iteZ (qQz ((qQz ((rdZ A 23) == 0)) == (qQz ((rdZ B 23) == 0)))) (iteZ (qQz ((qQz ((rdZ A 24) == 0)) == (qQz ((rdZ B 24) == 0)))) (iteZ (qQz ((qQz ((rdZ A 25) == 0)) == (qQz ((rdZ B 25) == 0)))) (iteZ (qQz ((qQz ((rdZ A 26) == 0)) == (qQz ((rdZ B 26) == 0)))) (iteZ (qQz ((qQz ((rdZ A 27) == 0)) == (qQz ((rdZ B 27) == 0)))) (iteZ (qQz ((qQz ((rdZ A 28) == 0)) == (qQz ((rdZ B 28) == 0)))) (iteZ (qQz ((qQz ((rdZ A 29) == 0)) == (qQz ((rdZ B 29) == 0)))) (iteZ (qQz ((qQz ((rdZ A 30) == 0)) == (qQz ((rdZ B 30) == 0)))) (iteZ (qQz ((qQz ((rdZ A 31) == 0)) == (qQz ((rdZ B 31) == 0)))) (qQz ((qQz ((rdZ A 32) == 0)) == (qQz ((rdZ B 32) == 0)))) 0) 0) 0) 0) 0) 0) 0) 0) 0) 0) 0) 0) 0) 0) 0) 0) 0) 0) 0) 0) 0) 0) 0) 0) 0) 0) 0) 0) 0) 0) 0) 0)
theorem same33_def (A B : Int) : (iteZ (qQz ((qQz ((rdZ A 0) == 0)) == (qQz ((rdZ B 0) == 0)))) (iteZ (qQz ((qQz ((rdZ A 1) == 0)) == (qQz ((rdZ B 1) == 0)))) (iteZ (qQz ((qQz ((rdZ A 2) == 0)) == (qQz ((rdZ B 2) == 0)))) (iteZ (qQz ((qQz ((rdZ A 3) == 0)) == (qQz ((rdZ B 3) == 0)))) (iteZ (qQz ((qQz ((rdZ A 4) == 0)) == (qQz ((rdZ B 4) == 0)))) (iteZ (qQz ((qQz ((rdZ A 5) == 0)) == (qQz ((rdZ B 5) == 0)))) (iteZ (qQz ((qQz ((rdZ A 6) == 0)) == (qQz ((rdZ B 6) == 0)))) (iteZ (qQz ((qQz ((rdZ A 7) == 0)) == (qQz ((rdZ B 7) == 0)))) (iteZ (qQz ((qQz ((rdZ A 8) == 0)) == (qQz ((rdZ B 8) == 0)))) (iteZ (qQz ((qQz ((rdZ A 9) == 0)) == (qQz ((rdZ B 9) == 0)))) (iteZ (qQz ((qQz ((rdZ A 10) == 0)) == (qQz ((rdZ B 10) == 0)))) (iteZ (qQz ((qQz ((rdZ A 11) == 0)) == (qQz ((rdZ B 11) == 0)))) (iteZ (qQz ((qQz ((rdZ A 12) == 0)) == (qQz ((rdZ B 12) == 0)))) (iteZ (qQz ((qQz ((rdZ A 13) == 0)) == (qQz ((rdZ B 13) == 0)))) (iteZ (qQz ((qQz ((rdZ A 14) == 0)) == (qQz ((rdZ B 14) == 0)))) (iteZ (qQz ((qQz ((rdZ A 15) == 0)) == (qQz ((rdZ B 15) == 0)))) (iteZ (qQz ((qQz ((rdZ A 16) == 0)) == (qQz ((rdZ B 16) == 0)))) (iteZ (qQz ((qQz ((rdZ A 17) == 0)) == (qQz ((rdZ B 17) == 0)))) (iteZ (qQz ((qQz ((rdZ A 18) == 0)) == (qQz ((rdZ B 18) == 0)))) (iteZ (qQz ((qQz ((rdZ A 19) == 0)) == (qQz ((rdZ B 19) == 0)))) (iteZ (qQz ((qQz ((rdZ A 20) == 0)) == (qQz ((rdZ B 20) == 0)))) (iteZ (qQz ((qQz ((rdZ A 21) == 0)) == (qQz ((rdZ B 21) == 0)))) (iteZ (qQz ((qQz ((rdZ A 22) == 0)) == (qQz ((rdZ B 22) == 0)))) (iteZ (qQz ((qQz ((rdZ A 23) == 0)) == (qQz ((rdZ B 23) == 0)))) (iteZ (qQz ((qQz ((rdZ A 24) == 0)) == (qQz ((rdZ B 24) == 0)))) (iteZ (qQz ((qQz ((rdZ A 25) == 0)) == (qQz ((rdZ B 25) == 0)))) (iteZ (qQz ((qQz ((rdZ A 26) == 0)) == (qQz ((rdZ B 26) == 0)))) (iteZ (qQz ((qQz ((rdZ A 27) == 0)) == (qQz ((rdZ B 27) == 0)))) (iteZ (qQz ((qQz ((rdZ A 28) == 0)) == (qQz ((rdZ B 28) == 0)))) (iteZ (qQz ((qQz ((rdZ A 29) == 0)) == (qQz ((rdZ B 29) == 0)))) (iteZ (qQz ((qQz ((rdZ A 30) == 0)) == (qQz ((rdZ B 30) == 0)))) (iteZ (qQz ((qQz ((rdZ A 31) == 0)) == (qQz ((rdZ B 31) == 0)))) (qQz ((qQz ((rdZ A 32) == 0)) == (qQz ((rdZ B 32) == 0)))) 0) 0) 0) 0) 0) 0) 0) 0) 0) 0) 0) 0) 0) 0) 0) 0) 0) 0) 0) 0) 0) 0) 0) 0) 0) 0) 0) 0) 0) 0) 0) 0) = same33 A B := rfl
def smL (A B : Int) : List Nat → Int
 | [] => 1
 | [k] => qQz (qQz (rdZ A k == 0) == qQz (rdZ B k == 0))
 | k :: k2 :: l => iteZ (qQz (qQz (rdZ A k == 0) == qQz (rdZ B k == 0))) (smL A B (k2 :: l)) 0
theorem eqb_ne (x y : Int) : qQz (qQz (x == 0) == qQz (y == 0)) ≠ 0 ↔ (x ≠ 0 ↔ y ≠ 0) := by
 unfold qQz
 by_cases e : x = 0
 ·by_cases g : y = 0 <;> simp [e, g]
 ·by_cases g : y = 0 <;> simp [e, g]
theorem smL_ne (A B : Int) : ∀ l : List Nat, l ≠ [] → (smL A B l ≠ 0 ↔ ∀ k ∈ l, (rdZ A (k : Nat) ≠ 0 ↔ rdZ B (k : Nat) ≠ 0))
 | [], h => absurd rfl h
 | [k], _ => by rw [smL, eqb_ne]; simp
 | k :: k2 :: l, _ => by
  have ih := smL_ne A B (k2 :: l) (by simp)
  rw [smL]
  unfold iteZ
  have he := eqb_ne (rdZ A k) (rdZ B k)
  by_cases g : qQz (qQz (rdZ A k == 0) == qQz (rdZ B k == 0)) ≠ 0
  ·rw [if_pos g, ih]
   constructor
   ·intro h x hx
    rcases List.mem_cons.1 hx with rfl | hx
    ·exact he.1 g
    ·exact h x hx
   ·intro h x hx
    exact h x (List.mem_cons_of_mem _ hx)
  ·rw [if_neg g]
   constructor
   ·intro h; exact absurd rfl h
   ·intro h; exact absurd (he.2 (h k (List.mem_cons_self))) g
theorem same33_ne (A B : Int) : same33 A B ≠ 0 ↔ ∀ k : Int, 0 ≤ k → k < 33 → (rdZ A k ≠ 0 ↔ rdZ B k ≠ 0) := by
 have e : same33 A B = smL A B (List.range 33) := rfl
 rw [e, smL_ne _ _ _ (by decide)]
 constructor
 ·intro h k k0 k1
  have := h k.toNat (by rw [List.mem_range]; omega)
  rwa [show ((k.toNat : Nat) : Int) = k by omega] at this
 ·intro h k hk
  rw [List.mem_range] at hk
  exact h k (by omega) (by omega)
section
variable {w nc nr cS cI nI : Int}
open Classical in
theorem fpc_open (h : openIn cS cI nI) : fpcF w nc nr cS cI nI = -1 := by unfold fpcF; rw [if_pos h]
open Classical in
theorem fpc_found (ho : ¬ openIn cS cI nI) {p : Int} (p0 : 0 ≤ p) (p1 : p < nc) (hw : qZr w nr cS (qQg w nc nr cS) p) (hb : ∀ k, 0 ≤ k → k < p → ¬ qZr w nr cS (qQg w nc nr cS) k) : fpcF w nc nr cS cI nI = p := by
 unfold fpcF
 rw [if_neg ho]
 have h : (List.range nc.toNat).find? (fun (k : Nat) => decide (qZr w nr cS (qQg w nc nr cS) k)) = some p.toNat := by
  rw [List.find?_range_eq_some]
  refine ⟨by simp only [decide_eq_true_eq]; rw [show ((p.toNat : Nat) : Int) = p by omega]; exact hw, by rw [List.mem_range]; omega, fun j hj => ?_⟩
  simp only [Bool.not_eq_true', decide_eq_false_iff_not]
  exact hb j (by omega) (by omega)
 rw [h]
 simp only [Option.map_some, Option.getD_some]; omega
open Classical in
theorem fpc_none (ho : ¬ openIn cS cI nI) (n0 : 0 ≤ nc) (hb : ∀ k, 0 ≤ k → k < nc → ¬ qZr w nr cS (qQg w nc nr cS) k) : fpcF w nc nr cS cI nI = nc := by
 unfold fpcF
 rw [if_neg ho]
 have h : (List.range nc.toNat).find? (fun (k : Nat) => decide (qZr w nr cS (qQg w nc nr cS) k)) = none := by
  rw [List.find?_eq_none]
  intro j hj
  rw [List.mem_range] at hj
  simp only [decide_eq_true_eq]
  exact hb j (by omega) (by omega)
 rw [h]; rfl
theorem fwh_ev {z : Int} (hz : z = qQq nr (qQq cS (qQq cI (qQq nI 0)))) {f : Int} (hf : fpcF w nc nr cS cI nI = f) : fwhZ w nc z = (if f < nc then 12 else 0) ∧ fpcZ w nc z = if f < nc then f else 0 := by
 subst hz
 obtain ⟨⟨e0, e1⟩, e2, e3⟩ := fpc_ev (cS := cS) (cI := cI) (nI := nI) nr
 unfold fwhZ fpcZ
 rw [e0, e1, e2, e3, hf]
 exact ⟨rfl, rfl⟩
end
end Go.Eng
end
