/-
  Parts of the engine, a program's symbolic run, proved sound; and of plain laws.
-/
import Derived.Test.YteimodjkllldladGmZb
set_option linter.unusedVariables false
set_option linter.unusedSimpArgs false

/-!  -/
noncomputable section
namespace Go.Eng
theorem swp_rd {q i k : Int} (i0 : 0 ≤ i) (k0 : 0 ≤ k) (j : Int) (j0 : 0 ≤ j) : IntKind.wrap .i64 (rdZ (swpZ q i k) j) = if j = k then IntKind.wrap .i64 (rdZ q i) else if j = i then IntKind.wrap .i64 (rdZ q k) else IntKind.wrap .i64 (rdZ q j) := by
 unfold swpZ
 rw [qQr]
 by_cases e : j = k
 ·subst e; rw [if_pos rfl, if_pos rfl, w64_id]
 ·rw [if_neg (by omega), if_neg e, qQr]
  by_cases g : j = i
  ·subst g; rw [if_pos rfl, if_pos rfl, w64_id]
  ·rw [if_neg (by omega), if_neg g]
def inP (q n v : Int) : Prop := ∃ k : Int, 0 ≤ k ∧ k < n ∧ IntKind.wrap .i64 (rdZ q k) = v
theorem inP_sw1 {q n i k v : Int} (i0 : 0 ≤ i) (i1 : i < n) (k0 : 0 ≤ k) (k1 : k < n) (h : inP q n v) : inP (swpZ q i k) n v := by
 obtain ⟨j, j0, j1, rfl⟩ := h
 by_cases e : j = i
 ·subst e; exact ⟨k, k0, k1, by rw [swp_rd j0 k0 k k0, if_pos rfl]⟩
 ·by_cases g : j = k
  ·subst g
   refine ⟨i, i0, i1, ?_⟩
   rw [swp_rd i0 j0 i i0, if_neg (fun x => e x.symm), if_pos rfl]
  ·exact ⟨j, j0, j1, by rw [swp_rd i0 k0 j j0, if_neg g, if_neg e]⟩
theorem inP_sw2 {q n i k v : Int} (i0 : 0 ≤ i) (i1 : i < n) (k0 : 0 ≤ k) (k1 : k < n) (h : inP (swpZ q i k) n v) : inP q n v := by
 obtain ⟨j, j0, j1, rfl⟩ := h
 rw [swp_rd i0 k0 j j0]
 by_cases e : j = k
 ·rw [if_pos e]; exact ⟨i, i0, i1, rfl⟩
 ·rw [if_neg e]
  by_cases g : j = i
  ·rw [if_pos g]; exact ⟨k, k0, k1, rfl⟩
  ·rw [if_neg g]; exact ⟨j, j0, j1, rfl⟩
theorem inP_swp {q n i k v : Int} (i0 : 0 ≤ i) (i1 : i < n) (k0 : 0 ≤ k) (k1 : k < n) : inP (swpZ q i k) n v ↔ inP q n v := ⟨inP_sw2 i0 i1 k0 k1, inP_sw1 i0 i1 k0 k1⟩
theorem up_zero (q : Int) : hupF q 0 = q := by rw [hupF, dif_pos rfl]
theorem up_step {q : Int} {j : Nat} (h : j ≠ 0) (hl : IntKind.wrap .i64 (rdZ q j) < IntKind.wrap .i64 (rdZ q ((j - 1) / 2 : Nat))) : hupF q j = hupF (swpZ q ((j - 1) / 2 : Nat) j) ((j - 1) / 2) := by
 rw [hupF, dif_neg h, if_pos hl]
theorem up_stop {q : Int} {j : Nat} (h : j ≠ 0) (hl : ¬ IntKind.wrap .i64 (rdZ q j) < IntKind.wrap .i64 (rdZ q ((j - 1) / 2 : Nat))) : hupF q j = q := by
 rw [hupF, dif_neg h, if_neg hl]
theorem inP_up {n v : Int} : ∀ (j : Nat) (q : Int), (j : Int) < n → (inP (hupF q j) n v ↔ inP q n v) := by
 intro j
 induction j using Nat.strongRecOn with
 | ind j ih =>
  intro q hj
  by_cases e : j = 0
  ·subst e; rw [up_zero]
  ·by_cases hl : IntKind.wrap .i64 (rdZ q j) < IntKind.wrap .i64 (rdZ q ((j - 1) / 2 : Nat))
   ·rw [up_step e hl, ih _ (by omega) _ (by omega)]
    exact inP_swp (by omega) (by omega) (by omega) hj
   ·rw [up_stop e hl]
theorem lo_bd (q : Int) {n i : Nat} (h : 2 * i + 1 < n) : i < hloF q n i ∧ hloF q n i < n := by
 unfold hloF; split <;> omega
theorem dn_end {q : Int} {n i : Nat} (h : n ≤ 2 * i + 1) : hdnF q n i = (q, i) := by rw [hdnF, dif_pos h]
theorem dn_step {q : Int} {n i : Nat} (h : 2 * i + 1 < n) (hl : IntKind.wrap .i64 (rdZ q (hloF q n i : Nat)) < IntKind.wrap .i64 (rdZ q i)) : hdnF q n i = hdnF (swpZ q i (hloF q n i : Nat)) n (hloF q n i) := by
 rw [hdnF, dif_neg (by omega), if_pos hl]
theorem dn_stop {q : Int} {n i : Nat} (h : 2 * i + 1 < n) (hl : ¬ IntKind.wrap .i64 (rdZ q (hloF q n i : Nat)) < IntKind.wrap .i64 (rdZ q i)) : hdnF q n i = (q, i) := by
 rw [hdnF, dif_neg (by omega), if_neg hl]
theorem dn_in {n : Nat} : ∀ (m i : Nat) (q : Int), n - i ≤ m → i < n → (∀ v, inP (hdnF q n i).1 n v ↔ inP q n v) ∧ ∀ k : Int, (n : Int) ≤ k → IntKind.wrap .i64 (rdZ (hdnF q n i).1 k) = IntKind.wrap .i64 (rdZ q k)
 | 0, i, q, h, hi => by omega
 | m + 1, i, q, h, hi => by
  by_cases e : n ≤ 2 * i + 1
  ·rw [dn_end e]; exact ⟨fun _ => Iff.rfl, fun _ _ => rfl⟩
  ·obtain ⟨l0, l1⟩ := lo_bd q (i := i) (n := n) (by omega)
   by_cases hl : IntKind.wrap .i64 (rdZ q (hloF q n i : Nat)) < IntKind.wrap .i64 (rdZ q i)
   ·rw [dn_step (by omega) hl]
    obtain ⟨h1, h2⟩ := dn_in m (hloF q n i) (swpZ q i (hloF q n i : Nat)) (by omega) l1
    refine ⟨fun v => (h1 v).trans (inP_swp (by omega) (by omega) (by omega) (by omega)), fun k hk => ?_⟩
    rw [h2 k hk, swp_rd (by omega) (by omega) k (by omega), if_neg (by omega), if_neg (by omega)]
   ·rw [dn_stop (by omega) hl]; exact ⟨fun _ => Iff.rfl, fun _ _ => rfl⟩
theorem pop_in {q n : Int} (n0 : 0 < n) : (IntKind.wrap .i64 (rdZ (hdnZ (swpZ q 0 (n - 1)) (n - 1)) (n - 1)) = IntKind.wrap .i64 (rdZ q 0)) ∧
  (∀ v, inP q n v → v = IntKind.wrap .i64 (rdZ q 0) ∨ inP (hdnZ (swpZ q 0 (n - 1)) (n - 1)) (n - 1) v) ∧ ∀ v, inP (hdnZ (swpZ q 0 (n - 1)) (n - 1)) (n - 1) v → inP q n v := by
 have hd : (∀ v, inP (hdnZ (swpZ q 0 (n - 1)) (n - 1)) (n - 1) v ↔ inP (swpZ q 0 (n - 1)) (n - 1) v) ∧ IntKind.wrap .i64 (rdZ (hdnZ (swpZ q 0 (n - 1)) (n - 1)) (n - 1)) = IntKind.wrap .i64 (rdZ (swpZ q 0 (n - 1)) (n - 1)) := by
  by_cases e : n = 1
  ·subst e
   have : hdnZ (swpZ q 0 (1 - 1)) (1 - 1) = swpZ q 0 (1 - 1) := by unfold hdnZ; rw [dn_end (by decide)]
   rw [this]; exact ⟨fun _ => Iff.rfl, rfl⟩
  ·obtain ⟨h1, h2⟩ := dn_in (n := (n - 1).toNat) (n - 1).toNat 0 (swpZ q 0 (n - 1)) (by omega) (by omega)
   rw [show (((n - 1).toNat : Nat) : Int) = n - 1 by omega] at h1 h2
   exact ⟨h1, h2 _ (by omega)⟩
 have hs : IntKind.wrap .i64 (rdZ (swpZ q 0 (n - 1)) (n - 1)) = IntKind.wrap .i64 (rdZ q 0) := by rw [swp_rd (by decide) (by omega) _ (by omega), if_pos rfl]
 refine ⟨hd.2.trans hs, fun v hv => ?_, fun v hv => ?_⟩
 ·obtain ⟨k, k0, k1, hk⟩ := (inP_swp (i := 0) (k := n - 1) (by decide) n0 (by omega) (by omega)).2 hv
  by_cases e : k = n - 1
  ·subst e; exact .inl (hk.symm.trans hs)
  ·exact .inr ((hd.1 v).2 ⟨k, k0, by omega, hk⟩)
 ·obtain ⟨k, k0, k1, hk⟩ := (hd.1 v).1 hv
  exact (inP_swp (i := 0) (k := n - 1) (by decide) n0 (by omega) (by omega)).1 ⟨k, k0, by omega, hk⟩
theorem push_in {q n x : Int} (n0 : 0 ≤ n) (hx : IntKind.wrap .i64 x = x) (v : Int) : inP (hupZ (updZ q n x) n) (n + 1) v ↔ inP q n v ∨ v = x := by
 unfold hupZ
 rw [inP_up n.toNat _ (by omega)]
 constructor
 ·rintro ⟨k, k0, k1, rfl⟩
  rw [qQr]
  by_cases e : k = n
  ·subst e; rw [if_pos rfl]; exact .inr hx
  ·rw [if_neg (by omega)]; exact .inl ⟨k, k0, by omega, rfl⟩
 ·rintro (⟨k, k0, k1, rfl⟩ | rfl)
  ·exact ⟨k, k0, by omega, by rw [qQr, if_neg (by omega)]⟩
  ·exact ⟨n, n0, by omega, by rw [qQr, if_pos rfl]; exact hx⟩
end Go.Eng
end
