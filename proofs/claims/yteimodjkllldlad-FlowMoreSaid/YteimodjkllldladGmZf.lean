/-
  Parts of the engine, a program's symbolic run, proved sound; and of plain laws.
-/
import Derived.Test.YteimodjkllldladGmZe
set_option linter.unusedVariables false
set_option linter.unusedSimpArgs false

/-!  -/
noncomputable section
namespace Go.Eng
section
variable {w nc nr cS : Int}
def behAt (w nr cS p : Int) (S : Int → Prop) (r : Int) : Prop := behS nr cS (decZ (IntKind.wrap .u32 (rdZ w p)) 0) (decZ (IntKind.wrap .u32 (rdZ w p)) 1) (decZ (IntKind.wrap .u32 (rdZ w p)) 2) (decZ (IntKind.wrap .u32 (rdZ w p)) 3) (decZ (IntKind.wrap .u32 (rdZ w p)) 4) S r
def nxtAt (w nr p t : Int) : Prop := nxtP nr (decZ (IntKind.wrap .u32 (rdZ w p)) 0) (decZ (IntKind.wrap .u32 (rdZ w p)) 2) (decZ (IntKind.wrap .u32 (rdZ w p)) 4) p t
structure Ps (w nc nr cS p V0 : Int) (m : Nat) (V W n : Int) : Prop where
 wk : Wk w nc nr cS V W n (fun x => x = p)
 row : inP W n p ∨ ∀ f, 0 ≤ f → f < 33 → (bT (qv V nc) p f ↔ bT (qv V0 nc) p f)
 ms : mWk V nc n ≤ m
def Dn (nc s V t : Int) : Prop := t < nc → bT (qv V nc) t 0 ∧ ∀ r, 0 ≤ r → r < 32 → bitP s r → bT (qv V nc) t (1 + r)
variable {p V0 V W n s : Int} {m : Nat}
theorem ps_start (h : Wk w nc nr cS V W n (fun x => x = p)) : Ps w nc nr cS p V (mWk V nc n) V W n := ⟨h, .inr fun _ _ _ => Iff.rfl, Nat.le_refl _⟩
theorem ps_reach (h : Ps w nc nr cS p V0 m V W n) (hc : nc ≤ 16384) (p0 : 0 ≤ p) (p1 : p < nc) (b0 : Below w nc nr cS (qv V0 nc)) (hr : bT (qv V0 nc) p 0) (h5 : decZ (IntKind.wrap .u32 (rdZ w p)) 5 = 0)
  (hY : ∀ r, 0 ≤ r → r < 32 → bitP s r → behAt w nr cS p (fun r => bT (qv V0 nc) p (1 + r)) r) {t z : Int} (z0 : rdZ z 0 = s) (z1 : rdZ z 1 = V) (t0 : 0 ≤ t) (hn : nxtAt w nr p t) :
  (lrcZ nc t z = 0 → Dn nc s V t) ∧ (lrcZ nc t z ≠ 0 → Ps w nc nr cS p V0 m (lrvZ V t s) (hupZ (updZ W n t) n) (n + 1) ∧ Dn nc s (lrvZ V t s) t ∧ ∀ x, 0 ≤ x → Dn nc s V x → Dn nc s (lrvZ V t s) x) := by
 refine ⟨fun hl t1 => ?_, fun hl => ?_⟩
 ·have hu := lrv_same z0 z1 t0 t1 hl
  exact ⟨hu.re, fun r r0 r1 k => (hu.se r r0 r1).2 (.inr k)⟩
 ·obtain ⟨t1, _⟩ := lrc_one hl
  have hu := lrv_up (V := V) (s := s) t0 t1
  have hb : Below w nc nr cS (qv (lrvZ V t s) nc) := below_up h.wk.be p0 p1 b0 hr h5 hn t0 t1 hu hY
  obtain ⟨h1, h2⟩ := wk_reach h.wk hc z0 z1 t0 hl hb
  have hw : IntKind.wrap .i64 t = t := w64 (by omega) (by omega)
  refine ⟨⟨h1, ?_, Nat.le_trans (Nat.le_of_lt h2) h.ms⟩, fun _ => ⟨hu.re, fun r r0 r1 k => (hu.se r r0 r1).2 (.inr k)⟩, fun x x0 hx x1 => ?_⟩
  ·by_cases e : p = t
   ·exact .inl ((push_in h.wk.n0 hw p).2 (.inr e))
   ·rcases h.row with k | k
    ·exact .inl ((push_in h.wk.n0 hw p).2 (.inl k))
    ·exact .inr fun f f0 f1 => (hu.oth p f p0 e f0 f1).trans (k f f0 f1)
  ·obtain ⟨g1, g2⟩ := hx x1
   exact ⟨up_mono hu x0 (by decide) (by decide) g1, fun r r0 r1 k => up_mono hu x0 (by omega) (by omega) (g2 r r0 r1 k)⟩
theorem ps_end (h : Ps w nc nr cS p V0 m V W n) (p0 : 0 ≤ p) (hd : decZ (IntKind.wrap .u32 (rdZ w p)) 5 = 0 → (∀ r, 0 ≤ r → r < 32 → behAt w nr cS p (fun r => bT (qv V0 nc) p (1 + r)) r → bitP s r) ∧ ∀ t, nxtAt w nr p t → 0 ≤ t → Dn nc s V t) :
  Wk w nc nr cS V W n (fun _ => False) := by
 refine ⟨h.wk.wf, h.wk.be, h.wk.st, h.wk.n0, h.wk.n1, h.wk.pl, fun x x0 x1 hr hn _ => ?_⟩
 by_cases e : x = p
 ·subst e
  intro hr' h5 t ht t0 t1
  obtain ⟨d1, d2⟩ := hd h5
  obtain ⟨g1, g2⟩ := d2 t ht t0 t1
  have hs := h.row.resolve_left hn
  obtain ⟨_, _, ⟨a0, a1⟩, ⟨b0, b1⟩, _⟩ := dec_in (rdZ w x) h5
  exact ⟨g1, fun r r0 r1 hb => g2 r r0 r1 (d1 r r0 r1 (behS_32 a0 a1 b0 b1 (fun q q0 q1 k => (hs (1 + q) (by omega) (by omega)).1 k) r0 r1 hb))⟩
 ·exact h.wk.cl x x0 x1 hr hn e
theorem wk_least (h : Wk w nc nr cS V W 0 (fun _ => False)) : (∀ p, 0 ≤ p → p < nc → (IntKind.wrap .u32 (rdZ (rdZ V p) 0) ≠ 0 ↔ (qZc w nc nr cS).re p)) ∧
  ∀ p r, 0 ≤ p → p < nc → 0 ≤ r → r < 32 → (bitP (rdZ (rdZ V p) 1) r ↔ (qZc w nc nr cS).se p r) := by
 have hL := lev_is h.be h.st fun p p0 p1 hr h5 => h.cl p p0 p1 hr (fun ⟨k, k0, k1, _⟩ => by omega) (fun k => k) hr h5
 refine ⟨fun p p0 p1 => ?_, fun p r p0 p1 r0 r1 => ?_⟩
 ·rw [← qv_re p0 p1]; exact ⟨h.be.re p p0 p1, fun k => least_re hL k⟩
 ·rw [← qv_se p0 p1 r0 r1]; exact ⟨h.be.se p r p0 p1 r0 r1, fun k => least_se hL k⟩
open Classical in
theorem sct_at (L : Lv) : ∀ (n k : Nat), k < n → rdZ (sctF L n) k = sumP (fun r => decide (L.se k r)) 32
 | 0, k, h => by omega
 | n + 1, k, h => by
  rw [sctF, qQr, Int.toNat_natCast, Int.toNat_natCast]
  by_cases e : k = n
  ·rw [if_pos e, e]
  ·rw [if_neg e]; exact sct_at L n k (by omega)
open Classical in
theorem sct_rd {z : Int} (z0 : rdZ z 0 = nr) (z1 : rdZ z 1 = cS) {p : Int} (p0 : 0 ≤ p) (p1 : p < nc) : IntKind.wrap .u32 (rdZ (sctZ w nc z) p) = rdZ (sctZ w nc z) p ∧ ∀ r, 0 ≤ r → r < 32 → (bitP (rdZ (sctZ w nc z) p) r ↔ (qZc w nc nr cS).se p r) := by
 unfold sctZ
 rw [z0, z1]
 have h := sct_at (qZc w nc nr cS) nc.toNat p.toNat (by omega)
 rw [show ((p.toNat : Nat) : Int) = p by omega] at h
 rw [h]
 refine ⟨sum_wrap _, fun r r0 r1 => ?_⟩
 rw [sum_bitP _ r r0 r1]
 simp only [decide_eq_true_eq]
 rw [show ((r.toNat : Nat) : Int) = r by omega]
theorem wk_row (h : Wk w nc nr cS V W 0 (fun _ => False)) {z : Int} (z0 : rdZ z 0 = nr) (z1 : rdZ z 1 = cS) {p : Int} (p0 : 0 ≤ p) (p1 : p < nc) : IntKind.wrap .u32 (rdZ (rdZ V p) 1) = rdZ (sctZ w nc z) p := by
 obtain ⟨h1, h2⟩ := sct_rd (w := w) z0 z1 p0 p1
 rw [← h1]
 exact bits_ext fun r r0 r1 => ((wk_least h).2 p r p0 p1 r0 r1).trans (h2 r r0 r1).symm
end
end Go.Eng
end
