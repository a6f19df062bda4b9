/-
  Parts of the engine, a program's symbolic run, proved sound; and of plain laws.
-/
import Derived.Test.YteimodjkllldlafGreatDoorGp4
set_option linter.unusedVariables false
set_option linter.unusedSimpArgs false
/-!  -/
noncomputable section
namespace Go.Eng
open Classical in
theorem lvF_out (L : Lv) : ∀ (n k : Nat), n ≤ k → rdZ (lvF L n) k = rdZ 0 k
 | 0, k, h => rfl
 | n + 1, k, h => by
  rw [lvF, qQh, Int.toNat_natCast, Int.toNat_natCast, if_neg (by omega)]
  exact lvF_out L n k (by omega)
def lvV (V : Int) : Lv := ⟨fun p => IntKind.wrap .u32 (rdZ (rdZ V p) 0) ≠ 0, fun p r => bitP (IntKind.wrap .u32 (rdZ (rdZ V p) 1)) r⟩
def qv (V nc : Int) : Int := lvF (lvV V) nc.toNat
section
variable {V nc : Int}
theorem qv_re {p : Int} (p0 : 0 ≤ p) (p1 : p < nc) : bT (qv V nc) p 0 ↔ IntKind.wrap .u32 (rdZ (rdZ V p) 0) ≠ 0 := by
 unfold bT qv
 have h := lvF_at (lvV V) nc.toNat p.toNat (by omega)
 rw [show ((p.toNat : Nat) : Int) = p by omega] at h
 rw [h, (lvRow_rd (lvV V) p).1]
 by_cases e : (lvV V).re p
 ·rw [if_pos e]; exact ⟨fun _ => e, fun _ => by decide⟩
 ·rw [if_neg e]; exact ⟨fun k => absurd rfl k, fun k => absurd k e⟩
theorem qv_se {p r : Int} (p0 : 0 ≤ p) (p1 : p < nc) (r0 : 0 ≤ r) (r1 : r < 32) : bT (qv V nc) p (1 + r) ↔ bitP (rdZ (rdZ V p) 1) r := by
 unfold bT qv
 have h := lvF_at (lvV V) nc.toNat p.toNat (by omega)
 rw [show ((p.toNat : Nat) : Int) = p by omega] at h
 rw [h, (lvRow_rd (lvV V) p).2 r r0 r1, ← qXo]
 by_cases e : (lvV V).se p r
 ·rw [if_pos e]; exact ⟨fun _ => e, fun _ => by decide⟩
 ·rw [if_neg e]; exact ⟨fun k => absurd rfl k, fun k => absurd k e⟩
theorem qv_out {p f : Int} (h : nc ≤ p) (p0 : 0 ≤ p) : bT (qv V nc) p f ↔ rdZ (rdZ 0 p) f ≠ 0 := by
 unfold bT qv
 have h := lvF_out (lvV V) nc.toNat p.toNat (by omega)
 rw [show ((p.toNat : Nat) : Int) = p by omega] at h
 rw [h]
theorem qv_row {V' : Int} {p : Int} (p0 : 0 ≤ p) (h : rdZ V' p = rdZ V p) (f : Int) (f0 : 0 ≤ f) (f1 : f < 33) : bT (qv V' nc) p f ↔ bT (qv V nc) p f := by
 by_cases p1 : p < nc
 ·by_cases e : f = 0
  ·subst e; rw [qv_re p0 p1, qv_re p0 p1, h]
  ·obtain ⟨r, rfl⟩ : ∃ r, f = 1 + r := ⟨f - 1, by omega⟩
   rw [qv_se p0 p1 (by omega) (by omega), qv_se p0 p1 (by omega) (by omega), h]
 ·rw [qv_out (by omega) p0, qv_out (by omega) p0]
theorem lrv_rd {t s p : Int} (t0 : 0 ≤ t) (p0 : 0 ≤ p) : rdZ (lrvZ V t s) p = if p = t then qQq 1 (qQq (orW (IntKind.wrap .u32 (rdZ (rdZ V t) 1)) s) 0) else rdZ V p := by
 unfold lrvZ
 rw [qQh]
 by_cases e : p = t
 ·rw [if_pos (by rw [e]), if_pos e]
 ·rw [if_neg (by omega), if_neg e]
theorem qKq (x y : Int) : rdZ (qQq x (qQq y 0)) 0 = x ∧ rdZ (qQq x (qQq y 0)) 1 = y := by have h := qKy [x, y]; exact ⟨h 0, h 1⟩
theorem lrv_up {t s : Int} (t0 : 0 ≤ t) (t1 : t < nc) : UpQ (qv V nc) (qv (lrvZ V t s) nc) t (bitP s) := by
 have hr := lrv_rd (V := V) (s := s) t0 t0
 rw [if_pos rfl] at hr
 refine ⟨fun p f p0 hp f0 f1 => qv_row p0 (by rw [lrv_rd t0 p0, if_neg hp]) f f0 f1, ?_, fun r r0 r1 => ?_⟩
 ·rw [qv_re t0 t1, hr, (qKq _ _).1]; decide
 ·rw [qv_se t0 t1 r0 r1, qv_se t0 t1 r0 r1, hr, (qKq _ _).2, bit_or, qXo]
theorem lrv_same {t s : Int} {z : Int} (z0 : rdZ z 0 = s) (z1 : rdZ z 1 = V) (t0 : 0 ≤ t) (t1 : t < nc) (h : lrcZ nc t z = 0) : UpQ (qv V nc) (qv V nc) t (bitP s) := by
 unfold lrcZ at h
 rw [z0, z1] at h
 have h : IntKind.wrap .u32 (rdZ (rdZ V t) 0) = 1 ∧ IntKind.wrap .u32 (rdZ (rdZ V t) 1) = orW (IntKind.wrap .u32 (rdZ (rdZ V t) 1)) s := Classical.byContradiction fun g => by rw [if_pos ⟨t1, g⟩] at h; exact absurd h (by decide)
 refine ⟨fun p f p0 hp f0 f1 => Iff.rfl, ?_, fun r r0 r1 => ?_⟩
 ·rw [qv_re t0 t1, h.1]; decide
 ·rw [qv_se t0 t1 r0 r1]
  have : bitP (rdZ (rdZ V t) 1) r ↔ bitP (rdZ (rdZ V t) 1) r ∨ bitP s r := by
   have k := bit_or (IntKind.wrap .u32 (rdZ (rdZ V t) 1)) s r
   rw [← h.2, qXo] at k
   exact k
  exact this
theorem lrc_one {t z : Int} (h : lrcZ nc t z ≠ 0) : t < nc ∧ ¬ (IntKind.wrap .u32 (rdZ (rdZ (rdZ z 1) t) 0) = 1 ∧ IntKind.wrap .u32 (rdZ (rdZ (rdZ z 1) t) 1) = orW (IntKind.wrap .u32 (rdZ (rdZ (rdZ z 1) t) 1)) (rdZ z 0)) :=
 Classical.byContradiction fun g => h (by unfold lrcZ; rw [if_neg g])
theorem lrv_new {t s z : Int} (z0 : rdZ z 0 = s) (z1 : rdZ z 1 = V) (t0 : 0 ≤ t) (h : lrcZ nc t z ≠ 0) (wf : IntKind.wrap .u32 (rdZ (rdZ V t) 0) = 0 ∨ IntKind.wrap .u32 (rdZ (rdZ V t) 0) = 1) :
  ∃ f : Int, 0 ≤ f ∧ f < 33 ∧ ¬ (bT (qv (lrvZ V t s) nc) t f ↔ bT (qv V nc) t f) := by
 obtain ⟨t1, h⟩ := lrc_one h
 rw [z0, z1] at h
 have hu := lrv_up (V := V) (s := s) t0 t1
 refine Classical.byContradiction fun g => h ?_
 have g : ∀ f : Int, 0 ≤ f → f < 33 → (bT (qv (lrvZ V t s) nc) t f ↔ bT (qv V nc) t f) := fun f f0 f1 => Classical.byContradiction fun k => g ⟨f, f0, f1, k⟩
 constructor
 ·have := (g 0 (by decide) (by decide)).1 hu.re
  rw [qv_re t0 t1] at this
  exact wf.resolve_left this
 ·have := bits_ext (a := IntKind.wrap .u32 (rdZ (rdZ V t) 1)) (b := orW (IntKind.wrap .u32 (rdZ (rdZ V t) 1)) s) fun r r0 r1 => by
   rw [bit_or, qXo]
   constructor
   ·exact .inl
   ·rintro (k | k)
    ·exact k
    ·exact (qv_se t0 t1 r0 r1).1 ((g (1 + r) (by omega) (by omega)).1 ((hu.se r r0 r1).2 (.inr k)))
  rw [wrap_wrap .u32 .u32 _ (by decide)] at this
  exact this.trans (by unfold orW; exact wrap_wrap .u32 .u32 _ (by decide))
end
section
variable {w nc nr cS : Int}
theorem closed_up {q q' p t : Int} {Y : Int → Prop} (hu : UpQ q q' t Y) (p0 : 0 ≤ p) (p1 : p < nc) (hs : ∀ f, 0 ≤ f → f < 33 → (bT q' p f ↔ bT q p f)) (hc : ClosedAt w nc nr cS q p) : ClosedAt w nc nr cS q' p := by
 intro hr h5 x hn x0 x1
 obtain ⟨_, _, ⟨a0, a1⟩, ⟨b0, b1⟩, _⟩ := dec_in (rdZ w p) h5
 obtain ⟨h1, h2⟩ := hc ((hs 0 (by decide) (by decide)).1 hr) h5 x hn x0 x1
 refine ⟨up_mono hu x0 (by decide) (by decide) h1, fun r r0 r1 hb => up_mono hu x0 (by omega) (by omega) (h2 r r0 r1 ?_)⟩
 exact behS_32 a0 a1 b0 b1 (fun s s0 s1 k => (hs (1 + s) (by omega) (by omega)).1 k) r0 r1 hb
structure Wk (w nc nr cS V W n : Int) (X : Int → Prop) : Prop where
 wf : ∀ p, 0 ≤ p → p < nc → IntKind.wrap .u32 (rdZ (rdZ V p) 0) = 0 ∨ IntKind.wrap .u32 (rdZ (rdZ V p) 0) = 1
 be : Below w nc nr cS (qv V nc)
 st : 0 < nc → bT (qv V nc) 0 0
 n0 : 0 ≤ n
 n1 : n ≤ (cntP (qv V nc) nc.toNat : Int)
 pl : ∀ v, inP W n v → 0 ≤ v ∧ v < nc ∧ bT (qv V nc) v 0
 cl : ∀ p, 0 ≤ p → p < nc → bT (qv V nc) p 0 → ¬ inP W n p → ¬ X p → ClosedAt w nc nr cS (qv V nc) p
def mWk (V nc n : Int) : Nat := 2 * (33 * nc.toNat - cntP (qv V nc) nc.toNat) + n.toNat
variable {V W n : Int} {X : Int → Prop}
theorem wk_bd (h : Wk w nc nr cS V W n X) (hc : nc ≤ 16384) : 0 ≤ n ∧ n ≤ 540672 := by
 have := cntP_le (qv V nc) nc.toNat
 have := h.n1
 have := h.n0
 omega
theorem wk_pop (h : Wk w nc nr cS V W n fun _ => False) (n0 : 0 < n) : Wk w nc nr cS V (hdnZ (swpZ W 0 (n - 1)) (n - 1)) (n - 1) (fun p => p = IntKind.wrap .i64 (rdZ W 0)) ∧ mWk V nc (n - 1) < mWk V nc n ∧
  0 ≤ IntKind.wrap .i64 (rdZ W 0) ∧ IntKind.wrap .i64 (rdZ W 0) < nc ∧ bT (qv V nc) (IntKind.wrap .i64 (rdZ W 0)) 0 ∧ IntKind.wrap .i64 (rdZ (hdnZ (swpZ W 0 (n - 1)) (n - 1)) (n - 1)) = IntKind.wrap .i64 (rdZ W 0) := by
 obtain ⟨p1, p2, p3⟩ := pop_in (q := W) n0
 have hx := h.pl _ ⟨0, by decide, n0, rfl⟩
 refine ⟨⟨h.wf, h.be, h.st, by omega, by have := h.n1; omega, fun v hv => h.pl v (p3 v hv), fun p q0 q1 hr hn hX => h.cl p q0 q1 hr (fun k => ?_) (fun k => k)⟩, by unfold mWk; omega, hx.1, hx.2.1, hx.2.2, p1⟩
 rcases p2 p k with e | e
 ·exact hX e
 ·exact hn e
theorem wk_reach {t s z : Int} (h : Wk w nc nr cS V W n X) (hc : nc ≤ 16384) (z0 : rdZ z 0 = s) (z1 : rdZ z 1 = V) (t0 : 0 ≤ t) (hl : lrcZ nc t z ≠ 0)
  (hb : Below w nc nr cS (qv (lrvZ V t s) nc)) : Wk w nc nr cS (lrvZ V t s) (hupZ (updZ W n t) n) (n + 1) X ∧ mWk (lrvZ V t s) nc (n + 1) < mWk V nc n := by
 obtain ⟨t1, _⟩ := lrc_one hl
 have hu := lrv_up (V := V) (s := s) t0 t1
 have hm := up_more hu (n := nc.toNat) t0 (by omega) (lrv_new z0 z1 t0 hl (h.wf t t0 t1))
 have hle := cntP_le (qv (lrvZ V t s) nc) nc.toNat
 have hw : IntKind.wrap .i64 t = t := w64 (by omega) (by omega)
 have hn0 := h.n0
 refine ⟨⟨fun p p0 p1 => ?_, hb, fun k => up_mono hu (by decide) (by decide) (by decide) (h.st k), by omega, by have := h.n1; omega, fun v hv => ?_, fun p p0 p1 hr hn hX => ?_⟩, by unfold mWk; omega⟩
 ·rw [lrv_rd t0 p0]
  by_cases e : p = t
  ·rw [if_pos e, (qKq _ _).1]; exact .inr (by decide)
  ·rw [if_neg e]; exact h.wf p p0 p1
 ·rcases (push_in hn0 hw v).1 hv with k | k
  ·obtain ⟨v0, v1, v2⟩ := h.pl v k
   exact ⟨v0, v1, up_mono hu v0 (by decide) (by decide) v2⟩
  ·rw [k]; exact ⟨t0, t1, hu.re⟩
 ·have ht : p ≠ t := fun e => hn ((push_in hn0 hw p).2 (.inr e))
  have hs : ∀ f, 0 ≤ f → f < 33 → (bT (qv (lrvZ V t s) nc) p f ↔ bT (qv V nc) p f) := fun f f0 f1 => hu.oth p f p0 ht f0 f1
  exact closed_up hu p0 p1 hs (h.cl p p0 p1 ((hs 0 (by decide) (by decide)).1 hr) (fun k => hn ((push_in hn0 hw p).2 (.inl k))) hX)
end
end Go.Eng
end
/-!  -/
noncomputable section
namespace Go.Eng
section
variable {w nc nr cS : Int}
def behAt (w nr cS p : Int) (S : Int → Prop) (r : Int) : Prop := behS nr cS (decZ (IntKind.wrap .u32 (rdZ w p)) 0) (decZ (IntKind.wrap .u32 (rdZ w p)) 1) (decZ (IntKind.wrap .u32 (rdZ w p)) 2) (decZ (IntKind.wrap .u32 (rdZ w p)) 3) (decZ (IntKind.wrap .u32 (rdZ w p)) 4) S r
def nxtAt (w nr p t : Int) : Prop := nxtP nr (decZ (IntKind.wrap .u32 (rdZ w p)) 0) (decZ (IntKind.wrap .u32 (rdZ w p)) 2) (decZ (IntKind.wrap .u32 (rdZ w p)) 4) p t
structure Ps (w nc nr cS p V0 : Int) (m : Nat) (V W n : Int) : Prop where
 wk : Wk w nc nr cS V W n (fun x => x = p)
 row : inP W n p ∨ ∀ f, 0 ≤ f → f < 33 → (bT (qv V nc) p f ↔ bT (qv V0 nc) p f)
 ms : mWk V nc n ≤ m
def Dn (nc s V t : Int) : Prop := t < nc → bT (qv V nc) t 0 ∧ ∀ r, 0 ≤ r → r < 32 → bitP s r → bT (qv V nc) t (1 + r)
variable {p V0 V W n s : Int} {m : Nat}
theorem ps_start (h : Wk w nc nr cS V W n (fun x => x = p)) : Ps w nc nr cS p V (mWk V nc n) V W n := ⟨h, .inr fun _ _ _ => Iff.rfl, Nat.le_refl _⟩
theorem ps_reach (h : Ps w nc nr cS p V0 m V W n) (hc : nc ≤ 16384) (p0 : 0 ≤ p) (p1 : p < nc) (b0 : Below w nc nr cS (qv V0 nc)) (hr : bT (qv V0 nc) p 0) (h5 : decZ (IntKind.wrap .u32 (rdZ w p)) 5 = 0)
  (hY : ∀ r, 0 ≤ r → r < 32 → bitP s r → behAt w nr cS p (fun r => bT (qv V0 nc) p (1 + r)) r) {t z : Int} (z0 : rdZ z 0 = s) (z1 : rdZ z 1 = V) (t0 : 0 ≤ t) (hn : nxtAt w nr p t) :
  (lrcZ nc t z = 0 → Dn nc s V t) ∧ (lrcZ nc t z ≠ 0 → Ps w nc nr cS p V0 m (lrvZ V t s) (hupZ (updZ W n t) n) (n + 1) ∧ Dn nc s (lrvZ V t s) t ∧ ∀ x, 0 ≤ x → Dn nc s V x → Dn nc s (lrvZ V t s) x) := by
 refine ⟨fun hl t1 => ?_, fun hl => ?_⟩
 ·have hu := lrv_same z0 z1 t0 t1 hl
  exact ⟨hu.re, fun r r0 r1 k => (hu.se r r0 r1).2 (.inr k)⟩
 ·obtain ⟨t1, _⟩ := lrc_one hl
  have hu := lrv_up (V := V) (s := s) t0 t1
  have hb : Below w nc nr cS (qv (lrvZ V t s) nc) := below_up h.wk.be p0 p1 b0 hr h5 hn t0 t1 hu hY
  obtain ⟨h1, h2⟩ := wk_reach h.wk hc z0 z1 t0 hl hb
  have hw : IntKind.wrap .i64 t = t := w64 (by omega) (by omega)
  refine ⟨⟨h1, ?_, Nat.le_trans (Nat.le_of_lt h2) h.ms⟩, fun _ => ⟨hu.re, fun r r0 r1 k => (hu.se r r0 r1).2 (.inr k)⟩, fun x x0 hx x1 => ?_⟩
  ·by_cases e : p = t
   ·exact .inl ((push_in h.wk.n0 hw p).2 (.inr e))
   ·rcases h.row with k | k
    ·exact .inl ((push_in h.wk.n0 hw p).2 (.inl k))
    ·exact .inr fun f f0 f1 => (hu.oth p f p0 e f0 f1).trans (k f f0 f1)
  ·obtain ⟨g1, g2⟩ := hx x1
   exact ⟨up_mono hu x0 (by decide) (by decide) g1, fun r r0 r1 k => up_mono hu x0 (by omega) (by omega) (g2 r r0 r1 k)⟩
theorem ps_end (h : Ps w nc nr cS p V0 m V W n) (p0 : 0 ≤ p) (hd : decZ (IntKind.wrap .u32 (rdZ w p)) 5 = 0 → (∀ r, 0 ≤ r → r < 32 → behAt w nr cS p (fun r => bT (qv V0 nc) p (1 + r)) r → bitP s r) ∧ ∀ t, nxtAt w nr p t → 0 ≤ t → Dn nc s V t) :
  Wk w nc nr cS V W n (fun _ => False) := by
 refine ⟨h.wk.wf, h.wk.be, h.wk.st, h.wk.n0, h.wk.n1, h.wk.pl, fun x x0 x1 hr hn _ => ?_⟩
 by_cases e : x = p
 ·subst e
  intro hr' h5 t ht t0 t1
  obtain ⟨d1, d2⟩ := hd h5
  obtain ⟨g1, g2⟩ := d2 t ht t0 t1
  have hs := h.row.resolve_left hn
  obtain ⟨_, _, ⟨a0, a1⟩, ⟨b0, b1⟩, _⟩ := dec_in (rdZ w x) h5
  exact ⟨g1, fun r r0 r1 hb => g2 r r0 r1 (d1 r r0 r1 (behS_32 a0 a1 b0 b1 (fun q q0 q1 k => (hs (1 + q) (by omega) (by omega)).1 k) r0 r1 hb))⟩
 ·exact h.wk.cl x x0 x1 hr hn e
theorem wk_least (h : Wk w nc nr cS V W 0 (fun _ => False)) : (∀ p, 0 ≤ p → p < nc → (IntKind.wrap .u32 (rdZ (rdZ V p) 0) ≠ 0 ↔ (qZy w nc nr cS).re p)) ∧
  ∀ p r, 0 ≤ p → p < nc → 0 ≤ r → r < 32 → (bitP (rdZ (rdZ V p) 1) r ↔ (qZy w nc nr cS).se p r) := by
 have hL := lev_is h.be h.st fun p p0 p1 hr h5 => h.cl p p0 p1 hr (fun ⟨k, k0, k1, _⟩ => by omega) (fun k => k) hr h5
 refine ⟨fun p p0 p1 => ?_, fun p r p0 p1 r0 r1 => ?_⟩
 ·rw [← qv_re p0 p1]; exact ⟨h.be.re p p0 p1, fun k => least_re hL k⟩
 ·rw [← qv_se p0 p1 r0 r1]; exact ⟨h.be.se p r p0 p1 r0 r1, fun k => least_se hL k⟩
open Classical in
theorem sct_at (L : Lv) : ∀ (n k : Nat), k < n → rdZ (sctF L n) k = sumP (fun r => decide (L.se k r)) 32
 | 0, k, h => by omega
 | n + 1, k, h => by
  rw [sctF, qQh, Int.toNat_natCast, Int.toNat_natCast]
  by_cases e : k = n
  ·rw [if_pos e, e]
  ·rw [if_neg e]; exact sct_at L n k (by omega)
open Classical in
theorem sct_rd {z : Int} (z0 : rdZ z 0 = nr) (z1 : rdZ z 1 = cS) {p : Int} (p0 : 0 ≤ p) (p1 : p < nc) : IntKind.wrap .u32 (rdZ (sctZ w nc z) p) = rdZ (sctZ w nc z) p ∧ ∀ r, 0 ≤ r → r < 32 → (bitP (rdZ (sctZ w nc z) p) r ↔ (qZy w nc nr cS).se p r) := by
 unfold sctZ
 rw [z0, z1]
 have h := sct_at (qZy w nc nr cS) nc.toNat p.toNat (by omega)
 rw [show ((p.toNat : Nat) : Int) = p by omega] at h
 rw [h]
 refine ⟨sum_wrap _, fun r r0 r1 => ?_⟩
 rw [sum_bitP _ r r0 r1]
 simp only [decide_eq_true_eq]
 rw [show ((r.toNat : Nat) : Int) = r by omega]
theorem wk_row (h : Wk w nc nr cS V W 0 (fun _ => False)) {z : Int} (z0 : rdZ z 0 = nr) (z1 : rdZ z 1 = cS) {p : Int} (p0 : 0 ≤ p) (p1 : p < nc) : IntKind.wrap .u32 (rdZ (rdZ V p) 1) = rdZ (sctZ w nc z) p := by
 obtain ⟨h1, h2⟩ := sct_rd (w := w) z0 z1 p0 p1
 rw [← h1]
 exact bits_ext fun r r0 r1 => ((wk_least h).2 p r p0 p1 r0 r1).trans (h2 r r0 r1).symm
end
end Go.Eng
end
/-!  -/
noncomputable section
namespace Go.Eng
def f33 (X : Int) : Int := (qQq (rdZ X 0) (qQq (rdZ X 1) (qQq (rdZ X 2) (qQq (rdZ X 3) (qQq (rdZ X 4) (qQq (rdZ X 5) (qQq (rdZ X 6) (qQq (rdZ X 7) (qQq (rdZ X 8) (qQq (rdZ X 9) (qQq (rdZ X 10) (qQq (rdZ X 11) (qQq (rdZ X 12) (qQq (rdZ X 13) (qQq (rdZ X 14) (qQq (rdZ X 15) (qQq (rdZ X 16) (qQq (rdZ X 17) (qQq (rdZ X 18) (qQq (rdZ X 19) (qQq (rdZ X 20) (qQq (rdZ X 21) (qQq (rdZ X 22) (qQq (rdZ X 23) (qQq (rdZ X 24) (qQq (rdZ X 25) (qQq (rdZ X 26) (qQq (rdZ X 27) (qQq (rdZ X 28) (qQq (rdZ X 29) (qQq (rdZ X 30) (qQq (rdZ X 31) (qQq (rdZ X 32) 0)))))))))))))))))))))))))))))))))
theorem ch6 (a b c d e f : Int) : (rdZ (qQq a (qQq b (qQq c (qQq d (qQq e (qQq f 0)))))) 0 = a ∧ rdZ (qQq a (qQq b (qQq c (qQq d (qQq e (qQq f 0)))))) 1 = b ∧ rdZ (qQq a (qQq b (qQq c (qQq d (qQq e (qQq f 0)))))) 2 = c) ∧
  rdZ (qQq a (qQq b (qQq c (qQq d (qQq e (qQq f 0)))))) 3 = d ∧ rdZ (qQq a (qQq b (qQq c (qQq d (qQq e (qQq f 0)))))) 4 = e ∧ rdZ (qQq a (qQq b (qQq c (qQq d (qQq e (qQq f 0)))))) 5 = f := by
 have h := qKy [a, b, c, d, e, f]
 exact ⟨⟨h 0, h 1, h 2⟩, h 3, h 4, h 5⟩
end Go.Eng
end
/-!  -/
noncomputable section
namespace Go.Eng
section
variable {w nc nr cS cI nI : Int}
open Classical in
theorem fpc_open (h : openIn cS cI nI) : fpcF w nc nr cS cI nI = -1 := by unfold fpcF; rw [if_pos h]
open Classical in
theorem fpc_found (ho : ¬ openIn cS cI nI) {p : Int} (p0 : 0 ≤ p) (p1 : p < nc) (hw : qJe w nr cS (qZy w nc nr cS) p) (hb : ∀ k, 0 ≤ k → k < p → ¬ qJe w nr cS (qZy w nc nr cS) k) : fpcF w nc nr cS cI nI = p := by
 unfold fpcF
 rw [if_neg ho]
 have h : (List.range nc.toNat).find? (fun (k : Nat) => decide (qJe w nr cS (qZy w nc nr cS) k)) = some p.toNat := by
  rw [List.find?_range_eq_some]
  refine ⟨by simp only [decide_eq_true_eq]; rw [show ((p.toNat : Nat) : Int) = p by omega]; exact hw, by rw [List.mem_range]; omega, fun j hj => ?_⟩
  simp only [Bool.not_eq_true', decide_eq_false_iff_not]
  exact hb j (by omega) (by omega)
 rw [h]
 simp only [Option.map_some, Option.getD_some]; omega
open Classical in
theorem fpc_none (ho : ¬ openIn cS cI nI) (n0 : 0 ≤ nc) (hb : ∀ k, 0 ≤ k → k < nc → ¬ qJe w nr cS (qZy w nc nr cS) k) : fpcF w nc nr cS cI nI = nc := by
 unfold fpcF
 rw [if_neg ho]
 have h : (List.range nc.toNat).find? (fun (k : Nat) => decide (qJe w nr cS (qZy w nc nr cS) k)) = none := by
  rw [List.find?_eq_none]
  intro j hj
  rw [List.mem_range] at hj
  simp only [decide_eq_true_eq]
  exact hb j (by omega) (by omega)
 rw [h]; rfl
theorem fwh_ev {z : Int} (hz : z = qQq nr (qQq cS (qQq cI (qQq nI 0)))) {f : Int} (hf : fpcF w nc nr cS cI nI = f) : fwhZ w nc z = (if f < nc then 12 else 0) ∧ fpcZ w nc z = if f < nc then f else 0 := by
 subst hz
 obtain ⟨⟨e0, e1⟩, e2, e3⟩ := fpc_ev (cS := cS) (cI := cI) (nI := nI) nr
 unfold fwhZ fpcZ
 rw [e0, e1, e2, e3, hf]
 exact ⟨rfl, rfl⟩
end
end Go.Eng
end
/-!  -/
noncomputable section
namespace Go.Eng
theorem dec_n0 {x : Int} (h : decZ x 5 = 0) (h31 : decZ x 0 ≠ 31) : 0 ≤ decZ x 4 := by
 unfold decZ at *
 simp only [if_true] at h
 have hp : decP (x % 4294967296) := Classical.byContradiction fun g => by
  rw [if_neg g] at h
  split at h <;> exact absurd h (by decide)
 simp only [hp, not_true_eq_false, if_false, if_true, show (0 : Int) = 5 ↔ False by decide, show (4 : Int) = 5 ↔ False by decide, show (4 : Int) = 0 ↔ False by decide, show (4 : Int) = 1 ↔ False by decide, show (4 : Int) = 2 ↔ False by decide, show (4 : Int) = 3 ↔ False by decide] at *
 unfold decN
 simp only
 split
 ·exact Int.le_refl _
 ·omega
theorem any_open {c n : Int} : anyZ c n 0 ≠ 0 ↔ ∃ j : Int, 0 ≤ j ∧ j < n ∧ rdZ c j = 0 := by
 unfold anyZ
 split
 ·rename_i h
  obtain ⟨j, j0, j1, k⟩ := h
  exact ⟨fun _ => ⟨j, j0, j1, Classical.byContradiction fun g => absurd rfl (k.1 g)⟩, fun _ => by decide⟩
 ·rename_i h
  exact ⟨fun k => absurd rfl k, fun ⟨j, j0, j1, k⟩ => absurd ⟨j, j0, j1, ⟨fun g => absurd k g, fun g => absurd rfl g⟩⟩ h⟩
end Go.Eng
end
/-!  -/
noncomputable section
namespace Go.Eng
section
variable {w nr cS cI nI cD : Int}
end
end Go.Eng
end
/-!  -/
noncomputable section
namespace Go.Eng
theorem band_one {s d : Int} (d0 : 0 ≤ d) (d1 : d < 32) : band .u32 s (shlZ .u32 1 d) = 0 ↔ ¬ bitP s d := and_one d0 d1
theorem orW_zero {x y : Int} (hx : IntKind.wrap .u32 x = x) (hy : IntKind.wrap .u32 y = y) : orW x y = 0 ↔ x = 0 ∧ y = 0 := by
 constructor
 ·intro h
  have hb : ∀ r, ¬ bitP x r ∧ ¬ bitP y r := fun r => by
   have := bit_or x y r
   rw [h] at this
   exact ⟨fun g => qKa r (this.2 (.inl g)), fun g => qKa r (this.2 (.inr g))⟩
  have z : IntKind.wrap .u32 0 = 0 := by decide
  have e1 := bits_ext (a := x) (b := 0) fun r _ _ => ⟨fun g => absurd g (hb r).1, fun g => absurd g (qKa r)⟩
  have e2 := bits_ext (a := y) (b := 0) fun r _ _ => ⟨fun g => absurd g (hb r).2, fun g => absurd g (qKa r)⟩
  exact ⟨by rw [← hx, e1, z], by rw [← hy, e2, z]⟩
 ·rintro ⟨rfl, rfl⟩; decide
theorem band_wrap (x y : Int) : IntKind.wrap .u32 (band .u32 x y) = band .u32 x y := by unfold band; exact wrap_wrap .u32 .u32 _ (by decide)
theorem bor_two {s a b : Int} (a0 : 0 ≤ a) (a1 : a < 32) (b0 : 0 ≤ b) (b1 : b < 32) : bor .u32 (band .u32 s (shlZ .u32 1 a)) (band .u32 s (shlZ .u32 1 b)) = 0 ↔ ¬ bitP s a ∧ ¬ bitP s b := by
 have h : bor .u32 (band .u32 s (shlZ .u32 1 a)) (band .u32 s (shlZ .u32 1 b)) = orW (band .u32 s (shlZ .u32 1 a)) (band .u32 s (shlZ .u32 1 b)) := rfl
 rw [h, orW_zero (band_wrap _ _) (band_wrap _ _), band_one a0 a1, band_one b0 b1]
theorem fse_zero {op a b n s nS cS m : Int} : fseZ op a (qQq b (qQq n (qQq s (qQq nS (qQq cS (qQq m 0)))))) = 0 ↔ ¬ ((op ≤ 23 ∧ bitP s b) ∨ (op ≤ 32 ∧ bitP s a) ∨ (op = 34 ∧ a = 0 ∧ rdZ cS n ≠ 0) ∨ (op = 34 ∧ a ≠ 0 ∧ m ≠ 0)) := by
 obtain ⟨⟨e0, e1, e2⟩, e3, e4, e5⟩ := ch6 b n s nS cS m
 unfold fseZ
 rw [e0, e1, e2, e4, e5]
 split
 ·rename_i h; exact ⟨fun k => absurd k (by decide), fun k => absurd h k⟩
 ·rename_i h; exact ⟨fun _ => h, fun _ => rfl⟩
theorem lrc_ev (nc pc s v : Int) : lrcZ nc pc (qQq s (qQq v 0)) = if pc < nc ∧ ¬ (IntKind.wrap .u32 (rdZ (rdZ v pc) 0) = 1 ∧ IntKind.wrap .u32 (rdZ (rdZ v pc) 1) = orW (IntKind.wrap .u32 (rdZ (rdZ v pc) 1)) s) then 1 else 0 := by
 unfold lrcZ
 rw [(qKq s v).1, (qKq s v).2]
theorem lrc_at {nc pc s v : Int} (h : pc < nc) : (if 1 = IntKind.wrap .u32 (rdZ (rdZ v pc) 0) then if bor .u32 (IntKind.wrap .u32 (rdZ (rdZ v pc) 1)) s = IntKind.wrap .u32 (rdZ (rdZ v pc) 1) then (1 : Int) else 0 else 0) = 0 ↔ lrcZ nc pc (qQq s (qQq v 0)) ≠ 0 := by
 rw [lrc_ev]
 have e : bor .u32 (IntKind.wrap .u32 (rdZ (rdZ v pc) 1)) s = orW (IntKind.wrap .u32 (rdZ (rdZ v pc) 1)) s := rfl
 rw [e]
 by_cases g1 : IntKind.wrap .u32 (rdZ (rdZ v pc) 0) = 1
 ·by_cases g2 : IntKind.wrap .u32 (rdZ (rdZ v pc) 1) = orW (IntKind.wrap .u32 (rdZ (rdZ v pc) 1)) s
  ·rw [if_pos g1.symm, if_pos g2.symm, if_neg (fun k => k.2 ⟨g1, g2⟩)]; simp
  ·rw [if_pos g1.symm, if_neg (fun k => g2 k.symm), if_pos ⟨h, fun k => g2 k.2⟩]; simp
 ·rw [if_neg (fun k => g1 k.symm), if_pos ⟨h, fun k => g1 k.1⟩]; simp
theorem num_of (p : Prop) : ∃ x : Int, p ↔ x ≠ 0 := by
 by_cases h : p
 ·exact ⟨1, fun _ => by decide, fun _ => h⟩
 ·exact ⟨0, fun k => absurd k h, fun k => absurd rfl k⟩
end Go.Eng
end
/-!  -/
noncomputable section
namespace Go.Eng
theorem dec_ok5 {x : Int} : decZ x 0 ≠ 0 ↔ decZ x 5 = 0 := by
 unfold decZ
 simp only [show (5 : Int) = 5 ↔ True by simp, show (0 : Int) = 5 ↔ False by decide, if_true, if_false]
 by_cases h : decP (x % 4294967296)
 ·simp only [h, not_true_eq_false, if_false, if_true, show (0 : Int) = 0 ↔ True by simp]
  refine ⟨fun _ => trivial, fun _ => ?_⟩
  have := h
  unfold decP at this
  omega
 ·simp only [h, not_false_eq_true, if_true, if_false]
  refine ⟨fun k => absurd rfl k, fun k => ?_⟩
  split at k <;> exact absurd k (by decide)
theorem lps_ev {op d a b n pc nc nr cS m s V W k R : Int} (h : R = lpsZ op d (qQq a (qQq b (qQq n (qQq pc (qQq nc (qQq nr (qQq cS (qQq m (qQq s (qQq V (qQq W (qQq k 0))))))))))))) :
  rdZ R 0 = (lpsT op d a b n pc nc nr cS m s (V, W, k)).1 ∧ rdZ R 1 = (lpsT op d a b n pc nc nr cS m s (V, W, k)).2.1 ∧ rdZ R 2 = (lpsT op d a b n pc nc nr cS m s (V, W, k)).2.2 := by
 subst h
 have h := qKy [a, b, n, pc, nc, nr, cS, m, s, V, W, k]
 have h0 : rdZ (qQq a (qQq b (qQq n (qQq pc (qQq nc (qQq nr (qQq cS (qQq m (qQq s (qQq V (qQq W (qQq k 0)))))))))))) 0 = a := h 0
 have h1 : rdZ (qQq a (qQq b (qQq n (qQq pc (qQq nc (qQq nr (qQq cS (qQq m (qQq s (qQq V (qQq W (qQq k 0)))))))))))) 1 = b := h 1
 have h2 : rdZ (qQq a (qQq b (qQq n (qQq pc (qQq nc (qQq nr (qQq cS (qQq m (qQq s (qQq V (qQq W (qQq k 0)))))))))))) 2 = n := h 2
 have h3 : rdZ (qQq a (qQq b (qQq n (qQq pc (qQq nc (qQq nr (qQq cS (qQq m (qQq s (qQq V (qQq W (qQq k 0)))))))))))) 3 = pc := h 3
 have h4 : rdZ (qQq a (qQq b (qQq n (qQq pc (qQq nc (qQq nr (qQq cS (qQq m (qQq s (qQq V (qQq W (qQq k 0)))))))))))) 4 = nc := h 4
 have h5 : rdZ (qQq a (qQq b (qQq n (qQq pc (qQq nc (qQq nr (qQq cS (qQq m (qQq s (qQq V (qQq W (qQq k 0)))))))))))) 5 = nr := h 5
 have h6 : rdZ (qQq a (qQq b (qQq n (qQq pc (qQq nc (qQq nr (qQq cS (qQq m (qQq s (qQq V (qQq W (qQq k 0)))))))))))) 6 = cS := h 6
 have h7 : rdZ (qQq a (qQq b (qQq n (qQq pc (qQq nc (qQq nr (qQq cS (qQq m (qQq s (qQq V (qQq W (qQq k 0)))))))))))) 7 = m := h 7
 have h8 : rdZ (qQq a (qQq b (qQq n (qQq pc (qQq nc (qQq nr (qQq cS (qQq m (qQq s (qQq V (qQq W (qQq k 0)))))))))))) 8 = s := h 8
 have h9 : rdZ (qQq a (qQq b (qQq n (qQq pc (qQq nc (qQq nr (qQq cS (qQq m (qQq s (qQq V (qQq W (qQq k 0)))))))))))) 9 = V := h 9
 have h10 : rdZ (qQq a (qQq b (qQq n (qQq pc (qQq nc (qQq nr (qQq cS (qQq m (qQq s (qQq V (qQq W (qQq k 0)))))))))))) 10 = W := h 10
 have h11 : rdZ (qQq a (qQq b (qQq n (qQq pc (qQq nc (qQq nr (qQq cS (qQq m (qQq s (qQq V (qQq W (qQq k 0)))))))))))) 11 = k := h 11
 unfold lpsZ
 rw [h0, h1, h2, h3, h4, h5, h6, h7, h8, h9, h10, h11]
 generalize lpsT op d a b n pc nc nr cS m s (V, W, k) = T
 obtain ⟨x, y, z⟩ := T
 have g := qKy [x, y, z]
 exact ⟨g 0, g 1, g 2⟩
theorem rch_ev (nc t s V W k : Int) : rchT nc t s (V, W, k) = (if ¬ lrcZ nc t (qQq s (qQq V 0)) = 0 then lrvZ V t s else V, if ¬ lrcZ nc t (qQq s (qQq V 0)) = 0 then hupZ (updZ W k t) k else W, k + lrcZ nc t (qQq s (qQq V 0))) := by
 have hb := lrcZ_bd nc t (qQq s (qQq V 0))
 unfold rchT
 by_cases h : lrcZ nc t (qQq s (qQq V 0)) = 0
 ·rw [if_neg (fun g => g h), if_neg (fun g => g h), if_neg (fun g => g h), h, Int.add_zero]
 ·rw [if_pos h, if_pos h, if_pos h, show lrcZ nc t (qQq s (qQq V 0)) = 1 by omega]
end Go.Eng
end
