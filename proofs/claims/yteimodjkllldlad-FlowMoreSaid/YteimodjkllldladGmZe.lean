/-
  Parts of the engine, a program's symbolic run, proved sound; and of plain laws.
-/
import Derived.Test.YteimodjkllldladGmZd
set_option linter.unusedVariables false
set_option linter.unusedSimpArgs false

/-!  -/
noncomputable section
namespace Go.Eng
open Classical in
theorem lvF_out (L : Lv) : ∀ (n k : Nat), n ≤ k → rdZ (lvF L n) k = rdZ 0 k
 | 0, k, h => rfl
 | n + 1, k, h => by
  rw [lvF, qQr, Int.toNat_natCast, Int.toNat_natCast, if_neg (by omega)]
  exact lvF_out L n k (by omega)
def lvV (V : Int) : Lv := ⟨fun p => IntKind.wrap .u32 (rdZ (rdZ V p) 0) ≠ 0, fun p r => bitP (IntKind.wrap .u32 (rdZ (rdZ V p) 1)) r⟩
def qv (V nc : Int) : Int := lvF (lvV V) nc.toNat
section
variable {V nc : Int}
theorem qv_re {p : Int} (p0 : 0 ≤ p) (p1 : p < nc) : bT (qv V nc) p 0 ↔ IntKind.wrap .u32 (rdZ (rdZ V p) 0) ≠ 0 := by
 unfold bT qv
 have h := lvF_at (lvV V) nc.toNat p.toNat (by omega)
 rw [show ((p.toNat : Nat) : Int) = p by omega] at h
 rw [h, (lvRow_rd (lvV V) p).1]
 by_cases e : (lvV V).re p
 ·rw [if_pos e]; exact ⟨fun _ => e, fun _ => by decide⟩
 ·rw [if_neg e]; exact ⟨fun k => absurd rfl k, fun k => absurd k e⟩
theorem qv_se {p r : Int} (p0 : 0 ≤ p) (p1 : p < nc) (r0 : 0 ≤ r) (r1 : r < 32) : bT (qv V nc) p (1 + r) ↔ bitP (rdZ (rdZ V p) 1) r := by
 unfold bT qv
 have h := lvF_at (lvV V) nc.toNat p.toNat (by omega)
 rw [show ((p.toNat : Nat) : Int) = p by omega] at h
 rw [h, (lvRow_rd (lvV V) p).2 r r0 r1, ← qKj]
 by_cases e : (lvV V).se p r
 ·rw [if_pos e]; exact ⟨fun _ => e, fun _ => by decide⟩
 ·rw [if_neg e]; exact ⟨fun k => absurd rfl k, fun k => absurd k e⟩
theorem qv_out {p f : Int} (h : nc ≤ p) (p0 : 0 ≤ p) : bT (qv V nc) p f ↔ rdZ (rdZ 0 p) f ≠ 0 := by
 unfold bT qv
 have h := lvF_out (lvV V) nc.toNat p.toNat (by omega)
 rw [show ((p.toNat : Nat) : Int) = p by omega] at h
 rw [h]
theorem qv_row {V' : Int} {p : Int} (p0 : 0 ≤ p) (h : rdZ V' p = rdZ V p) (f : Int) (f0 : 0 ≤ f) (f1 : f < 33) : bT (qv V' nc) p f ↔ bT (qv V nc) p f := by
 by_cases p1 : p < nc
 ·by_cases e : f = 0
  ·subst e; rw [qv_re p0 p1, qv_re p0 p1, h]
  ·obtain ⟨r, rfl⟩ : ∃ r, f = 1 + r := ⟨f - 1, by omega⟩
   rw [qv_se p0 p1 (by omega) (by omega), qv_se p0 p1 (by omega) (by omega), h]
 ·rw [qv_out (by omega) p0, qv_out (by omega) p0]
theorem lrv_rd {t s p : Int} (t0 : 0 ≤ t) (p0 : 0 ≤ p) : rdZ (lrvZ V t s) p = if p = t then qQq 1 (qQq (orW (IntKind.wrap .u32 (rdZ (rdZ V t) 1)) s) 0) else rdZ V p := by
 unfold lrvZ
 rw [qQr]
 by_cases e : p = t
 ·rw [if_pos (by rw [e]), if_pos e]
 ·rw [if_neg (by omega), if_neg e]
theorem qXw (x y : Int) : rdZ (qQq x (qQq y 0)) 0 = x ∧ rdZ (qQq x (qQq y 0)) 1 = y := by have h := rd_chn [x, y]; exact ⟨h 0, h 1⟩
theorem lrv_up {t s : Int} (t0 : 0 ≤ t) (t1 : t < nc) : UpQ (qv V nc) (qv (lrvZ V t s) nc) t (bitP s) := by
 have hr := lrv_rd (V := V) (s := s) t0 t0
 rw [if_pos rfl] at hr
 refine ⟨fun p f p0 hp f0 f1 => qv_row p0 (by rw [lrv_rd t0 p0, if_neg hp]) f f0 f1, ?_, fun r r0 r1 => ?_⟩
 ·rw [qv_re t0 t1, hr, (qXw _ _).1]; decide
 ·rw [qv_se t0 t1 r0 r1, qv_se t0 t1 r0 r1, hr, (qXw _ _).2, bit_or, qKj]
theorem lrv_same {t s : Int} {z : Int} (z0 : rdZ z 0 = s) (z1 : rdZ z 1 = V) (t0 : 0 ≤ t) (t1 : t < nc) (h : lrcZ nc t z = 0) : UpQ (qv V nc) (qv V nc) t (bitP s) := by
 unfold lrcZ at h
 rw [z0, z1] at h
 have h : IntKind.wrap .u32 (rdZ (rdZ V t) 0) = 1 ∧ IntKind.wrap .u32 (rdZ (rdZ V t) 1) = orW (IntKind.wrap .u32 (rdZ (rdZ V t) 1)) s := Classical.byContradiction fun g => by rw [if_pos ⟨t1, g⟩] at h; exact absurd h (by decide)
 refine ⟨fun p f p0 hp f0 f1 => Iff.rfl, ?_, fun r r0 r1 => ?_⟩
 ·rw [qv_re t0 t1, h.1]; decide
 ·rw [qv_se t0 t1 r0 r1]
  have : bitP (rdZ (rdZ V t) 1) r ↔ bitP (rdZ (rdZ V t) 1) r ∨ bitP s r := by
   have k := bit_or (IntKind.wrap .u32 (rdZ (rdZ V t) 1)) s r
   rw [← h.2, qKj] at k
   exact k
  exact this
theorem lrc_one {t z : Int} (h : lrcZ nc t z ≠ 0) : t < nc ∧ ¬ (IntKind.wrap .u32 (rdZ (rdZ (rdZ z 1) t) 0) = 1 ∧ IntKind.wrap .u32 (rdZ (rdZ (rdZ z 1) t) 1) = orW (IntKind.wrap .u32 (rdZ (rdZ (rdZ z 1) t) 1)) (rdZ z 0)) :=
 Classical.byContradiction fun g => h (by unfold lrcZ; rw [if_neg g])
theorem lrv_new {t s z : Int} (z0 : rdZ z 0 = s) (z1 : rdZ z 1 = V) (t0 : 0 ≤ t) (h : lrcZ nc t z ≠ 0) (wf : IntKind.wrap .u32 (rdZ (rdZ V t) 0) = 0 ∨ IntKind.wrap .u32 (rdZ (rdZ V t) 0) = 1) :
  ∃ f : Int, 0 ≤ f ∧ f < 33 ∧ ¬ (bT (qv (lrvZ V t s) nc) t f ↔ bT (qv V nc) t f) := by
 obtain ⟨t1, h⟩ := lrc_one h
 rw [z0, z1] at h
 have hu := lrv_up (V := V) (s := s) t0 t1
 refine Classical.byContradiction fun g => h ?_
 have g : ∀ f : Int, 0 ≤ f → f < 33 → (bT (qv (lrvZ V t s) nc) t f ↔ bT (qv V nc) t f) := fun f f0 f1 => Classical.byContradiction fun k => g ⟨f, f0, f1, k⟩
 constructor
 ·have := (g 0 (by decide) (by decide)).1 hu.re
  rw [qv_re t0 t1] at this
  exact wf.resolve_left this
 ·have := bits_ext (a := IntKind.wrap .u32 (rdZ (rdZ V t) 1)) (b := orW (IntKind.wrap .u32 (rdZ (rdZ V t) 1)) s) fun r r0 r1 => by
   rw [bit_or, qKj]
   constructor
   ·exact .inl
   ·rintro (k | k)
    ·exact k
    ·exact (qv_se t0 t1 r0 r1).1 ((g (1 + r) (by omega) (by omega)).1 ((hu.se r r0 r1).2 (.inr k)))
  rw [wrap_wrap .u32 .u32 _ (by decide)] at this
  exact this.trans (by unfold orW; exact wrap_wrap .u32 .u32 _ (by decide))
end
section
variable {w nc nr cS : Int}
theorem closed_up {q q' p t : Int} {Y : Int → Prop} (hu : UpQ q q' t Y) (p0 : 0 ≤ p) (p1 : p < nc) (hs : ∀ f, 0 ≤ f → f < 33 → (bT q' p f ↔ bT q p f)) (hc : ClosedAt w nc nr cS q p) : ClosedAt w nc nr cS q' p := by
 intro hr h5 x hn x0 x1
 obtain ⟨_, _, ⟨a0, a1⟩, ⟨b0, b1⟩, _⟩ := dec_in (rdZ w p) h5
 obtain ⟨h1, h2⟩ := hc ((hs 0 (by decide) (by decide)).1 hr) h5 x hn x0 x1
 refine ⟨up_mono hu x0 (by decide) (by decide) h1, fun r r0 r1 hb => up_mono hu x0 (by omega) (by omega) (h2 r r0 r1 ?_)⟩
 exact behS_32 a0 a1 b0 b1 (fun s s0 s1 k => (hs (1 + s) (by omega) (by omega)).1 k) r0 r1 hb
structure Wk (w nc nr cS V W n : Int) (X : Int → Prop) : Prop where
 wf : ∀ p, 0 ≤ p → p < nc → IntKind.wrap .u32 (rdZ (rdZ V p) 0) = 0 ∨ IntKind.wrap .u32 (rdZ (rdZ V p) 0) = 1
 be : Below w nc nr cS (qv V nc)
 st : 0 < nc → bT (qv V nc) 0 0
 n0 : 0 ≤ n
 n1 : n ≤ (cntP (qv V nc) nc.toNat : Int)
 pl : ∀ v, inP W n v → 0 ≤ v ∧ v < nc ∧ bT (qv V nc) v 0
 cl : ∀ p, 0 ≤ p → p < nc → bT (qv V nc) p 0 → ¬ inP W n p → ¬ X p → ClosedAt w nc nr cS (qv V nc) p
def mWk (V nc n : Int) : Nat := 2 * (33 * nc.toNat - cntP (qv V nc) nc.toNat) + n.toNat
variable {V W n : Int} {X : Int → Prop}
theorem wk_bd (h : Wk w nc nr cS V W n X) (hc : nc ≤ 16384) : 0 ≤ n ∧ n ≤ 540672 := by
 have := cntP_le (qv V nc) nc.toNat
 have := h.n1
 have := h.n0
 omega
theorem wk_pop (h : Wk w nc nr cS V W n fun _ => False) (n0 : 0 < n) : Wk w nc nr cS V (hdnZ (swpZ W 0 (n - 1)) (n - 1)) (n - 1) (fun p => p = IntKind.wrap .i64 (rdZ W 0)) ∧ mWk V nc (n - 1) < mWk V nc n ∧
  0 ≤ IntKind.wrap .i64 (rdZ W 0) ∧ IntKind.wrap .i64 (rdZ W 0) < nc ∧ bT (qv V nc) (IntKind.wrap .i64 (rdZ W 0)) 0 ∧ IntKind.wrap .i64 (rdZ (hdnZ (swpZ W 0 (n - 1)) (n - 1)) (n - 1)) = IntKind.wrap .i64 (rdZ W 0) := by
 obtain ⟨p1, p2, p3⟩ := pop_in (q := W) n0
 have hx := h.pl _ ⟨0, by decide, n0, rfl⟩
 refine ⟨⟨h.wf, h.be, h.st, by omega, by have := h.n1; omega, fun v hv => h.pl v (p3 v hv), fun p q0 q1 hr hn hX => h.cl p q0 q1 hr (fun k => ?_) (fun k => k)⟩, by unfold mWk; omega, hx.1, hx.2.1, hx.2.2, p1⟩
 rcases p2 p k with e | e
 ·exact hX e
 ·exact hn e
theorem wk_reach {t s z : Int} (h : Wk w nc nr cS V W n X) (hc : nc ≤ 16384) (z0 : rdZ z 0 = s) (z1 : rdZ z 1 = V) (t0 : 0 ≤ t) (hl : lrcZ nc t z ≠ 0)
  (hb : Below w nc nr cS (qv (lrvZ V t s) nc)) : Wk w nc nr cS (lrvZ V t s) (hupZ (updZ W n t) n) (n + 1) X ∧ mWk (lrvZ V t s) nc (n + 1) < mWk V nc n := by
 obtain ⟨t1, _⟩ := lrc_one hl
 have hu := lrv_up (V := V) (s := s) t0 t1
 have hm := up_more hu (n := nc.toNat) t0 (by omega) (lrv_new z0 z1 t0 hl (h.wf t t0 t1))
 have hle := cntP_le (qv (lrvZ V t s) nc) nc.toNat
 have hw : IntKind.wrap .i64 t = t := w64 (by omega) (by omega)
 have hn0 := h.n0
 refine ⟨⟨fun p p0 p1 => ?_, hb, fun k => up_mono hu (by decide) (by decide) (by decide) (h.st k), by omega, by have := h.n1; omega, fun v hv => ?_, fun p p0 p1 hr hn hX => ?_⟩, by unfold mWk; omega⟩
 ·rw [lrv_rd t0 p0]
  by_cases e : p = t
  ·rw [if_pos e, (qXw _ _).1]; exact .inr (by decide)
  ·rw [if_neg e]; exact h.wf p p0 p1
 ·rcases (push_in hn0 hw v).1 hv with k | k
  ·obtain ⟨v0, v1, v2⟩ := h.pl v k
   exact ⟨v0, v1, up_mono hu v0 (by decide) (by decide) v2⟩
  ·rw [k]; exact ⟨t0, t1, hu.re⟩
 ·have ht : p ≠ t := fun e => hn ((push_in hn0 hw p).2 (.inr e))
  have hs : ∀ f, 0 ≤ f → f < 33 → (bT (qv (lrvZ V t s) nc) p f ↔ bT (qv V nc) p f) := fun f f0 f1 => hu.oth p f p0 ht f0 f1
  exact closed_up hu p0 p1 hs (h.cl p p0 p1 ((hs 0 (by decide) (by decide)).1 hr) (fun k => hn ((push_in hn0 hw p).2 (.inl k))) hX)
end
end Go.Eng
end
