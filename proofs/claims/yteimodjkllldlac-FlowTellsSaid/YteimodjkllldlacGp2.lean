/-
  Parts of the engine, a program's symbolic run, proved sound; and of plain laws.
-/
import Derived.Test.YteimodjkllldlacGp1
set_option linter.unusedVariables false
set_option linter.unusedSimpArgs false
/-!  -/
noncomputable section
namespace Go.Eng
theorem putQ_mono {S S' : Int → Prop} {d : Int} {p p' : Prop} (hs : ∀ r, S r → S' r) (hp : p → p') (r : Int) : putQ S d p r → putQ S' d p' r := by
 rintro (⟨h1, h2, h3⟩ | ⟨h1, h2⟩)
 ·exact .inl ⟨h1, hp h2, h3⟩
 ·exact .inr ⟨h1, hs r h2⟩
theorem dsec_mono {nr cS op a b n : Int} {S S' : Int → Prop} (hs : ∀ r, S r → S' r) : dsec nr cS op a b n S → dsec nr cS op a b n S' := by
 rintro (⟨h1, h2⟩ | ⟨h1, h2⟩ | h | h)
 ·exact .inl ⟨h1, h2.imp (hs a) fun k => ⟨k.1, hs b k.2⟩⟩
 ·exact .inr (.inl ⟨h1, hs a h2⟩)
 ·exact .inr (.inr (.inl h))
 ·exact .inr (.inr (.inr h))
theorem behS_mono {nr cS op d a b n : Int} {S S' : Int → Prop} (hs : ∀ r, S r → S' r) (r : Int) : behS nr cS op d a b n S r → behS nr cS op d a b n S' r := by
 rintro (⟨h1, h2⟩ | ⟨h1, h2⟩)
 ·exact .inl ⟨h1, putQ_mono hs (dsec_mono hs) r h2⟩
 ·exact .inr ⟨h1, hs r h2⟩
section
variable {w nc nr cS : Int}
theorem qXy : ClosedL w nc nr cS (qQd w nc nr cS) := by
 refine ⟨fun h L hL => hL.start h, fun pc t h0 h1 hr h5 hn t0 t1 => ⟨fun L hL => (hL.next pc t h0 h1 (hr L hL) h5 hn t0 t1).1, fun r r0 r1 hb L hL => ?_⟩⟩
 exact (hL.next pc t h0 h1 (hr L hL) h5 hn t0 t1).2 r r0 r1 (behS_mono (fun q hq => hq L hL) r hb)
theorem least_re {L : Lv} (hL : ClosedL w nc nr cS L) {pc : Int} (h : (qQd w nc nr cS).re pc) : L.re pc := h L hL
theorem least_se {L : Lv} (hL : ClosedL w nc nr cS L) {pc r : Int} (h : (qQd w nc nr cS).se pc r) : L.se pc r := h L hL
theorem least_zero (pc : Int) : ¬ (qQd w nc nr cS).se pc 0 := fun h => by
 have hc := qXy (w := w) (nc := nc) (nr := nr) (cS := cS)
 have := h ⟨fun _ => True, fun p r => r ≠ 0⟩ ⟨fun _ => trivial, fun p t _ _ _ _ _ _ _ => ⟨trivial, fun r _ _ hb => ?_⟩⟩
 ·exact this rfl
 ·rcases hb with ⟨_, ⟨h1, _, h3⟩ | ⟨_, h2⟩⟩ | ⟨_, h2⟩
  ·show r ≠ 0; rw [h1]; exact h3
  ·exact h2
  ·exact h2
theorem fpc_ev {cI nI : Int} (x : Int) : (rdZ (qQq x (qQq cS (qQq cI (qQq nI 0)))) 0 = x ∧ rdZ (qQq x (qQq cS (qQq cI (qQq nI 0)))) 1 = cS) ∧ rdZ (qQq x (qQq cS (qQq cI (qQq nI 0)))) 2 = cI ∧ rdZ (qQq x (qQq cS (qQq cI (qQq nI 0)))) 3 = nI := by
 have h := qXp [x, cS, cI, nI]
 exact ⟨⟨h 0, h 1⟩, h 2, h 3⟩
open Classical in
end
end Go.Eng
end
/-!  -/
noncomputable section
namespace Go.Eng
def bT (q p f : Int) : Prop := rdZ (rdZ q p) f ≠ 0
def lvOf (q : Int) : Lv := ⟨fun p => bT q p 0, fun p r => bT q p (1 + r)⟩
structure UpQ (q q' t : Int) (Y : Int → Prop) : Prop where
 oth : ∀ p f, 0 ≤ p → p ≠ t → 0 ≤ f → f < 33 → (bT q' p f ↔ bT q p f)
 re : bT q' t 0
 se : ∀ r, 0 ≤ r → r < 32 → (bT q' t (1 + r) ↔ bT q t (1 + r) ∨ Y r)
def SameQ (nc q q' : Int) : Prop := ∀ p f, 0 ≤ p → p < nc → 0 ≤ f → f < 33 → (bT q' p f ↔ bT q p f)
theorem qXv {q q' t : Int} {Y : Int → Prop} (h : UpQ q q' t Y) {p f : Int} (p0 : 0 ≤ p) (f0 : 0 ≤ f) (f1 : f < 33) (hb : bT q p f) : bT q' p f := by
 by_cases e : p = t
 ·subst e
  by_cases g : f = 0
  ·subst g; exact h.re
  ·have := (h.se (f - 1) (by omega) (by omega)).2 (.inl (by rwa [show 1 + (f - 1) = f by omega]))
   rwa [show 1 + (f - 1) = f by omega] at this
 ·exact (h.oth p f p0 e f0 f1).2 hb
open Classical in
def cntB (q p : Int) : Nat → Nat
 | 0 => 0
 | f + 1 => cntB q p f + (if bT q p f then 1 else 0)
def cntP (q : Int) : Nat → Nat
 | 0 => 0
 | p + 1 => cntP q p + cntB q p 33
theorem cntB_le (q p : Int) : ∀ k, cntB q p k ≤ k
 | 0 => Nat.le_refl _
 | k + 1 => by have := cntB_le q p k; unfold cntB; split <;> omega
theorem cntP_le (q : Int) : ∀ n, cntP q n ≤ 33 * n
 | 0 => Nat.le_refl _
 | n + 1 => by have := cntP_le q n; have := cntB_le q n 33; unfold cntP; omega
theorem cntB_mono {q q' p : Int} : ∀ k : Nat, (∀ f : Nat, f < k → bT q p f → bT q' p f) → cntB q p k ≤ cntB q' p k
 | 0, _ => Nat.le_refl _
 | k + 1, h => by
  have := cntB_mono (q := q) (q' := q') (p := p) k fun f hf => h f (by omega)
  unfold cntB
  by_cases e : bT q p k
  ·rw [if_pos e, if_pos (h k (by omega) e)]; omega
  ·rw [if_neg e]; omega
theorem cntB_more {q q' p : Int} : ∀ k : Nat, (∀ f : Nat, f < k → bT q p f → bT q' p f) → (∃ f : Nat, f < k ∧ ¬ bT q p f ∧ bT q' p f) → cntB q p k < cntB q' p k
 | 0, _, ⟨_, h, _⟩ => by omega
 | k + 1, h, ⟨f, hf, h1, h2⟩ => by
  have hm := cntB_mono (q := q) (q' := q') (p := p) k fun f hf => h f (by omega)
  unfold cntB
  by_cases e : f = k
  ·subst e
   rw [if_neg h1, if_pos h2]; omega
  ·have := cntB_more (q := q) (q' := q') (p := p) k (fun f hf => h f (by omega)) ⟨f, by omega, h1, h2⟩
   by_cases e : bT q p k
   ·rw [if_pos e, if_pos (h k (by omega) e)]; omega
   ·rw [if_neg e]; omega
theorem cntP_mono {q q' : Int} : ∀ n : Nat, (∀ p f : Nat, p < n → f < 33 → bT q p f → bT q' p f) → cntP q n ≤ cntP q' n
 | 0, _ => Nat.le_refl _
 | n + 1, h => by
  have h1 := cntP_mono (q := q) (q' := q') n fun p f hp hf => h p f (by omega) hf
  have h2 := cntB_mono (q := q) (q' := q') (p := n) 33 fun f hf => h n f (by omega) hf
  unfold cntP; omega
theorem cntP_more {q q' : Int} : ∀ n : Nat, (∀ p f : Nat, p < n → f < 33 → bT q p f → bT q' p f) → (∃ p f : Nat, p < n ∧ f < 33 ∧ ¬ bT q p f ∧ bT q' p f) → cntP q n < cntP q' n
 | 0, _, ⟨_, _, h, _⟩ => by omega
 | n + 1, h, ⟨p, f, hp, hf, h1, h2⟩ => by
  have a1 := cntP_mono (q := q) (q' := q') n fun p f hp hf => h p f (by omega) hf
  have a2 := cntB_mono (q := q) (q' := q') (p := n) 33 fun f hf => h n f (by omega) hf
  unfold cntP
  by_cases e : p = n
  ·subst e
   have := cntB_more (q := q) (q' := q') (p := p) 33 (fun f hf => h p f (by omega) hf) ⟨f, hf, h1, h2⟩
   omega
  ·have := cntP_more (q := q) (q' := q') n (fun p f hp hf => h p f (by omega) hf) ⟨p, f, by omega, hf, h1, h2⟩
   omega
theorem up_cnt {q q' t : Int} {Y : Int → Prop} (h : UpQ q q' t Y) (n : Nat) : cntP q n ≤ cntP q' n := cntP_mono n fun p f _ hf hb => qXv h (by omega) (by omega) (by omega) hb
theorem up_more {q q' t : Int} {Y : Int → Prop} (h : UpQ q q' t Y) {n : Nat} (t0 : 0 ≤ t) (t1 : t < n) (hd : ∃ f : Int, 0 ≤ f ∧ f < 33 ∧ ¬ (bT q' t f ↔ bT q t f)) : cntP q n < cntP q' n := by
 obtain ⟨f, f0, f1, hf⟩ := hd
 refine cntP_more n (fun p f _ hf hb => qXv h (by omega) (by omega) (by omega) hb) ⟨t.toNat, f.toNat, by omega, by omega, ?_⟩
 rw [show ((t.toNat : Nat) : Int) = t by omega, show ((f.toNat : Nat) : Int) = f by omega]
 by_cases e : bT q t f
 ·exact absurd ⟨fun _ => e, fun _ => qXv h t0 f0 f1 e⟩ hf
 ·refine ⟨e, Classical.byContradiction fun g => hf ⟨fun k => absurd k g, fun k => absurd k e⟩⟩
section
variable {w nc nr cS : Int}
structure Below (w nc nr cS q : Int) : Prop where
 re : ∀ p, 0 ≤ p → p < nc → bT q p 0 → (qQd w nc nr cS).re p
 se : ∀ p r, 0 ≤ p → p < nc → 0 ≤ r → r < 32 → bT q p (1 + r) → (qQd w nc nr cS).se p r
def qKv (w nc nr cS q p : Int) : Prop := bT q p 0 → decZ (IntKind.wrap .u32 (rdZ w p)) 5 = 0 → ∀ t,
 nxtP nr (decZ (IntKind.wrap .u32 (rdZ w p)) 0) (decZ (IntKind.wrap .u32 (rdZ w p)) 2) (decZ (IntKind.wrap .u32 (rdZ w p)) 4) p t → 0 ≤ t → t < nc → bT q t 0 ∧ ∀ r, 0 ≤ r → r < 32 →
 behS nr cS (decZ (IntKind.wrap .u32 (rdZ w p)) 0) (decZ (IntKind.wrap .u32 (rdZ w p)) 1) (decZ (IntKind.wrap .u32 (rdZ w p)) 2) (decZ (IntKind.wrap .u32 (rdZ w p)) 3) (decZ (IntKind.wrap .u32 (rdZ w p)) 4) (fun r => bT q p (1 + r)) r → bT q t (1 + r)
theorem putQ_32 {S S' : Int → Prop} {d : Int} {p p' : Prop} (hs : ∀ r, 0 ≤ r → r < 32 → S r → S' r) (hp : p → p') {r : Int} (r0 : 0 ≤ r) (r1 : r < 32) : putQ S d p r → putQ S' d p' r := by
 rintro (⟨h1, h2, h3⟩ | ⟨h1, h2⟩)
 ·exact .inl ⟨h1, hp h2, h3⟩
 ·exact .inr ⟨h1, hs r r0 r1 h2⟩
theorem behS_32 {op d a b n : Int} {S S' : Int → Prop} (a0 : 0 ≤ a) (a1 : a < 32) (b0 : 0 ≤ b) (b1 : b < 32) (hs : ∀ r, 0 ≤ r → r < 32 → S r → S' r) {r : Int} (r0 : 0 ≤ r) (r1 : r < 32) : behS nr cS op d a b n S r → behS nr cS op d a b n S' r := by
 have hd : dsec nr cS op a b n S → dsec nr cS op a b n S' := by
  rintro (⟨h1, h2⟩ | ⟨h1, h2⟩ | h | h)
  ·exact .inl ⟨h1, h2.imp (hs a a0 a1) fun k => ⟨k.1, hs b b0 b1 k.2⟩⟩
  ·exact .inr (.inl ⟨h1, hs a a0 a1 h2⟩)
  ·exact .inr (.inr (.inl h))
  ·exact .inr (.inr (.inr h))
 rintro (⟨h1, h2⟩ | ⟨h1, h2⟩)
 ·exact .inl ⟨h1, putQ_32 hs hd r0 r1 h2⟩
 ·exact .inr ⟨h1, hs r r0 r1 h2⟩
theorem below_up {q q' p t : Int} {Y : Int → Prop} (hb : Below w nc nr cS q) (p0 : 0 ≤ p) (p1 : p < nc) {qs : Int} (hqs : Below w nc nr cS qs) (hr : bT qs p 0) (h5 : decZ (IntKind.wrap .u32 (rdZ w p)) 5 = 0)
  (hn : nxtP nr (decZ (IntKind.wrap .u32 (rdZ w p)) 0) (decZ (IntKind.wrap .u32 (rdZ w p)) 2) (decZ (IntKind.wrap .u32 (rdZ w p)) 4) p t) (t0 : 0 ≤ t) (t1 : t < nc) (hu : UpQ q q' t Y)
  (hY : ∀ r, 0 ≤ r → r < 32 → Y r → behS nr cS (decZ (IntKind.wrap .u32 (rdZ w p)) 0) (decZ (IntKind.wrap .u32 (rdZ w p)) 1) (decZ (IntKind.wrap .u32 (rdZ w p)) 2) (decZ (IntKind.wrap .u32 (rdZ w p)) 3) (decZ (IntKind.wrap .u32 (rdZ w p)) 4) (fun r => bT qs p (1 + r)) r) : Below w nc nr cS q' := by
 have hc := qXy (w := w) (nc := nc) (nr := nr) (cS := cS)
 have hx := hc.next p t p0 p1 (hqs.re p p0 p1 hr) h5 hn t0 t1
 obtain ⟨_, _, ⟨a0, a1⟩, ⟨b0, b1⟩, _⟩ := dec_in (rdZ w p) h5
 refine ⟨fun x x0 x1 hx' => ?_, fun x r x0 x1 r0 r1 hx' => ?_⟩
 ·by_cases e : x = t
  ·subst e; exact hx.1
  ·exact hb.re x x0 x1 ((hu.oth x 0 x0 e (by decide) (by decide)).1 hx')
 ·by_cases e : x = t
  ·subst e
   rcases (hu.se r r0 r1).1 hx' with k | k
   ·exact hb.se x r x0 x1 r0 r1 k
   ·exact hx.2 r r0 r1 (behS_32 a0 a1 b0 b1 (fun s s0 s1 hs => hqs.se p s p0 p1 s0 s1 hs) r0 r1 (hY r r0 r1 k))
  ·exact hb.se x r x0 x1 r0 r1 ((hu.oth x (1 + r) x0 e (by omega) (by omega)).1 hx')
theorem lev_is {q : Int} (hb : Below w nc nr cS q) (h0 : 0 < nc → bT q 0 0) (hc : ∀ p, 0 ≤ p → p < nc → qKv w nc nr cS q p) : ClosedL w nc nr cS (lvOf q) :=
 ⟨h0, fun p t p0 p1 hr h5 hn t0 t1 => hc p p0 p1 hr h5 t hn t0 t1⟩
open Classical in
theorem lvF_at (L : Lv) : ∀ (n k : Nat), k < n → rdZ (lvF L n) k = lvRow L k
 | 0, k, h => by omega
 | n + 1, k, h => by
  rw [lvF, qQh, Int.toNat_natCast, Int.toNat_natCast]
  by_cases e : k = n
  ·rw [if_pos e, e]
  ·rw [if_neg e]; exact lvF_at L n k (by omega)
open Classical in
theorem lvRow_rd (L : Lv) (p : Int) : rdZ (lvRow L p) 0 = (if L.re p then 1 else 0) ∧ ∀ r : Int, 0 ≤ r → r < 32 → rdZ (lvRow L p) (1 + r) = if L.se p r then 1 else 0 := by
 unfold lvRow
 refine ⟨qQy _ _, fun r r0 r1 => ?_⟩
 obtain ⟨k, rfl⟩ : ∃ k : Nat, r = k := ⟨r.toNat, by omega⟩
 rw [qZx _ _ (by omega), show 1 + (k : Int) - 1 = k by omega, rdZ_LZ, List.getD_eq_getElem?_getD, List.getElem?_map, List.getElem?_range (by omega)]
 simp only [Option.map_some, Option.getD_some, Int.toNat_natCast]
theorem lev_row {q : Int} (hn : 0 ≤ nc) (hb : Below w nc nr cS q) (h0 : 0 < nc → bT q 0 0) (hc : ∀ p, 0 ≤ p → p < nc → qKv w nc nr cS q p) {cks : List CK} (hk : cks = List.replicate 33 .bool) : qQf cks q (levZ w nc (qQq nr (qQq cS 0))) nc := by
 have hL := lev_is hb h0 hc
 have e : levZ w nc (qQq nr (qQq cS 0)) = lvF (qQd w nc nr cS) nc.toNat := by
  have h := qXp [nr, cS]
  have h0 : rdZ (qQq nr (qQq cS 0)) 0 = nr := h 0
  have h1 : rdZ (qQq nr (qQq cS 0)) 1 = cS := h 1
  unfold levZ; rw [h0, h1]
 rw [e]
 intro i hi
 rw [lvF_at _ _ i (by omega)]
 obtain ⟨g0, g1⟩ := lvRow_rd (qQd w nc nr cS) i
 have ev : ∀ x, qQa cks x = qXc x 0 cks := fun x => by subst hk; rfl
 rw [ev, ev]
 refine List.ext_getElem? fun f => ?_
 rw [qZt, qZt]
 subst hk
 rw [List.getElem?_replicate]
 split
 ·rename_i hf
  simp only [Option.map_some, Option.some.injEq, ckV, Nat.zero_add, Value.bool.injEq]
  have key : (rdZ (rdZ q i) f ≠ 0) ↔ (rdZ (lvRow (qQd w nc nr cS) i) f ≠ 0) := by
   by_cases ef : f = 0
   ·subst ef
    rw [show ((0 : Nat) : Int) = 0 from rfl, g0]
    constructor
    ·intro h; rw [if_pos (hb.re i (by omega) hi h)]; decide
    ·intro h
     have : (qQd w nc nr cS).re i := Classical.byContradiction fun k => h (if_neg k)
     exact least_re hL this
   ·have hfr : (f : Int) = 1 + ((f - 1 : Nat) : Int) := by omega
    rw [hfr, g1 _ (by omega) (by omega)]
    constructor
    ·intro h; rw [if_pos (hb.se i _ (by omega) hi (by omega) (by omega) h)]; decide
    ·intro h
     have : (qQd w nc nr cS).se i ((f - 1 : Nat) : Int) := Classical.byContradiction fun k => h (if_neg k)
     exact least_se hL this
  rcases Classical.em (rdZ (rdZ q i) f = 0) with k | k
  ·have : rdZ (lvRow (qQd w nc nr cS) i) f = 0 := Classical.byContradiction fun g => (key.2 g) k
   rw [k, this]
  ·have : rdZ (lvRow (qQd w nc nr cS) i) f ≠ 0 := key.1 k
   have k1 : (rdZ (rdZ q i) f != 0) = true := by simpa using k
   have k2 : (rdZ (lvRow (qQd w nc nr cS) i) f != 0) = true := by simpa using this
   rw [k1, k2]
 ·rfl
end
end Go.Eng
end
/-!  -/
noncomputable section
namespace Go.Eng
section
variable {w nc nr cS : Int}
theorem same_refl (q : Int) : SameQ nc q q := fun _ _ _ _ _ _ => Iff.rfl
theorem same_trans {a b c : Int} (h : SameQ nc a b) (g : SameQ nc b c) : SameQ nc a c := fun p f p0 p1 f0 f1 => (g p f p0 p1 f0 f1).trans (h p f p0 p1 f0 f1)
theorem closed_same {q q' p : Int} (p0 : 0 ≤ p) (p1 : p < nc) (hs : SameQ nc q q') (hc : qKv w nc nr cS q p) : qKv w nc nr cS q' p := by
 intro hr h5 t hn t0 t1
 obtain ⟨_, _, ⟨a0, a1⟩, ⟨b0, b1⟩, _⟩ := dec_in (rdZ w p) h5
 obtain ⟨h1, h2⟩ := hc ((hs p 0 p0 p1 (by decide) (by decide)).1 hr) h5 t hn t0 t1
 refine ⟨(hs t 0 t0 t1 (by decide) (by decide)).2 h1, fun r r0 r1 hb => (hs t (1 + r) t0 t1 (by omega) (by omega)).2 (h2 r r0 r1 ?_)⟩
 exact behS_32 a0 a1 b0 b1 (fun s s0 s1 k => (hs p (1 + s) p0 p1 (by omega) (by omega)).1 k) r0 r1 hb
structure SwP (w nc nr cS q0 q ch p : Int) : Prop where
 be : Below w nc nr cS q
 st : 0 < nc → bT q 0 0
 le : cntP q0 nc.toNat ≤ cntP q nc.toNat
 lt : ch ≠ 0 → cntP q0 nc.toNat < cntP q nc.toNat
 cl : ch = 0 → SameQ nc q0 q ∧ ∀ x, 0 ≤ x → x < p → x < nc → qKv w nc nr cS q x
theorem sw_start {q : Int} (hb : Below w nc nr cS q) (hs : 0 < nc → bT q 0 0) : SwP w nc nr cS q q 0 0 := ⟨hb, hs, Nat.le_refl _, fun h => absurd rfl h, fun _ => ⟨same_refl q, fun x x0 x1 => by omega⟩⟩
theorem sw_skip {q0 q ch p : Int} (h : SwP w nc nr cS q0 q ch p) (hp : ¬ (bT q p 0 ∧ decZ (IntKind.wrap .u32 (rdZ w p)) 5 = 0)) : SwP w nc nr cS q0 q ch (p + 1) := by
 refine ⟨h.be, h.st, h.le, h.lt, fun e => ⟨(h.cl e).1, fun x x0 x1 x2 => ?_⟩⟩
 by_cases g : x = p
 ·subst g; exact fun hr h5 => absurd ⟨hr, h5⟩ hp
 ·exact (h.cl e).2 x x0 (by omega) x2
structure SwK (w nc nr cS q0 qp p : Int) (Y : Int → Prop) (T : Int → Int) (q ch j : Int) : Prop where
 sp : SwP w nc nr cS q0 q ch p
 sq : ch = 0 → SameQ nc q0 qp
 dn : ch = 0 → ∀ i, 0 ≤ i → i < j → 0 ≤ T i → T i < nc → bT q (T i) 0 ∧ ∀ r, 0 ≤ r → r < 32 → Y r → bT q (T i) (1 + r)
variable {q0 qp q ch p j : Int} {Y : Int → Prop} {T : Int → Int}
theorem sk_start (h : SwP w nc nr cS q0 qp ch p) : SwK w nc nr cS q0 qp p Y T qp ch 0 := ⟨h, fun e => (h.cl e).1, fun _ i i0 i1 => by omega⟩
theorem sk_skip (h : SwK w nc nr cS q0 qp p Y T q ch j) (ht : ¬ T j < nc) : SwK w nc nr cS q0 qp p Y T q ch (j + 1) := by
 refine ⟨h.sp, h.sq, fun e i i0 i1 ig it => ?_⟩
 by_cases g : i = j
 ·subst g; exact absurd it ht
 ·exact h.dn e i i0 (by omega) ig it
theorem sk_up (h : SwK w nc nr cS q0 qp p Y T q ch j) (p0 : 0 ≤ p) (p1 : p < nc) (hqp : Below w nc nr cS qp) (hr : bT qp p 0) (h5 : decZ (IntKind.wrap .u32 (rdZ w p)) 5 = 0)
  (hn : nxtP nr (decZ (IntKind.wrap .u32 (rdZ w p)) 0) (decZ (IntKind.wrap .u32 (rdZ w p)) 2) (decZ (IntKind.wrap .u32 (rdZ w p)) 4) p (T j)) (t0 : 0 ≤ T j) (t1 : T j < nc) {q' ch' : Int} (hu : UpQ q q' (T j) Y)
  (hY : ∀ r, 0 ≤ r → r < 32 → Y r → behS nr cS (decZ (IntKind.wrap .u32 (rdZ w p)) 0) (decZ (IntKind.wrap .u32 (rdZ w p)) 1) (decZ (IntKind.wrap .u32 (rdZ w p)) 2) (decZ (IntKind.wrap .u32 (rdZ w p)) 3) (decZ (IntKind.wrap .u32 (rdZ w p)) 4) (fun r => bT qp p (1 + r)) r)
  (hch : ch' = 0 ↔ ch = 0 ∧ ∀ f, 0 ≤ f → f < 33 → (bT q' (T j) f ↔ bT q (T j) f)) : SwK w nc nr cS q0 qp p Y T q' ch' (j + 1) := by
 have hsame : ch' = 0 → SameQ nc q q' := fun e x f x0 x1 f0 f1 => by
  by_cases g : x = T j
  ·subst g; exact (hch.1 e).2 f f0 f1
  ·exact hu.oth x f x0 g f0 f1
 have hle := up_cnt hu nc.toNat
 refine ⟨⟨below_up h.sp.be p0 p1 hqp hr h5 hn t0 t1 hu hY, fun n0 => qXv hu (by decide) (by decide) (by decide) (h.sp.st n0), Nat.le_trans h.sp.le hle, fun e => ?_, fun e => ?_⟩, fun e => h.sq (hch.1 e).1, fun e i i0 i1 k it => ?_⟩
 ·by_cases g : ch = 0
  ·have hd : ∃ f : Int, 0 ≤ f ∧ f < 33 ∧ ¬ (bT q' (T j) f ↔ bT q (T j) f) := Classical.byContradiction fun k => e (hch.2 ⟨g, fun f f0 f1 => Classical.byContradiction fun kk => k ⟨f, f0, f1, kk⟩⟩)
   have := up_more hu (n := nc.toNat) t0 (by omega) hd
   have := h.sp.le
   omega
  ·have := h.sp.lt g; omega
 ·have hs := hsame e
  exact ⟨same_trans (h.sp.cl (hch.1 e).1).1 hs, fun x x0 x1 x2 => closed_same x0 x2 hs ((h.sp.cl (hch.1 e).1).2 x x0 x1 x2)⟩
 ·by_cases g : i = j
  ·subst g; exact ⟨hu.re, fun r r0 r1 k => (hu.se r r0 r1).2 (.inr k)⟩
  ·obtain ⟨h1, h2⟩ := h.dn (hch.1 e).1 i i0 (by omega) k it
   exact ⟨qXv hu k (by decide) (by decide) h1, fun r r0 r1 y => qXv hu k (by omega) (by omega) (h2 r r0 r1 y)⟩
theorem sk_end {n : Int} (h : SwK w nc nr cS q0 qp p Y T q ch n) (h5 : decZ (IntKind.wrap .u32 (rdZ w p)) 5 = 0) (p0 : 0 ≤ p) (p1 : p < nc)
  (hall : ∀ t, nxtP nr (decZ (IntKind.wrap .u32 (rdZ w p)) 0) (decZ (IntKind.wrap .u32 (rdZ w p)) 2) (decZ (IntKind.wrap .u32 (rdZ w p)) 4) p t → ∃ i, 0 ≤ i ∧ i < n ∧ T i = t)
  (hY : ∀ r, 0 ≤ r → r < 32 → behS nr cS (decZ (IntKind.wrap .u32 (rdZ w p)) 0) (decZ (IntKind.wrap .u32 (rdZ w p)) 1) (decZ (IntKind.wrap .u32 (rdZ w p)) 2) (decZ (IntKind.wrap .u32 (rdZ w p)) 3) (decZ (IntKind.wrap .u32 (rdZ w p)) 4) (fun r => bT qp p (1 + r)) r → Y r) : SwP w nc nr cS q0 q ch (p + 1) := by
 refine ⟨h.sp.be, h.sp.st, h.sp.le, h.sp.lt, fun e => ⟨(h.sp.cl e).1, fun x x0 x1 x2 => ?_⟩⟩
 by_cases g : x = p
 ·subst g
  intro hr h5 t hn t0 t1
  obtain ⟨i, i0, i1, rfl⟩ := hall t hn
  obtain ⟨g1, g2⟩ := h.dn e i i0 i1 t0 t1
  obtain ⟨_, _, ⟨a0, a1⟩, ⟨b0, b1⟩, _⟩ := dec_in (rdZ w x) h5
  refine ⟨g1, fun r r0 r1 hb => g2 r r0 r1 (hY r r0 r1 (behS_32 a0 a1 b0 b1 (fun s s0 s1 k => ?_) r0 r1 hb))⟩
  exact (h.sq e x (1 + s) p0 p1 (by omega) (by omega)).2 (((h.sp.cl e).1 x (1 + s) p0 p1 (by omega) (by omega)).1 k)
 ·exact (h.sp.cl e).2 x x0 (by omega) x2
theorem sw_done (h : SwP w nc nr cS q0 q ch p) (hp : nc ≤ p) (hn : 0 ≤ nc) (e : ch = 0) : qQf (List.replicate 33 .bool) q (levZ w nc (qQq nr (qQq cS 0))) nc :=
 lev_row hn h.be h.st (fun x x0 x1 => (h.cl e).2 x x0 (by omega) x1) rfl
end
end Go.Eng
end
/-!  -/
noncomputable section
namespace Go.Eng
theorem bo1 (x k : Int) : qQz (x == k) = if x = k then 1 else 0 := by
 unfold qQz
 by_cases e : x = k
 ·rw [if_pos e]; simp [e]
 ·rw [if_neg e]; simp [e]
theorem bo2 (x k : Int) : qQz (decide (x ≤ k)) = if x ≤ k then 1 else 0 := by
 unfold qQz
 by_cases e : x ≤ k
 ·rw [if_pos e]; simp [e]
 ·rw [if_neg e]; simp [e]
theorem nx_list {nr op a n pc nn R : Int} (p0 : 0 ≤ pc) (p1 : pc ≤ 20000) (n0 : -32768 ≤ n) (n1 : n ≤ 65535)
  (hn : nn = if ¬ qQz (op == 41) + qQz (op == 43) + (qQz (op == 34) + qQz (op == 35)) * qQz (a == 0) * qQz (decide (nr ≤ n)) = 0 then 0 else if ¬ qQz (op == 36) + qQz (op == 37) + qQz (op == 38) = 0 then 2 else 1)
  (hR : R = if ¬ qQz (op == 36) + qQz (op == 37) + qQz (op == 38) = 0 then qQq n (qQq (IntKind.wrap .i64 (pc + 1)) 0) else if ¬ qQz (op == 39) + qQz (op == 40) = 0 then qQq n 0 else qQq (IntKind.wrap .i64 (pc + 1)) 0) :
  (0 ≤ nn ∧ nn ≤ 2) ∧ (∀ j : Int, 0 ≤ j → j < nn → nxtP nr op a n pc (IntKind.wrap .i64 (rdZ R j))) ∧ (∀ t, nxtP nr op a n pc t → ∃ j : Int, 0 ≤ j ∧ j < nn ∧ IntKind.wrap .i64 (rdZ R j) = t) := by
 have hw : IntKind.wrap .i64 (pc + 1) = pc + 1 := w64 (by omega) (by omega)
 have hwn : IntKind.wrap .i64 n = n := w64 (by omega) (by omega)
 rw [hw] at hR
 have rd2 : ∀ x y : Int, rdZ (qQq x (qQq y 0)) 0 = x ∧ rdZ (qQq x (qQq y 0)) 1 = y := fun x y => by have h := qXp [x, y]; exact ⟨h 0, h 1⟩
 have rd1 : ∀ x : Int, rdZ (qQq x 0) 0 = x := fun x => qQy _ _
 have he : qQz (op == 41) + qQz (op == 43) + (qQz (op == 34) + qQz (op == 35)) * qQz (a == 0) * qQz (decide (nr ≤ n)) = 0 ↔ ¬ endsP nr op a n := by
  simp only [bo1, bo2]
  unfold endsP
  by_cases c1 : a = 0
  ·by_cases c2 : nr ≤ n
   ·simp only [if_pos c1, if_pos c2, Int.mul_one]
    (repeat' split) <;> omega
   ·simp only [if_neg c2, Int.mul_zero, Int.add_zero]
    (repeat' split) <;> omega
  ·simp only [if_neg c1, Int.mul_zero, Int.zero_mul, Int.add_zero]
   (repeat' split) <;> omega
 have hb : qQz (op == 36) + qQz (op == 37) + qQz (op == 38) = 0 ↔ ¬ (op = 36 ∨ op = 37 ∨ op = 38) := by
  simp only [bo1]
  (repeat' split) <;> omega
 have hj : qQz (op == 39) + qQz (op == 40) = 0 ↔ ¬ (op = 39 ∨ op = 40) := by
  simp only [bo1]
  (repeat' split) <;> omega
 simp only [hb, Classical.not_not] at hn
 simp only [hb, hj, Classical.not_not] at hR
 by_cases e : endsP nr op a n
 ·rw [if_pos fun k => (he.1 k) e] at hn
  subst hn
  exact ⟨by omega, fun j j0 j1 => by omega, fun t ht => absurd e ht.1⟩
 rw [if_neg fun k => k (he.2 e)] at hn
 by_cases c : op = 36 ∨ op = 37 ∨ op = 38
 ·rw [if_pos c] at hn hR
  subst hn hR
  obtain ⟨r0, r1⟩ := rd2 n (pc + 1)
  refine ⟨by omega, fun j j0 j1 => ?_, fun t ht => ?_⟩
  ·rcases (by omega : j = 0 ∨ j = 1) with rfl | rfl
   ·rw [r0, hwn]; exact ⟨e, .inl ⟨c, .inl rfl⟩⟩
   ·rw [r1, hw]; exact ⟨e, .inl ⟨c, .inr rfl⟩⟩
  ·rcases ht.2 with ⟨_, h | h⟩ | ⟨h, _⟩ | ⟨h, _⟩
   ·exact ⟨0, by omega, by omega, by rw [r0, hwn, h]⟩
   ·exact ⟨1, by omega, by omega, by rw [r1, hw, h]⟩
   ·omega
   ·omega
 rw [if_neg c] at hn hR
 by_cases g : op = 39 ∨ op = 40
 ·rw [if_pos g] at hR
  subst hn hR
  refine ⟨by omega, fun j j0 j1 => ?_, fun t ht => ?_⟩
  ·obtain rfl : j = 0 := by omega
   rw [rd1, hwn]; exact ⟨e, .inr (.inl ⟨g, rfl⟩)⟩
  ·rcases ht.2 with ⟨h, _⟩ | ⟨_, h⟩ | ⟨h, _⟩
   ·omega
   ·exact ⟨0, by omega, by omega, by rw [rd1, hwn, h]⟩
   ·omega
 ·rw [if_neg g] at hR
  subst hn hR
  refine ⟨by omega, fun j j0 j1 => ?_, fun t ht => ?_⟩
  ·obtain rfl : j = 0 := by omega
   rw [rd1, hw]; exact ⟨e, .inr (.inr ⟨by omega, rfl⟩)⟩
  ·rcases ht.2 with ⟨h, _⟩ | ⟨h, _⟩ | ⟨_, h⟩
   ·omega
   ·omega
   ·exact ⟨0, by omega, by omega, by rw [rd1, hw, h]⟩
structure UpS (q q' t : Int) (V : Int → Prop) (k : Int) : Prop where
 oth : ∀ p f, 0 ≤ p → p ≠ t → 0 ≤ f → f < 33 → (bT q' p f ↔ bT q p f)
 re : bT q' t 0
 lo : ∀ r, 0 ≤ r → r < k → (bT q' t (1 + r) ↔ V r)
 hi : ∀ r, k ≤ r → r < 32 → (bT q' t (1 + r) ↔ bT q t (1 + r))
theorem bT_upd {q t x p f : Int} : bT (updZ q t x) p f ↔ if p.toNat = t.toNat then rdZ x f ≠ 0 else bT q p f := by
 unfold bT
 rw [qQh]
 by_cases e : p.toNat = t.toNat
 ·rw [if_pos e, if_pos e]
 ·rw [if_neg e, if_neg e]
theorem ups_start {q t v : Int} {V : Int → Prop} (t0 : 0 ≤ t) (hv : v ≠ 0) : UpS q (updZ q t (updZ (rdZ q t) 0 v)) t V 0 := by
 refine ⟨fun p f p0 hp f0 f1 => ?_, ?_, fun r r0 r1 => by omega, fun r r0 r1 => ?_⟩
 ·rw [bT_upd, if_neg (by omega)]
 ·rw [bT_upd, if_pos rfl, qQh, if_pos rfl]; exact hv
 ·rw [bT_upd, if_pos rfl, qQh, if_neg (by omega)]; exact Iff.rfl
theorem ups_step {q q' t v k : Int} {V : Int → Prop} (h : UpS q q' t V k) (t0 : 0 ≤ t) (k0 : 0 ≤ k) (hv : v ≠ 0 ↔ V k) : UpS q (updZ q' t (updZ (rdZ q' t) (1 + k) v)) t V (k + 1) := by
 refine ⟨fun p f p0 hp f0 f1 => ?_, ?_, fun r r0 r1 => ?_, fun r r0 r1 => ?_⟩
 ·rw [bT_upd, if_neg (by omega)]; exact h.oth p f p0 hp f0 f1
 ·rw [bT_upd, if_pos rfl, qQh, if_neg (by omega)]; exact h.re
 ·rw [bT_upd, if_pos rfl, qQh]
  by_cases e : r = k
  ·subst e; rw [if_pos rfl]; exact hv
  ·rw [if_neg (by omega)]; exact h.lo r r0 (by omega)
 ·rw [bT_upd, if_pos rfl, qQh, if_neg (by omega)]; exact h.hi r (by omega) r1
theorem ups_end {q q' t : Int} {V Y : Int → Prop} (h : UpS q q' t V 32) (hv : ∀ r, 0 ≤ r → r < 32 → (V r ↔ bT q t (1 + r) ∨ Y r)) : UpQ q q' t Y :=
 ⟨h.oth, h.re, fun r r0 r1 => (h.lo r r0 r1).trans (hv r r0 r1)⟩
end Go.Eng
end
