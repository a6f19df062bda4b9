/-
  Parts of the engine, a program's symbolic run, proved sound; and of plain laws.
-/
import Derived.Test.YteimodjkllldladGmY
set_option linter.unusedVariables false
set_option linter.unusedSimpArgs false

/-!  -/
noncomputable section
namespace Go.Eng
def bT (q p f : Int) : Prop := rdZ (rdZ q p) f ≠ 0
def lvOf (q : Int) : Lv := ⟨fun p => bT q p 0, fun p r => bT q p (1 + r)⟩
structure UpQ (q q' t : Int) (Y : Int → Prop) : Prop where
 oth : ∀ p f, 0 ≤ p → p ≠ t → 0 ≤ f → f < 33 → (bT q' p f ↔ bT q p f)
 re : bT q' t 0
 se : ∀ r, 0 ≤ r → r < 32 → (bT q' t (1 + r) ↔ bT q t (1 + r) ∨ Y r)
theorem up_mono {q q' t : Int} {Y : Int → Prop} (h : UpQ q q' t Y) {p f : Int} (p0 : 0 ≤ p) (f0 : 0 ≤ f) (f1 : f < 33) (hb : bT q p f) : bT q' p f := by
 by_cases e : p = t
 ·subst e
  by_cases g : f = 0
  ·subst g; exact h.re
  ·have := (h.se (f - 1) (by omega) (by omega)).2 (.inl (by rwa [show 1 + (f - 1) = f by omega]))
   rwa [show 1 + (f - 1) = f by omega] at this
 ·exact (h.oth p f p0 e f0 f1).2 hb
open Classical in
def cntB (q p : Int) : Nat → Nat
 | 0 => 0
 | f + 1 => cntB q p f + (if bT q p f then 1 else 0)
def cntP (q : Int) : Nat → Nat
 | 0 => 0
 | p + 1 => cntP q p + cntB q p 33
theorem cntB_le (q p : Int) : ∀ k, cntB q p k ≤ k
 | 0 => Nat.le_refl _
 | k + 1 => by have := cntB_le q p k; unfold cntB; split <;> omega
theorem cntP_le (q : Int) : ∀ n, cntP q n ≤ 33 * n
 | 0 => Nat.le_refl _
 | n + 1 => by have := cntP_le q n; have := cntB_le q n 33; unfold cntP; omega
theorem cntB_mono {q q' p : Int} : ∀ k : Nat, (∀ f : Nat, f < k → bT q p f → bT q' p f) → cntB q p k ≤ cntB q' p k
 | 0, _ => Nat.le_refl _
 | k + 1, h => by
  have := cntB_mono (q := q) (q' := q') (p := p) k fun f hf => h f (by omega)
  unfold cntB
  by_cases e : bT q p k
  ·rw [if_pos e, if_pos (h k (by omega) e)]; omega
  ·rw [if_neg e]; omega
theorem cntB_more {q q' p : Int} : ∀ k : Nat, (∀ f : Nat, f < k → bT q p f → bT q' p f) → (∃ f : Nat, f < k ∧ ¬ bT q p f ∧ bT q' p f) → cntB q p k < cntB q' p k
 | 0, _, ⟨_, h, _⟩ => by omega
 | k + 1, h, ⟨f, hf, h1, h2⟩ => by
  have hm := cntB_mono (q := q) (q' := q') (p := p) k fun f hf => h f (by omega)
  unfold cntB
  by_cases e : f = k
  ·subst e
   rw [if_neg h1, if_pos h2]; omega
  ·have := cntB_more (q := q) (q' := q') (p := p) k (fun f hf => h f (by omega)) ⟨f, by omega, h1, h2⟩
   by_cases e : bT q p k
   ·rw [if_pos e, if_pos (h k (by omega) e)]; omega
   ·rw [if_neg e]; omega
theorem cntP_mono {q q' : Int} : ∀ n : Nat, (∀ p f : Nat, p < n → f < 33 → bT q p f → bT q' p f) → cntP q n ≤ cntP q' n
 | 0, _ => Nat.le_refl _
 | n + 1, h => by
  have h1 := cntP_mono (q := q) (q' := q') n fun p f hp hf => h p f (by omega) hf
  have h2 := cntB_mono (q := q) (q' := q') (p := n) 33 fun f hf => h n f (by omega) hf
  unfold cntP; omega
theorem cntP_more {q q' : Int} : ∀ n : Nat, (∀ p f : Nat, p < n → f < 33 → bT q p f → bT q' p f) → (∃ p f : Nat, p < n ∧ f < 33 ∧ ¬ bT q p f ∧ bT q' p f) → cntP q n < cntP q' n
 | 0, _, ⟨_, _, h, _⟩ => by omega
 | n + 1, h, ⟨p, f, hp, hf, h1, h2⟩ => by
  have a1 := cntP_mono (q := q) (q' := q') n fun p f hp hf => h p f (by omega) hf
  have a2 := cntB_mono (q := q) (q' := q') (p := n) 33 fun f hf => h n f (by omega) hf
  unfold cntP
  by_cases e : p = n
  ·subst e
   have := cntB_more (q := q) (q' := q') (p := p) 33 (fun f hf => h p f (by omega) hf) ⟨f, hf, h1, h2⟩
   omega
  ·have := cntP_more (q := q) (q' := q') n (fun p f hp hf => h p f (by omega) hf) ⟨p, f, by omega, hf, h1, h2⟩
   omega
theorem up_more {q q' t : Int} {Y : Int → Prop} (h : UpQ q q' t Y) {n : Nat} (t0 : 0 ≤ t) (t1 : t < n) (hd : ∃ f : Int, 0 ≤ f ∧ f < 33 ∧ ¬ (bT q' t f ↔ bT q t f)) : cntP q n < cntP q' n := by
 obtain ⟨f, f0, f1, hf⟩ := hd
 refine cntP_more n (fun p f _ hf hb => up_mono h (by omega) (by omega) (by omega) hb) ⟨t.toNat, f.toNat, by omega, by omega, ?_⟩
 rw [show ((t.toNat : Nat) : Int) = t by omega, show ((f.toNat : Nat) : Int) = f by omega]
 by_cases e : bT q t f
 ·exact absurd ⟨fun _ => e, fun _ => up_mono h t0 f0 f1 e⟩ hf
 ·refine ⟨e, Classical.byContradiction fun g => hf ⟨fun k => absurd k g, fun k => absurd k e⟩⟩
section
variable {w nc nr cS : Int}
structure Below (w nc nr cS q : Int) : Prop where
 re : ∀ p, 0 ≤ p → p < nc → bT q p 0 → (qZc w nc nr cS).re p
 se : ∀ p r, 0 ≤ p → p < nc → 0 ≤ r → r < 32 → bT q p (1 + r) → (qZc w nc nr cS).se p r
def ClosedAt (w nc nr cS q p : Int) : Prop := bT q p 0 → decZ (IntKind.wrap .u32 (rdZ w p)) 5 = 0 → ∀ t,
 nxtP nr (decZ (IntKind.wrap .u32 (rdZ w p)) 0) (decZ (IntKind.wrap .u32 (rdZ w p)) 2) (decZ (IntKind.wrap .u32 (rdZ w p)) 4) p t → 0 ≤ t → t < nc → bT q t 0 ∧ ∀ r, 0 ≤ r → r < 32 →
 behS nr cS (decZ (IntKind.wrap .u32 (rdZ w p)) 0) (decZ (IntKind.wrap .u32 (rdZ w p)) 1) (decZ (IntKind.wrap .u32 (rdZ w p)) 2) (decZ (IntKind.wrap .u32 (rdZ w p)) 3) (decZ (IntKind.wrap .u32 (rdZ w p)) 4) (fun r => bT q p (1 + r)) r → bT q t (1 + r)
theorem putQ_32 {S S' : Int → Prop} {d : Int} {p p' : Prop} (hs : ∀ r, 0 ≤ r → r < 32 → S r → S' r) (hp : p → p') {r : Int} (r0 : 0 ≤ r) (r1 : r < 32) : putQ S d p r → putQ S' d p' r := by
 rintro (⟨h1, h2, h3⟩ | ⟨h1, h2⟩)
 ·exact .inl ⟨h1, hp h2, h3⟩
 ·exact .inr ⟨h1, hs r r0 r1 h2⟩
theorem behS_32 {op d a b n : Int} {S S' : Int → Prop} (a0 : 0 ≤ a) (a1 : a < 32) (b0 : 0 ≤ b) (b1 : b < 32) (hs : ∀ r, 0 ≤ r → r < 32 → S r → S' r) {r : Int} (r0 : 0 ≤ r) (r1 : r < 32) : behS nr cS op d a b n S r → behS nr cS op d a b n S' r := by
 have hd : dsec nr cS op a b n S → dsec nr cS op a b n S' := by
  rintro (⟨h1, h2⟩ | ⟨h1, h2⟩ | h | h)
  ·exact .inl ⟨h1, h2.imp (hs a a0 a1) fun k => ⟨k.1, hs b b0 b1 k.2⟩⟩
  ·exact .inr (.inl ⟨h1, hs a a0 a1 h2⟩)
  ·exact .inr (.inr (.inl h))
  ·exact .inr (.inr (.inr h))
 rintro (⟨h1, h2⟩ | ⟨h1, h2⟩)
 ·exact .inl ⟨h1, putQ_32 hs hd r0 r1 h2⟩
 ·exact .inr ⟨h1, hs r r0 r1 h2⟩
theorem below_up {q q' p t : Int} {Y : Int → Prop} (hb : Below w nc nr cS q) (p0 : 0 ≤ p) (p1 : p < nc) {qs : Int} (hqs : Below w nc nr cS qs) (hr : bT qs p 0) (h5 : decZ (IntKind.wrap .u32 (rdZ w p)) 5 = 0)
  (hn : nxtP nr (decZ (IntKind.wrap .u32 (rdZ w p)) 0) (decZ (IntKind.wrap .u32 (rdZ w p)) 2) (decZ (IntKind.wrap .u32 (rdZ w p)) 4) p t) (t0 : 0 ≤ t) (t1 : t < nc) (hu : UpQ q q' t Y)
  (hY : ∀ r, 0 ≤ r → r < 32 → Y r → behS nr cS (decZ (IntKind.wrap .u32 (rdZ w p)) 0) (decZ (IntKind.wrap .u32 (rdZ w p)) 1) (decZ (IntKind.wrap .u32 (rdZ w p)) 2) (decZ (IntKind.wrap .u32 (rdZ w p)) 3) (decZ (IntKind.wrap .u32 (rdZ w p)) 4) (fun r => bT qs p (1 + r)) r) : Below w nc nr cS q' := by
 have hc := qXk (w := w) (nc := nc) (nr := nr) (cS := cS)
 have hx := hc.next p t p0 p1 (hqs.re p p0 p1 hr) h5 hn t0 t1
 obtain ⟨_, _, ⟨a0, a1⟩, ⟨b0, b1⟩, _⟩ := dec_in (rdZ w p) h5
 refine ⟨fun x x0 x1 hx' => ?_, fun x r x0 x1 r0 r1 hx' => ?_⟩
 ·by_cases e : x = t
  ·subst e; exact hx.1
  ·exact hb.re x x0 x1 ((hu.oth x 0 x0 e (by decide) (by decide)).1 hx')
 ·by_cases e : x = t
  ·subst e
   rcases (hu.se r r0 r1).1 hx' with k | k
   ·exact hb.se x r x0 x1 r0 r1 k
   ·exact hx.2 r r0 r1 (behS_32 a0 a1 b0 b1 (fun s s0 s1 hs => hqs.se p s p0 p1 s0 s1 hs) r0 r1 (hY r r0 r1 k))
  ·exact hb.se x r x0 x1 r0 r1 ((hu.oth x (1 + r) x0 e (by omega) (by omega)).1 hx')
theorem lev_is {q : Int} (hb : Below w nc nr cS q) (h0 : 0 < nc → bT q 0 0) (hc : ∀ p, 0 ≤ p → p < nc → ClosedAt w nc nr cS q p) : ClosedL w nc nr cS (lvOf q) :=
 ⟨h0, fun p t p0 p1 hr h5 hn t0 t1 => hc p p0 p1 hr h5 t hn t0 t1⟩
open Classical in
theorem lvF_at (L : Lv) : ∀ (n k : Nat), k < n → rdZ (lvF L n) k = lvRow L k
 | 0, k, h => by omega
 | n + 1, k, h => by
  rw [lvF, qQr, Int.toNat_natCast, Int.toNat_natCast]
  by_cases e : k = n
  ·rw [if_pos e, e]
  ·rw [if_neg e]; exact lvF_at L n k (by omega)
open Classical in
theorem lvRow_rd (L : Lv) (p : Int) : rdZ (lvRow L p) 0 = (if L.re p then 1 else 0) ∧ ∀ r : Int, 0 ≤ r → r < 32 → rdZ (lvRow L p) (1 + r) = if L.se p r then 1 else 0 := by
 unfold lvRow
 refine ⟨qQa _ _, fun r r0 r1 => ?_⟩
 obtain ⟨k, rfl⟩ : ∃ k : Nat, r = k := ⟨r.toNat, by omega⟩
 rw [qZz _ _ (by omega), show 1 + (k : Int) - 1 = k by omega, rdZ_LZ, List.getD_eq_getElem?_getD, List.getElem?_map, List.getElem?_range (by omega)]
 simp only [Option.map_some, Option.getD_some, Int.toNat_natCast]
end
end Go.Eng
end
