/-
  Parts of the engine, a program's symbolic run, proved sound; and of plain laws.
-/
import Derived.Test.YteimodjkllldlafGreatDoorGp3
set_option linter.unusedVariables false
set_option linter.unusedSimpArgs false
/-!  -/
noncomputable section
namespace Go.Eng
theorem putQ_mono {S S' : Int → Prop} {d : Int} {p p' : Prop} (hs : ∀ r, S r → S' r) (hp : p → p') (r : Int) : putQ S d p r → putQ S' d p' r := by
 rintro (⟨h1, h2, h3⟩ | ⟨h1, h2⟩)
 ·exact .inl ⟨h1, hp h2, h3⟩
 ·exact .inr ⟨h1, hs r h2⟩
theorem dsec_mono {nr cS op a b n : Int} {S S' : Int → Prop} (hs : ∀ r, S r → S' r) : dsec nr cS op a b n S → dsec nr cS op a b n S' := by
 rintro (⟨h1, h2⟩ | ⟨h1, h2⟩ | h | h)
 ·exact .inl ⟨h1, h2.imp (hs a) fun k => ⟨k.1, hs b k.2⟩⟩
 ·exact .inr (.inl ⟨h1, hs a h2⟩)
 ·exact .inr (.inr (.inl h))
 ·exact .inr (.inr (.inr h))
theorem behS_mono {nr cS op d a b n : Int} {S S' : Int → Prop} (hs : ∀ r, S r → S' r) (r : Int) : behS nr cS op d a b n S r → behS nr cS op d a b n S' r := by
 rintro (⟨h1, h2⟩ | ⟨h1, h2⟩)
 ·exact .inl ⟨h1, putQ_mono hs (dsec_mono hs) r h2⟩
 ·exact .inr ⟨h1, hs r h2⟩
section
variable {w nc nr cS : Int}
theorem qJh : ClosedL w nc nr cS (qZy w nc nr cS) := by
 refine ⟨fun h L hL => hL.start h, fun pc t h0 h1 hr h5 hn t0 t1 => ⟨fun L hL => (hL.next pc t h0 h1 (hr L hL) h5 hn t0 t1).1, fun r r0 r1 hb L hL => ?_⟩⟩
 exact (hL.next pc t h0 h1 (hr L hL) h5 hn t0 t1).2 r r0 r1 (behS_mono (fun q hq => hq L hL) r hb)
theorem least_re {L : Lv} (hL : ClosedL w nc nr cS L) {pc : Int} (h : (qZy w nc nr cS).re pc) : L.re pc := h L hL
theorem least_se {L : Lv} (hL : ClosedL w nc nr cS L) {pc r : Int} (h : (qZy w nc nr cS).se pc r) : L.se pc r := h L hL
theorem least_zero (pc : Int) : ¬ (qZy w nc nr cS).se pc 0 := fun h => by
 have hc := qJh (w := w) (nc := nc) (nr := nr) (cS := cS)
 have := h ⟨fun _ => True, fun p r => r ≠ 0⟩ ⟨fun _ => trivial, fun p t _ _ _ _ _ _ _ => ⟨trivial, fun r _ _ hb => ?_⟩⟩
 ·exact this rfl
 ·rcases hb with ⟨_, ⟨h1, _, h3⟩ | ⟨_, h2⟩⟩ | ⟨_, h2⟩
  ·show r ≠ 0; rw [h1]; exact h3
  ·exact h2
  ·exact h2
theorem fpc_ev {cI nI : Int} (x : Int) : (rdZ (qQq x (qQq cS (qQq cI (qQq nI 0)))) 0 = x ∧ rdZ (qQq x (qQq cS (qQq cI (qQq nI 0)))) 1 = cS) ∧ rdZ (qQq x (qQq cS (qQq cI (qQq nI 0)))) 2 = cI ∧ rdZ (qQq x (qQq cS (qQq cI (qQq nI 0)))) 3 = nI := by
 have h := qKy [x, cS, cI, nI]
 exact ⟨⟨h 0, h 1⟩, h 2, h 3⟩
open Classical in
theorem taken_ok {cI nI : Int} (h0 : 0 ≤ nc) (h : fwhZ w nc (qQq nr (qQq cS (qQq cI (qQq nI 0)))) = 0) : FlowOk w nc nr cS (qZy w nc nr cS) ∧ ¬ openIn cS cI nI := by
 obtain ⟨⟨e0, e1⟩, e2, e3⟩ := fpc_ev (cS := cS) (cI := cI) (nI := nI) nr
 unfold fwhZ at h
 rw [e0, e1, e2, e3] at h
 have h1 : ¬ fpcF w nc nr cS cI nI < nc := fun g => by rw [if_pos g] at h; exact absurd h (by decide)
 have h2 : ¬ openIn cS cI nI := fun g => h1 (by unfold fpcF; rw [if_pos g]; omega)
 refine ⟨⟨qJh.start, qJh.next, fun pc p0 p1 hr h5 hw => h1 ?_⟩, h2⟩
 unfold fpcF
 rw [if_neg h2]
 cases hf : (List.range nc.toNat).find? fun (k : Nat) => decide (qJe w nr cS (qZy w nc nr cS) k) with
 | none =>
  exfalso
  have := List.find?_eq_none.1 hf pc.toNat (by rw [List.mem_range]; omega)
  simp only [decide_eq_true_eq] at this
  refine this ?_
  rw [show ((pc.toNat : Nat) : Int) = pc by omega]
  exact ⟨hr, h5, hw⟩
 | some k =>
  have := List.mem_of_find?_eq_some hf
  rw [List.mem_range] at this
  simp only [Option.map_some, Option.getD_some]
  omega
end
end Go.Eng
end
/-!  -/
noncomputable section
namespace Go.Eng
def bT (q p f : Int) : Prop := rdZ (rdZ q p) f ≠ 0
def lvOf (q : Int) : Lv := ⟨fun p => bT q p 0, fun p r => bT q p (1 + r)⟩
structure UpQ (q q' t : Int) (Y : Int → Prop) : Prop where
 oth : ∀ p f, 0 ≤ p → p ≠ t → 0 ≤ f → f < 33 → (bT q' p f ↔ bT q p f)
 re : bT q' t 0
 se : ∀ r, 0 ≤ r → r < 32 → (bT q' t (1 + r) ↔ bT q t (1 + r) ∨ Y r)
theorem up_mono {q q' t : Int} {Y : Int → Prop} (h : UpQ q q' t Y) {p f : Int} (p0 : 0 ≤ p) (f0 : 0 ≤ f) (f1 : f < 33) (hb : bT q p f) : bT q' p f := by
 by_cases e : p = t
 ·subst e
  by_cases g : f = 0
  ·subst g; exact h.re
  ·have := (h.se (f - 1) (by omega) (by omega)).2 (.inl (by rwa [show 1 + (f - 1) = f by omega]))
   rwa [show 1 + (f - 1) = f by omega] at this
 ·exact (h.oth p f p0 e f0 f1).2 hb
open Classical in
def cntB (q p : Int) : Nat → Nat
 | 0 => 0
 | f + 1 => cntB q p f + (if bT q p f then 1 else 0)
def cntP (q : Int) : Nat → Nat
 | 0 => 0
 | p + 1 => cntP q p + cntB q p 33
theorem cntB_le (q p : Int) : ∀ k, cntB q p k ≤ k
 | 0 => Nat.le_refl _
 | k + 1 => by have := cntB_le q p k; unfold cntB; split <;> omega
theorem cntP_le (q : Int) : ∀ n, cntP q n ≤ 33 * n
 | 0 => Nat.le_refl _
 | n + 1 => by have := cntP_le q n; have := cntB_le q n 33; unfold cntP; omega
theorem cntB_mono {q q' p : Int} : ∀ k : Nat, (∀ f : Nat, f < k → bT q p f → bT q' p f) → cntB q p k ≤ cntB q' p k
 | 0, _ => Nat.le_refl _
 | k + 1, h => by
  have := cntB_mono (q := q) (q' := q') (p := p) k fun f hf => h f (by omega)
  unfold cntB
  by_cases e : bT q p k
  ·rw [if_pos e, if_pos (h k (by omega) e)]; omega
  ·rw [if_neg e]; omega
theorem cntB_more {q q' p : Int} : ∀ k : Nat, (∀ f : Nat, f < k → bT q p f → bT q' p f) → (∃ f : Nat, f < k ∧ ¬ bT q p f ∧ bT q' p f) → cntB q p k < cntB q' p k
 | 0, _, ⟨_, h, _⟩ => by omega
 | k + 1, h, ⟨f, hf, h1, h2⟩ => by
  have hm := cntB_mono (q := q) (q' := q') (p := p) k fun f hf => h f (by omega)
  unfold cntB
  by_cases e : f = k
  ·subst e
   rw [if_neg h1, if_pos h2]; omega
  ·have := cntB_more (q := q) (q' := q') (p := p) k (fun f hf => h f (by omega)) ⟨f, by omega, h1, h2⟩
   by_cases e : bT q p k
   ·rw [if_pos e, if_pos (h k (by omega) e)]; omega
   ·rw [if_neg e]; omega
theorem cntP_mono {q q' : Int} : ∀ n : Nat, (∀ p f : Nat, p < n → f < 33 → bT q p f → bT q' p f) → cntP q n ≤ cntP q' n
 | 0, _ => Nat.le_refl _
 | n + 1, h => by
  have h1 := cntP_mono (q := q) (q' := q') n fun p f hp hf => h p f (by omega) hf
  have h2 := cntB_mono (q := q) (q' := q') (p := n) 33 fun f hf => h n f (by omega) hf
  unfold cntP; omega
theorem cntP_more {q q' : Int} : ∀ n : Nat, (∀ p f : Nat, p < n → f < 33 → bT q p f → bT q' p f) → (∃ p f : Nat, p < n ∧ f < 33 ∧ ¬ bT q p f ∧ bT q' p f) → cntP q n < cntP q' n
 | 0, _, ⟨_, _, h, _⟩ => by omega
 | n + 1, h, ⟨p, f, hp, hf, h1, h2⟩ => by
  have a1 := cntP_mono (q := q) (q' := q') n fun p f hp hf => h p f (by omega) hf
  have a2 := cntB_mono (q := q) (q' := q') (p := n) 33 fun f hf => h n f (by omega) hf
  unfold cntP
  by_cases e : p = n
  ·subst e
   have := cntB_more (q := q) (q' := q') (p := p) 33 (fun f hf => h p f (by omega) hf) ⟨f, hf, h1, h2⟩
   omega
  ·have := cntP_more (q := q) (q' := q') n (fun p f hp hf => h p f (by omega) hf) ⟨p, f, by omega, hf, h1, h2⟩
   omega
theorem up_more {q q' t : Int} {Y : Int → Prop} (h : UpQ q q' t Y) {n : Nat} (t0 : 0 ≤ t) (t1 : t < n) (hd : ∃ f : Int, 0 ≤ f ∧ f < 33 ∧ ¬ (bT q' t f ↔ bT q t f)) : cntP q n < cntP q' n := by
 obtain ⟨f, f0, f1, hf⟩ := hd
 refine cntP_more n (fun p f _ hf hb => up_mono h (by omega) (by omega) (by omega) hb) ⟨t.toNat, f.toNat, by omega, by omega, ?_⟩
 rw [show ((t.toNat : Nat) : Int) = t by omega, show ((f.toNat : Nat) : Int) = f by omega]
 by_cases e : bT q t f
 ·exact absurd ⟨fun _ => e, fun _ => up_mono h t0 f0 f1 e⟩ hf
 ·refine ⟨e, Classical.byContradiction fun g => hf ⟨fun k => absurd k g, fun k => absurd k e⟩⟩
section
variable {w nc nr cS : Int}
structure Below (w nc nr cS q : Int) : Prop where
 re : ∀ p, 0 ≤ p → p < nc → bT q p 0 → (qZy w nc nr cS).re p
 se : ∀ p r, 0 ≤ p → p < nc → 0 ≤ r → r < 32 → bT q p (1 + r) → (qZy w nc nr cS).se p r
def ClosedAt (w nc nr cS q p : Int) : Prop := bT q p 0 → decZ (IntKind.wrap .u32 (rdZ w p)) 5 = 0 → ∀ t,
 nxtP nr (decZ (IntKind.wrap .u32 (rdZ w p)) 0) (decZ (IntKind.wrap .u32 (rdZ w p)) 2) (decZ (IntKind.wrap .u32 (rdZ w p)) 4) p t → 0 ≤ t → t < nc → bT q t 0 ∧ ∀ r, 0 ≤ r → r < 32 →
 behS nr cS (decZ (IntKind.wrap .u32 (rdZ w p)) 0) (decZ (IntKind.wrap .u32 (rdZ w p)) 1) (decZ (IntKind.wrap .u32 (rdZ w p)) 2) (decZ (IntKind.wrap .u32 (rdZ w p)) 3) (decZ (IntKind.wrap .u32 (rdZ w p)) 4) (fun r => bT q p (1 + r)) r → bT q t (1 + r)
theorem putQ_32 {S S' : Int → Prop} {d : Int} {p p' : Prop} (hs : ∀ r, 0 ≤ r → r < 32 → S r → S' r) (hp : p → p') {r : Int} (r0 : 0 ≤ r) (r1 : r < 32) : putQ S d p r → putQ S' d p' r := by
 rintro (⟨h1, h2, h3⟩ | ⟨h1, h2⟩)
 ·exact .inl ⟨h1, hp h2, h3⟩
 ·exact .inr ⟨h1, hs r r0 r1 h2⟩
theorem behS_32 {op d a b n : Int} {S S' : Int → Prop} (a0 : 0 ≤ a) (a1 : a < 32) (b0 : 0 ≤ b) (b1 : b < 32) (hs : ∀ r, 0 ≤ r → r < 32 → S r → S' r) {r : Int} (r0 : 0 ≤ r) (r1 : r < 32) : behS nr cS op d a b n S r → behS nr cS op d a b n S' r := by
 have hd : dsec nr cS op a b n S → dsec nr cS op a b n S' := by
  rintro (⟨h1, h2⟩ | ⟨h1, h2⟩ | h | h)
  ·exact .inl ⟨h1, h2.imp (hs a a0 a1) fun k => ⟨k.1, hs b b0 b1 k.2⟩⟩
  ·exact .inr (.inl ⟨h1, hs a a0 a1 h2⟩)
  ·exact .inr (.inr (.inl h))
  ·exact .inr (.inr (.inr h))
 rintro (⟨h1, h2⟩ | ⟨h1, h2⟩)
 ·exact .inl ⟨h1, putQ_32 hs hd r0 r1 h2⟩
 ·exact .inr ⟨h1, hs r r0 r1 h2⟩
theorem below_up {q q' p t : Int} {Y : Int → Prop} (hb : Below w nc nr cS q) (p0 : 0 ≤ p) (p1 : p < nc) {qs : Int} (hqs : Below w nc nr cS qs) (hr : bT qs p 0) (h5 : decZ (IntKind.wrap .u32 (rdZ w p)) 5 = 0)
  (hn : nxtP nr (decZ (IntKind.wrap .u32 (rdZ w p)) 0) (decZ (IntKind.wrap .u32 (rdZ w p)) 2) (decZ (IntKind.wrap .u32 (rdZ w p)) 4) p t) (t0 : 0 ≤ t) (t1 : t < nc) (hu : UpQ q q' t Y)
  (hY : ∀ r, 0 ≤ r → r < 32 → Y r → behS nr cS (decZ (IntKind.wrap .u32 (rdZ w p)) 0) (decZ (IntKind.wrap .u32 (rdZ w p)) 1) (decZ (IntKind.wrap .u32 (rdZ w p)) 2) (decZ (IntKind.wrap .u32 (rdZ w p)) 3) (decZ (IntKind.wrap .u32 (rdZ w p)) 4) (fun r => bT qs p (1 + r)) r) : Below w nc nr cS q' := by
 have hc := qJh (w := w) (nc := nc) (nr := nr) (cS := cS)
 have hx := hc.next p t p0 p1 (hqs.re p p0 p1 hr) h5 hn t0 t1
 obtain ⟨_, _, ⟨a0, a1⟩, ⟨b0, b1⟩, _⟩ := dec_in (rdZ w p) h5
 refine ⟨fun x x0 x1 hx' => ?_, fun x r x0 x1 r0 r1 hx' => ?_⟩
 ·by_cases e : x = t
  ·subst e; exact hx.1
  ·exact hb.re x x0 x1 ((hu.oth x 0 x0 e (by decide) (by decide)).1 hx')
 ·by_cases e : x = t
  ·subst e
   rcases (hu.se r r0 r1).1 hx' with k | k
   ·exact hb.se x r x0 x1 r0 r1 k
   ·exact hx.2 r r0 r1 (behS_32 a0 a1 b0 b1 (fun s s0 s1 hs => hqs.se p s p0 p1 s0 s1 hs) r0 r1 (hY r r0 r1 k))
  ·exact hb.se x r x0 x1 r0 r1 ((hu.oth x (1 + r) x0 e (by omega) (by omega)).1 hx')
theorem lev_is {q : Int} (hb : Below w nc nr cS q) (h0 : 0 < nc → bT q 0 0) (hc : ∀ p, 0 ≤ p → p < nc → ClosedAt w nc nr cS q p) : ClosedL w nc nr cS (lvOf q) :=
 ⟨h0, fun p t p0 p1 hr h5 hn t0 t1 => hc p p0 p1 hr h5 t hn t0 t1⟩
open Classical in
theorem lvF_at (L : Lv) : ∀ (n k : Nat), k < n → rdZ (lvF L n) k = lvRow L k
 | 0, k, h => by omega
 | n + 1, k, h => by
  rw [lvF, qQh, Int.toNat_natCast, Int.toNat_natCast]
  by_cases e : k = n
  ·rw [if_pos e, e]
  ·rw [if_neg e]; exact lvF_at L n k (by omega)
open Classical in
theorem lvRow_rd (L : Lv) (p : Int) : rdZ (lvRow L p) 0 = (if L.re p then 1 else 0) ∧ ∀ r : Int, 0 ≤ r → r < 32 → rdZ (lvRow L p) (1 + r) = if L.se p r then 1 else 0 := by
 unfold lvRow
 refine ⟨qQy _ _, fun r r0 r1 => ?_⟩
 obtain ⟨k, rfl⟩ : ∃ k : Nat, r = k := ⟨r.toNat, by omega⟩
 rw [qZz _ _ (by omega), show 1 + (k : Int) - 1 = k by omega, rdZ_LZ, List.getD_eq_getElem?_getD, List.getElem?_map, List.getElem?_range (by omega)]
 simp only [Option.map_some, Option.getD_some, Int.toNat_natCast]
end
end Go.Eng
end
/-!  -/
noncomputable section
namespace Go.Eng
section
variable {w nc nr cS : Int}
variable {q0 qp q ch p j : Int} {Y : Int → Prop} {T : Int → Int}
end
end Go.Eng
end
/-!  -/
noncomputable section
namespace Go.Eng
theorem bo1 (x k : Int) : qQz (x == k) = if x = k then 1 else 0 := by
 unfold qQz
 by_cases e : x = k
 ·rw [if_pos e]; simp [e]
 ·rw [if_neg e]; simp [e]
theorem bo2 (x k : Int) : qQz (decide (x ≤ k)) = if x ≤ k then 1 else 0 := by
 unfold qQz
 by_cases e : x ≤ k
 ·rw [if_pos e]; simp [e]
 ·rw [if_neg e]; simp [e]
end Go.Eng
end
/-!  -/
noncomputable section
namespace Go.Eng
theorem swp_rd {q i k : Int} (i0 : 0 ≤ i) (k0 : 0 ≤ k) (j : Int) (j0 : 0 ≤ j) : IntKind.wrap .i64 (rdZ (swpZ q i k) j) = if j = k then IntKind.wrap .i64 (rdZ q i) else if j = i then IntKind.wrap .i64 (rdZ q k) else IntKind.wrap .i64 (rdZ q j) := by
 unfold swpZ
 rw [qQh]
 by_cases e : j = k
 ·subst e; rw [if_pos rfl, if_pos rfl, w64_id]
 ·rw [if_neg (by omega), if_neg e, qQh]
  by_cases g : j = i
  ·subst g; rw [if_pos rfl, if_pos rfl, w64_id]
  ·rw [if_neg (by omega), if_neg g]
def inP (q n v : Int) : Prop := ∃ k : Int, 0 ≤ k ∧ k < n ∧ IntKind.wrap .i64 (rdZ q k) = v
theorem inP_sw1 {q n i k v : Int} (i0 : 0 ≤ i) (i1 : i < n) (k0 : 0 ≤ k) (k1 : k < n) (h : inP q n v) : inP (swpZ q i k) n v := by
 obtain ⟨j, j0, j1, rfl⟩ := h
 by_cases e : j = i
 ·subst e; exact ⟨k, k0, k1, by rw [swp_rd j0 k0 k k0, if_pos rfl]⟩
 ·by_cases g : j = k
  ·subst g
   refine ⟨i, i0, i1, ?_⟩
   rw [swp_rd i0 j0 i i0, if_neg (fun x => e x.symm), if_pos rfl]
  ·exact ⟨j, j0, j1, by rw [swp_rd i0 k0 j j0, if_neg g, if_neg e]⟩
theorem inP_sw2 {q n i k v : Int} (i0 : 0 ≤ i) (i1 : i < n) (k0 : 0 ≤ k) (k1 : k < n) (h : inP (swpZ q i k) n v) : inP q n v := by
 obtain ⟨j, j0, j1, rfl⟩ := h
 rw [swp_rd i0 k0 j j0]
 by_cases e : j = k
 ·rw [if_pos e]; exact ⟨i, i0, i1, rfl⟩
 ·rw [if_neg e]
  by_cases g : j = i
  ·rw [if_pos g]; exact ⟨k, k0, k1, rfl⟩
  ·rw [if_neg g]; exact ⟨j, j0, j1, rfl⟩
theorem inP_swp {q n i k v : Int} (i0 : 0 ≤ i) (i1 : i < n) (k0 : 0 ≤ k) (k1 : k < n) : inP (swpZ q i k) n v ↔ inP q n v := ⟨inP_sw2 i0 i1 k0 k1, inP_sw1 i0 i1 k0 k1⟩
theorem up_zero (q : Int) : hupF q 0 = q := by rw [hupF, dif_pos rfl]
theorem up_step {q : Int} {j : Nat} (h : j ≠ 0) (hl : IntKind.wrap .i64 (rdZ q j) < IntKind.wrap .i64 (rdZ q ((j - 1) / 2 : Nat))) : hupF q j = hupF (swpZ q ((j - 1) / 2 : Nat) j) ((j - 1) / 2) := by
 rw [hupF, dif_neg h, if_pos hl]
theorem up_stop {q : Int} {j : Nat} (h : j ≠ 0) (hl : ¬ IntKind.wrap .i64 (rdZ q j) < IntKind.wrap .i64 (rdZ q ((j - 1) / 2 : Nat))) : hupF q j = q := by
 rw [hupF, dif_neg h, if_neg hl]
theorem inP_up {n v : Int} : ∀ (j : Nat) (q : Int), (j : Int) < n → (inP (hupF q j) n v ↔ inP q n v) := by
 intro j
 induction j using Nat.strongRecOn with
 | ind j ih =>
  intro q hj
  by_cases e : j = 0
  ·subst e; rw [up_zero]
  ·by_cases hl : IntKind.wrap .i64 (rdZ q j) < IntKind.wrap .i64 (rdZ q ((j - 1) / 2 : Nat))
   ·rw [up_step e hl, ih _ (by omega) _ (by omega)]
    exact inP_swp (by omega) (by omega) (by omega) hj
   ·rw [up_stop e hl]
theorem lo_bd (q : Int) {n i : Nat} (h : 2 * i + 1 < n) : i < hloF q n i ∧ hloF q n i < n := by
 unfold hloF; split <;> omega
theorem dn_end {q : Int} {n i : Nat} (h : n ≤ 2 * i + 1) : hdnF q n i = (q, i) := by rw [hdnF, dif_pos h]
theorem dn_step {q : Int} {n i : Nat} (h : 2 * i + 1 < n) (hl : IntKind.wrap .i64 (rdZ q (hloF q n i : Nat)) < IntKind.wrap .i64 (rdZ q i)) : hdnF q n i = hdnF (swpZ q i (hloF q n i : Nat)) n (hloF q n i) := by
 rw [hdnF, dif_neg (by omega), if_pos hl]
theorem dn_stop {q : Int} {n i : Nat} (h : 2 * i + 1 < n) (hl : ¬ IntKind.wrap .i64 (rdZ q (hloF q n i : Nat)) < IntKind.wrap .i64 (rdZ q i)) : hdnF q n i = (q, i) := by
 rw [hdnF, dif_neg (by omega), if_neg hl]
theorem dn_in {n : Nat} : ∀ (m i : Nat) (q : Int), n - i ≤ m → i < n → (∀ v, inP (hdnF q n i).1 n v ↔ inP q n v) ∧ ∀ k : Int, (n : Int) ≤ k → IntKind.wrap .i64 (rdZ (hdnF q n i).1 k) = IntKind.wrap .i64 (rdZ q k)
 | 0, i, q, h, hi => by omega
 | m + 1, i, q, h, hi => by
  by_cases e : n ≤ 2 * i + 1
  ·rw [dn_end e]; exact ⟨fun _ => Iff.rfl, fun _ _ => rfl⟩
  ·obtain ⟨l0, l1⟩ := lo_bd q (i := i) (n := n) (by omega)
   by_cases hl : IntKind.wrap .i64 (rdZ q (hloF q n i : Nat)) < IntKind.wrap .i64 (rdZ q i)
   ·rw [dn_step (by omega) hl]
    obtain ⟨h1, h2⟩ := dn_in m (hloF q n i) (swpZ q i (hloF q n i : Nat)) (by omega) l1
    refine ⟨fun v => (h1 v).trans (inP_swp (by omega) (by omega) (by omega) (by omega)), fun k hk => ?_⟩
    rw [h2 k hk, swp_rd (by omega) (by omega) k (by omega), if_neg (by omega), if_neg (by omega)]
   ·rw [dn_stop (by omega) hl]; exact ⟨fun _ => Iff.rfl, fun _ _ => rfl⟩
theorem pop_in {q n : Int} (n0 : 0 < n) : (IntKind.wrap .i64 (rdZ (hdnZ (swpZ q 0 (n - 1)) (n - 1)) (n - 1)) = IntKind.wrap .i64 (rdZ q 0)) ∧
  (∀ v, inP q n v → v = IntKind.wrap .i64 (rdZ q 0) ∨ inP (hdnZ (swpZ q 0 (n - 1)) (n - 1)) (n - 1) v) ∧ ∀ v, inP (hdnZ (swpZ q 0 (n - 1)) (n - 1)) (n - 1) v → inP q n v := by
 have hd : (∀ v, inP (hdnZ (swpZ q 0 (n - 1)) (n - 1)) (n - 1) v ↔ inP (swpZ q 0 (n - 1)) (n - 1) v) ∧ IntKind.wrap .i64 (rdZ (hdnZ (swpZ q 0 (n - 1)) (n - 1)) (n - 1)) = IntKind.wrap .i64 (rdZ (swpZ q 0 (n - 1)) (n - 1)) := by
  by_cases e : n = 1
  ·subst e
   have : hdnZ (swpZ q 0 (1 - 1)) (1 - 1) = swpZ q 0 (1 - 1) := by unfold hdnZ; rw [dn_end (by decide)]
   rw [this]; exact ⟨fun _ => Iff.rfl, rfl⟩
  ·obtain ⟨h1, h2⟩ := dn_in (n := (n - 1).toNat) (n - 1).toNat 0 (swpZ q 0 (n - 1)) (by omega) (by omega)
   rw [show (((n - 1).toNat : Nat) : Int) = n - 1 by omega] at h1 h2
   exact ⟨h1, h2 _ (by omega)⟩
 have hs : IntKind.wrap .i64 (rdZ (swpZ q 0 (n - 1)) (n - 1)) = IntKind.wrap .i64 (rdZ q 0) := by rw [swp_rd (by decide) (by omega) _ (by omega), if_pos rfl]
 refine ⟨hd.2.trans hs, fun v hv => ?_, fun v hv => ?_⟩
 ·obtain ⟨k, k0, k1, hk⟩ := (inP_swp (i := 0) (k := n - 1) (by decide) n0 (by omega) (by omega)).2 hv
  by_cases e : k = n - 1
  ·subst e; exact .inl (hk.symm.trans hs)
  ·exact .inr ((hd.1 v).2 ⟨k, k0, by omega, hk⟩)
 ·obtain ⟨k, k0, k1, hk⟩ := (hd.1 v).1 hv
  exact (inP_swp (i := 0) (k := n - 1) (by decide) n0 (by omega) (by omega)).1 ⟨k, k0, by omega, hk⟩
theorem push_in {q n x : Int} (n0 : 0 ≤ n) (hx : IntKind.wrap .i64 x = x) (v : Int) : inP (hupZ (updZ q n x) n) (n + 1) v ↔ inP q n v ∨ v = x := by
 unfold hupZ
 rw [inP_up n.toNat _ (by omega)]
 constructor
 ·rintro ⟨k, k0, k1, rfl⟩
  rw [qQh]
  by_cases e : k = n
  ·subst e; rw [if_pos rfl]; exact .inr hx
  ·rw [if_neg (by omega)]; exact .inl ⟨k, k0, by omega, rfl⟩
 ·rintro (⟨k, k0, k1, rfl⟩ | rfl)
  ·exact ⟨k, k0, by omega, by rw [qQh, if_neg (by omega)]⟩
  ·exact ⟨n, n0, by omega, by rw [qQh, if_pos rfl]; exact hx⟩
end Go.Eng
end
/-!  -/
noncomputable section
namespace Go.Eng
theorem ofInt_wrap (x : Int) : BitVec.ofInt 32 (IntKind.wrap .u32 x) = BitVec.ofInt 32 x := by
 apply BitVec.eq_of_toInt_eq
 rw [BitVec.toInt_ofInt, BitVec.toInt_ofInt]
 have : IntKind.wrap .u32 x = x % 4294967296 := by simp [IntKind.wrap, IntKind.bits, IntKind.signed]
 rw [this]
 have h32 : (2 : Nat) ^ 32 = 4294967296 := by decide
 rw [h32]
 unfold Int.bmod
 simp
theorem ofInt_nat (v : BitVec 32) : BitVec.ofInt 32 (v.toNat : Int) = v := by
 apply BitVec.eq_of_toNat_eq
 rw [BitVec.toNat_ofInt]
 have h := v.isLt
 have h32 : (2 : Nat) ^ 32 = 4294967296 := by decide
 rw [h32] at *
 omega
theorem qXo (x r : Int) : bitP (IntKind.wrap .u32 x) r ↔ bitP x r := by unfold bitP; rw [ofInt_wrap]
theorem bit_bv (v : BitVec 32) (r : Int) : bitP (IntKind.wrap .u32 (v.toNat : Int)) r ↔ v.getLsbD r.toNat = true := by
 rw [qXo]; unfold bitP; rw [ofInt_nat]
theorem bit_or (a b r : Int) : bitP (orW a b) r ↔ bitP a r ∨ bitP b r := by
 unfold orW
 rw [bit_bv, BitVec.getLsbD_or, Bool.or_eq_true]; rfl
theorem qKa (r : Int) : ¬ bitP 0 r := by unfold bitP; simp
theorem bits_ext {a b : Int} (h : ∀ r : Int, 0 ≤ r → r < 32 → (bitP a r ↔ bitP b r)) : IntKind.wrap .u32 a = IntKind.wrap .u32 b := by
 have e : BitVec.ofInt 32 a = BitVec.ofInt 32 b := by
  apply BitVec.eq_of_getLsbD_eq
  intro i hi
  have := h i (by omega) (by omega)
  unfold bitP at this
  rw [Int.toNat_natCast] at this
  exact Bool.eq_iff_iff.2 this
 have wn : ∀ x : Int, IntKind.wrap .u32 x = ((BitVec.ofInt 32 x).toNat : Int) := fun x => by
  rw [BitVec.toNat_ofInt]
  have : IntKind.wrap .u32 x = x % 4294967296 := by simp [IntKind.wrap, IntKind.bits, IntKind.signed]
  rw [this]
  have h32 : (2 : Nat) ^ 32 = 4294967296 := by decide
  rw [h32]; omega
 rw [wn, wn, e]
theorem one_bit {d : Int} (d0 : 0 ≤ d) (d1 : d < 32) (r : Int) (r0 : 0 ≤ r) (r1 : r < 32) : bitP (IntKind.wrap .u32 (1 * 2 ^ (Nat.min d.toNat 32))) r ↔ r = d := by
 rw [qXo]
 obtain ⟨k, rfl⟩ : ∃ k : Nat, d = k := ⟨d.toNat, by omega⟩
 obtain ⟨j, rfl⟩ : ∃ j : Nat, r = j := ⟨r.toNat, by omega⟩
 rw [Int.toNat_natCast, show Nat.min k 32 = k from Nat.min_eq_left (by omega)]
 unfold bitP
 rw [Int.toNat_natCast]
 have : BitVec.ofInt 32 (1 * 2 ^ k) = BitVec.ofNat 32 (2 ^ k) := by
  rw [Int.one_mul]
  have : ((2 : Int) ^ k) = ((2 ^ k : Nat) : Int) := by simp
  rw [this, BitVec.ofInt_natCast]
 rw [this, BitVec.getLsbD_ofNat, Nat.testBit_two_pow]
 simp only [Bool.and_eq_true, decide_eq_true_eq]
 omega
theorem and_one {s d : Int} (d0 : 0 ≤ d) (d1 : d < 32) : IntKind.wrap .u32 ((BitVec.ofInt 32 s &&& BitVec.ofInt 32 (IntKind.wrap .u32 (1 * 2 ^ (Nat.min d.toNat 32)))).toNat : Int) = 0 ↔ ¬ bitP s d := by
 constructor
 ·intro h hb
  have h1 : bitP (IntKind.wrap .u32 ((BitVec.ofInt 32 s &&& BitVec.ofInt 32 (IntKind.wrap .u32 (1 * 2 ^ (Nat.min d.toNat 32)))).toNat : Int)) d := by
   rw [bit_bv, BitVec.getLsbD_and, Bool.and_eq_true]
   exact ⟨hb, (one_bit d0 d1 d d0 d1).2 rfl⟩
  rw [h] at h1
  exact qKa d h1
 ·intro hb
  have := bits_ext (a := IntKind.wrap .u32 ((BitVec.ofInt 32 s &&& BitVec.ofInt 32 (IntKind.wrap .u32 (1 * 2 ^ (Nat.min d.toNat 32)))).toNat : Int)) (b := 0) fun r r0 r1 => by
   rw [bit_bv, BitVec.getLsbD_and, Bool.and_eq_true]
   constructor
   ·rintro ⟨h1, h2⟩
    have h2 : bitP (IntKind.wrap .u32 (1 * 2 ^ (Nat.min d.toNat 32))) r := h2
    rw [one_bit d0 d1 r r0 r1] at h2
    subst h2; exact absurd h1 hb
   ·intro h; exact absurd h (qKa r)
  rw [wrap_wrap .u32 .u32 _ (by decide)] at this
  rw [this]; decide
theorem bit_not {s d : Int} (d0 : 0 ≤ d) (d1 : d < 32) (r : Int) (r0 : 0 ≤ r) (r1 : r < 32) : bitP (IntKind.wrap .u32 ((BitVec.ofInt 32 s &&& ~~~(BitVec.ofInt 32 (IntKind.wrap .u32 (1 * 2 ^ (Nat.min d.toNat 32))))).toNat : Int)) r ↔ bitP s r ∧ r ≠ d := by
 rw [bit_bv, BitVec.getLsbD_and, Bool.and_eq_true, BitVec.getLsbD_not, Bool.and_eq_true, Bool.not_eq_true']
 have h := one_bit d0 d1 r r0 r1
 unfold bitP at h ⊢
 simp only [decide_eq_true_eq]
 constructor
 ·rintro ⟨h1, _, h2⟩
  exact ⟨h1, fun e => by rw [h.2 e] at h2; exact absurd h2 (by decide)⟩
 ·rintro ⟨h1, h2⟩
  refine ⟨h1, by omega, ?_⟩
  cases hb : (BitVec.ofInt 32 (IntKind.wrap .u32 (1 * 2 ^ (Nat.min d.toNat 32)))).getLsbD r.toNat with
  | false => rfl
  | true => exact absurd (h.1 hb) h2
theorem bit_one0 {d : Int} (d0 : 0 ≤ d) (d1 : d < 32) (r : Int) (r0 : 0 ≤ r) (r1 : r < 32) : bitP (IntKind.wrap .u32 ((BitVec.ofInt 32 (IntKind.wrap .u32 (1 * 2 ^ (Nat.min d.toNat 32))) &&& ~~~(BitVec.ofInt 32 1)).toNat : Int)) r ↔ r = d ∧ d ≠ 0 := by
 have h1 : BitVec.ofInt 32 1 = BitVec.ofInt 32 (IntKind.wrap .u32 (1 * 2 ^ (Nat.min (0 : Int).toNat 32))) := by decide
 rw [h1]
 have h := bit_not (s := IntKind.wrap .u32 (1 * 2 ^ (Nat.min d.toNat 32))) (d := 0) (by decide) (by decide) r r0 r1
 rw [h, one_bit d0 d1 r r0 r1]
 clear h h1
 constructor
 ·rintro ⟨g1, g2⟩; subst g1; exact ⟨rfl, g2⟩
 ·rintro ⟨g1, g2⟩; subst g1; exact ⟨rfl, g2⟩
theorem sum_bit (p : Nat → Bool) : ∀ k : Nat, 0 ≤ sumP p k ∧ sumP p k < 2 ^ k ∧ (∀ r : Nat, r < k → ((sumP p k).toNat.testBit r = p r))
 | 0 => ⟨Int.le_refl _, by show (0 : Int) < 2 ^ 0; decide, fun r h => absurd h (Nat.not_lt_zero _)⟩
 | k + 1 => by
  obtain ⟨h0, h1, h2⟩ := sum_bit p k
  have hp : (2 : Int) ^ (k + 1) = 2 * 2 ^ k := by rw [Int.pow_succ, Int.mul_comm]
  have hc : ((2 ^ k : Nat) : Int) = (2 : Int) ^ k := by simp
  by_cases e : p k = true
  ·have es : sumP p (k + 1) = sumP p k + 2 ^ k := by rw [sumP, if_pos e]
   rw [es]
   refine ⟨by omega, by omega, fun r hr => ?_⟩
   have : (sumP p k + 2 ^ k).toNat = 2 ^ k + (sumP p k).toNat := by omega
   rw [this]
   by_cases g : r = k
   ·subst g
    rw [Nat.testBit_two_pow_add_eq, Nat.testBit_lt_two_pow (by omega), e]; rfl
   ·rw [Nat.testBit_two_pow_add_gt (by omega)]; exact h2 r (by omega)
  ·have es : sumP p (k + 1) = sumP p k := by rw [sumP, if_neg e, Int.add_zero]
   rw [es]
   refine ⟨h0, by omega, fun r hr => ?_⟩
   by_cases g : r = k
   ·subst g
    rw [Nat.testBit_lt_two_pow (by omega)]
    cases h : p r with
    | true => exact absurd h e
    | false => rfl
   ·exact h2 r (by omega)
theorem sum_bitP (p : Nat → Bool) (r : Int) (r0 : 0 ≤ r) (r1 : r < 32) : bitP (sumP p 32) r ↔ p r.toNat = true := by
 obtain ⟨h0, h1, h2⟩ := sum_bit p 32
 have := h2 r.toNat (by omega)
 unfold bitP
 have e : BitVec.ofInt 32 (sumP p 32) = BitVec.ofNat 32 (sumP p 32).toNat := by
  rw [← BitVec.ofInt_natCast]; congr 1; omega
 rw [e, BitVec.getLsbD_ofNat, this]
 simp only [Bool.and_eq_true, decide_eq_true_eq]
 constructor
 ·exact fun h => h.2
 ·exact fun h => ⟨by omega, h⟩
theorem sum_wrap (p : Nat → Bool) : IntKind.wrap .u32 (sumP p 32) = sumP p 32 := by
 obtain ⟨h0, h1, _⟩ := sum_bit p 32
 have : IntKind.wrap .u32 (sumP p 32) = sumP p 32 % 4294967296 := by simp [IntKind.wrap, IntKind.bits, IntKind.signed]
 rw [this]
 have : (2 : Int) ^ 32 = 4294967296 := by decide
 omega
end Go.Eng
end
