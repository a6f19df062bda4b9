/-
  Parts of the engine, a program's symbolic run, proved sound; and of plain laws.
-/
import Derived.Test.YteimodjkllldlacGmZ
set_option linter.unusedVariables false
set_option linter.unusedSimpArgs false

/-!  -/
noncomputable section
namespace Go.Eng
section
variable {w nc nr cS : Int}
theorem same_refl (q : Int) : SameQ nc q q := fun _ _ _ _ _ _ => Iff.rfl
theorem same_trans {a b c : Int} (h : SameQ nc a b) (g : SameQ nc b c) : SameQ nc a c := fun p f p0 p1 f0 f1 => (g p f p0 p1 f0 f1).trans (h p f p0 p1 f0 f1)
theorem closed_same {q q' p : Int} (p0 : 0 ≤ p) (p1 : p < nc) (hs : SameQ nc q q') (hc : qKy w nc nr cS q p) : qKy w nc nr cS q' p := by
 intro hr h5 t hn t0 t1
 obtain ⟨_, _, ⟨a0, a1⟩, ⟨b0, b1⟩, _⟩ := dec_in (rdZ w p) h5
 obtain ⟨h1, h2⟩ := hc ((hs p 0 p0 p1 (by decide) (by decide)).1 hr) h5 t hn t0 t1
 refine ⟨(hs t 0 t0 t1 (by decide) (by decide)).2 h1, fun r r0 r1 hb => (hs t (1 + r) t0 t1 (by omega) (by omega)).2 (h2 r r0 r1 ?_)⟩
 exact behS_32 a0 a1 b0 b1 (fun s s0 s1 k => (hs p (1 + s) p0 p1 (by omega) (by omega)).1 k) r0 r1 hb
structure SwP (w nc nr cS q0 q ch p : Int) : Prop where
 be : Below w nc nr cS q
 st : 0 < nc → bT q 0 0
 le : cntP q0 nc.toNat ≤ cntP q nc.toNat
 lt : ch ≠ 0 → cntP q0 nc.toNat < cntP q nc.toNat
 cl : ch = 0 → SameQ nc q0 q ∧ ∀ x, 0 ≤ x → x < p → x < nc → qKy w nc nr cS q x
theorem sw_start {q : Int} (hb : Below w nc nr cS q) (hs : 0 < nc → bT q 0 0) : SwP w nc nr cS q q 0 0 := ⟨hb, hs, Nat.le_refl _, fun h => absurd rfl h, fun _ => ⟨same_refl q, fun x x0 x1 => by omega⟩⟩
theorem sw_skip {q0 q ch p : Int} (h : SwP w nc nr cS q0 q ch p) (hp : ¬ (bT q p 0 ∧ decZ (IntKind.wrap .u32 (rdZ w p)) 5 = 0)) : SwP w nc nr cS q0 q ch (p + 1) := by
 refine ⟨h.be, h.st, h.le, h.lt, fun e => ⟨(h.cl e).1, fun x x0 x1 x2 => ?_⟩⟩
 by_cases g : x = p
 ·subst g; exact fun hr h5 => absurd ⟨hr, h5⟩ hp
 ·exact (h.cl e).2 x x0 (by omega) x2
structure SwK (w nc nr cS q0 qp p : Int) (Y : Int → Prop) (T : Int → Int) (q ch j : Int) : Prop where
 sp : SwP w nc nr cS q0 q ch p
 sq : ch = 0 → SameQ nc q0 qp
 dn : ch = 0 → ∀ i, 0 ≤ i → i < j → 0 ≤ T i → T i < nc → bT q (T i) 0 ∧ ∀ r, 0 ≤ r → r < 32 → Y r → bT q (T i) (1 + r)
variable {q0 qp q ch p j : Int} {Y : Int → Prop} {T : Int → Int}
theorem sk_start (h : SwP w nc nr cS q0 qp ch p) : SwK w nc nr cS q0 qp p Y T qp ch 0 := ⟨h, fun e => (h.cl e).1, fun _ i i0 i1 => by omega⟩
theorem sk_skip (h : SwK w nc nr cS q0 qp p Y T q ch j) (ht : ¬ T j < nc) : SwK w nc nr cS q0 qp p Y T q ch (j + 1) := by
 refine ⟨h.sp, h.sq, fun e i i0 i1 ig it => ?_⟩
 by_cases g : i = j
 ·subst g; exact absurd it ht
 ·exact h.dn e i i0 (by omega) ig it
theorem sk_up (h : SwK w nc nr cS q0 qp p Y T q ch j) (p0 : 0 ≤ p) (p1 : p < nc) (hqp : Below w nc nr cS qp) (hr : bT qp p 0) (h5 : decZ (IntKind.wrap .u32 (rdZ w p)) 5 = 0)
  (hn : nxtP nr (decZ (IntKind.wrap .u32 (rdZ w p)) 0) (decZ (IntKind.wrap .u32 (rdZ w p)) 2) (decZ (IntKind.wrap .u32 (rdZ w p)) 4) p (T j)) (t0 : 0 ≤ T j) (t1 : T j < nc) {q' ch' : Int} (hu : UpQ q q' (T j) Y)
  (hY : ∀ r, 0 ≤ r → r < 32 → Y r → behS nr cS (decZ (IntKind.wrap .u32 (rdZ w p)) 0) (decZ (IntKind.wrap .u32 (rdZ w p)) 1) (decZ (IntKind.wrap .u32 (rdZ w p)) 2) (decZ (IntKind.wrap .u32 (rdZ w p)) 3) (decZ (IntKind.wrap .u32 (rdZ w p)) 4) (fun r => bT qp p (1 + r)) r)
  (hch : ch' = 0 ↔ ch = 0 ∧ ∀ f, 0 ≤ f → f < 33 → (bT q' (T j) f ↔ bT q (T j) f)) : SwK w nc nr cS q0 qp p Y T q' ch' (j + 1) := by
 have hsame : ch' = 0 → SameQ nc q q' := fun e x f x0 x1 f0 f1 => by
  by_cases g : x = T j
  ·subst g; exact (hch.1 e).2 f f0 f1
  ·exact hu.oth x f x0 g f0 f1
 have hle := up_cnt hu nc.toNat
 refine ⟨⟨below_up h.sp.be p0 p1 hqp hr h5 hn t0 t1 hu hY, fun n0 => qXy hu (by decide) (by decide) (by decide) (h.sp.st n0), Nat.le_trans h.sp.le hle, fun e => ?_, fun e => ?_⟩, fun e => h.sq (hch.1 e).1, fun e i i0 i1 k it => ?_⟩
 ·by_cases g : ch = 0
  ·have hd : ∃ f : Int, 0 ≤ f ∧ f < 33 ∧ ¬ (bT q' (T j) f ↔ bT q (T j) f) := Classical.byContradiction fun k => e (hch.2 ⟨g, fun f f0 f1 => Classical.byContradiction fun kk => k ⟨f, f0, f1, kk⟩⟩)
   have := up_more hu (n := nc.toNat) t0 (by omega) hd
   have := h.sp.le
   omega
  ·have := h.sp.lt g; omega
 ·have hs := hsame e
  exact ⟨same_trans (h.sp.cl (hch.1 e).1).1 hs, fun x x0 x1 x2 => closed_same x0 x2 hs ((h.sp.cl (hch.1 e).1).2 x x0 x1 x2)⟩
 ·by_cases g : i = j
  ·subst g; exact ⟨hu.re, fun r r0 r1 k => (hu.se r r0 r1).2 (.inr k)⟩
  ·obtain ⟨h1, h2⟩ := h.dn (hch.1 e).1 i i0 (by omega) k it
   exact ⟨qXy hu k (by decide) (by decide) h1, fun r r0 r1 y => qXy hu k (by omega) (by omega) (h2 r r0 r1 y)⟩
theorem sk_end {n : Int} (h : SwK w nc nr cS q0 qp p Y T q ch n) (h5 : decZ (IntKind.wrap .u32 (rdZ w p)) 5 = 0) (p0 : 0 ≤ p) (p1 : p < nc)
  (hall : ∀ t, nxtP nr (decZ (IntKind.wrap .u32 (rdZ w p)) 0) (decZ (IntKind.wrap .u32 (rdZ w p)) 2) (decZ (IntKind.wrap .u32 (rdZ w p)) 4) p t → ∃ i, 0 ≤ i ∧ i < n ∧ T i = t)
  (hY : ∀ r, 0 ≤ r → r < 32 → behS nr cS (decZ (IntKind.wrap .u32 (rdZ w p)) 0) (decZ (IntKind.wrap .u32 (rdZ w p)) 1) (decZ (IntKind.wrap .u32 (rdZ w p)) 2) (decZ (IntKind.wrap .u32 (rdZ w p)) 3) (decZ (IntKind.wrap .u32 (rdZ w p)) 4) (fun r => bT qp p (1 + r)) r → Y r) : SwP w nc nr cS q0 q ch (p + 1) := by
 refine ⟨h.sp.be, h.sp.st, h.sp.le, h.sp.lt, fun e => ⟨(h.sp.cl e).1, fun x x0 x1 x2 => ?_⟩⟩
 by_cases g : x = p
 ·subst g
  intro hr h5 t hn t0 t1
  obtain ⟨i, i0, i1, rfl⟩ := hall t hn
  obtain ⟨g1, g2⟩ := h.dn e i i0 i1 t0 t1
  obtain ⟨_, _, ⟨a0, a1⟩, ⟨b0, b1⟩, _⟩ := dec_in (rdZ w x) h5
  refine ⟨g1, fun r r0 r1 hb => g2 r r0 r1 (hY r r0 r1 (behS_32 a0 a1 b0 b1 (fun s s0 s1 k => ?_) r0 r1 hb))⟩
  exact (h.sq e x (1 + s) p0 p1 (by omega) (by omega)).2 (((h.sp.cl e).1 x (1 + s) p0 p1 (by omega) (by omega)).1 k)
 ·exact (h.sp.cl e).2 x x0 (by omega) x2
theorem sw_done (h : SwP w nc nr cS q0 q ch p) (hp : nc ≤ p) (hn : 0 ≤ nc) (e : ch = 0) : qQe (List.replicate 33 .bool) q (levZ w nc (qQq nr (qQq cS 0))) nc :=
 lev_row hn h.be h.st (fun x x0 x1 => (h.cl e).2 x x0 (by omega) x1) rfl
end
end Go.Eng
end
