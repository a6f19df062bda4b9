/-
  Parts of the engine, a program's symbolic run, proved sound; and of plain laws.
-/
import Derived.Test.YteimodjkllldladGmZl
set_option linter.unusedVariables false
set_option linter.unusedSimpArgs false

/-!  -/
noncomputable section
namespace Go.Eng
theorem any_some {c n : Int} : anyZ c n 1 ≠ 0 ↔ ∃ j : Int, 0 ≤ j ∧ j < n ∧ rdZ c j ≠ 0 := by
 unfold anyZ
 split
 ·rename_i h
  obtain ⟨j, j0, j1, k⟩ := h
  exact ⟨fun _ => ⟨j, j0, j1, k.2 (by decide)⟩, fun _ => by decide⟩
 ·rename_i h
  exact ⟨fun k => absurd rfl k, fun ⟨j, j0, j1, k⟩ => absurd ⟨j, j0, j1, ⟨fun _ => by decide, fun _ => k⟩⟩ h⟩
theorem lsb_ok {op d a b n nr cS m s : Int} (o1 : 1 ≤ op) (d0 : 0 ≤ d) (d1 : d < 32) (he : ¬ endsP nr op a n) (hm : m = anyZ cS nr 1) (r : Int) (r0 : 0 ≤ r) (r1 : r < 32) :
  bitP (lsbZ op d a b n nr cS m s) r ↔ behS nr cS op d a b n (fun r => bitP s r) r := by
 have hp : putsP op ↔ (op ≤ 34 ∨ op = 40) := Iff.rfl
 unfold lsbZ behS
 by_cases h : op ≤ 34 ∨ op = 40
 ·rw [if_pos h]
  have hd : fseZ op a (qQq b (qQq n (qQq s (qQq nr (qQq cS (qQq m 0)))))) ≠ 0 ↔ dsec nr cS op a b n (fun r => bitP s r) := by
   have hf := fse_zero (op := op) (a := a) (b := b) (n := n) (s := s) (nS := nr) (cS := cS) (m := m)
   rw [ne_eq, hf, Classical.not_not, hm, any_some]
   unfold dsec
   unfold endsP at he
   obtain ⟨A, hA⟩ := num_of (bitP s a)
   obtain ⟨B, hB⟩ := num_of (bitP s b)
   obtain ⟨Y, hY⟩ := num_of (∃ j : Int, 0 ≤ j ∧ j < nr ∧ rdZ cS j ≠ 0)
   simp only [hA, hB, hY]
   generalize rdZ cS n = N
   clear hA hB hY hf hm hp
   constructor
   ·rintro (g | g | g | g)
    ·exact .inl ⟨by omega, .inr g⟩
    ·by_cases k : op ≤ 30
     ·exact .inl ⟨k, .inl g.2⟩
     ·by_cases k2 : op = 31 ∨ op = 32
      ·exact .inr (.inl ⟨k2, g.2⟩)
      ·omega
    ·exact .inr (.inr (.inl ⟨g.1, g.2.1, by omega, g.2.2⟩))
    ·exact .inr (.inr (.inr g))
   ·rintro (⟨g, k | k⟩ | g | g | g)
    ·exact .inr (.inl ⟨by omega, k⟩)
    ·exact .inl k
    ·exact .inr (.inl ⟨by omega, g.2⟩)
    ·exact .inr (.inr (.inl ⟨g.1, g.2.1, g.2.2.2⟩))
    ·exact .inr (.inr (.inr g))
  have b1 := bit_not (s := s) d0 d1 r r0 r1
  have b2 := bit_one0 d0 d1 r r0 r1
  by_cases g : fseZ op a (qQq b (qQq n (qQq s (qQq nr (qQq cS (qQq m 0)))))) ≠ 0
  ·rw [if_pos g, bit_or, b1, b2]
   have gd := hd.1 g
   unfold putQ
   constructor
   ·rintro (⟨k1, k2⟩ | ⟨k1, k2⟩)
    ·exact .inl ⟨h, .inr ⟨k2, k1⟩⟩
    ·exact .inl ⟨h, .inl ⟨k1, gd, k2⟩⟩
   ·rintro (⟨_, ⟨k1, _, k2⟩ | ⟨k1, k2⟩⟩ | ⟨k, _⟩)
    ·exact .inr ⟨k1, k2⟩
    ·exact .inl ⟨k2, k1⟩
    ·exact absurd h k
  ·rw [if_neg g, b1]
   have gd := fun k => g (hd.2 k)
   unfold putQ
   constructor
   ·rintro ⟨k1, k2⟩; exact .inl ⟨h, .inr ⟨k2, k1⟩⟩
   ·rintro (⟨_, ⟨_, k1, _⟩ | ⟨k1, k2⟩⟩ | ⟨k, _⟩)
    ·exact absurd k1 gd
    ·exact ⟨k2, k1⟩
    ·exact absurd h k
 ·rw [if_neg h]
  constructor
  ·intro k; exact .inr ⟨h, k⟩
  ·rintro (⟨k, _⟩ | ⟨_, k⟩)
   ·exact absurd k h
   ·exact k
section
variable {w nc nr cS p V0 V W n s : Int} {m : Nat}
theorem rch_ok (h : Ps w nc nr cS p V0 m V W n) (hc : nc ≤ 16384) (p0 : 0 ≤ p) (p1 : p < nc) (b0 : Below w nc nr cS (qv V0 nc)) (hr : bT (qv V0 nc) p 0) (h5 : decZ (IntKind.wrap .u32 (rdZ w p)) 5 = 0)
  (hY : ∀ r, 0 ≤ r → r < 32 → bitP s r → behAt w nr cS p (fun r => bT (qv V0 nc) p (1 + r)) r) {t : Int} (t0 : 0 ≤ t) (hn : nxtAt w nr p t) :
  Ps w nc nr cS p V0 m (rchT nc t s (V, W, n)).1 (rchT nc t s (V, W, n)).2.1 (rchT nc t s (V, W, n)).2.2 ∧ Dn nc s (rchT nc t s (V, W, n)).1 t ∧ ∀ x, 0 ≤ x → Dn nc s V x → Dn nc s (rchT nc t s (V, W, n)).1 x := by
 obtain ⟨g1, g2⟩ := ps_reach h hc p0 p1 b0 hr h5 hY (z := qQq s (qQq V 0)) (qXw s V).1 (qXw s V).2 t0 hn
 unfold rchT
 by_cases hl : lrcZ nc t (qQq s (qQq V 0)) ≠ 0
 ·rw [if_pos hl]; exact g2 hl
 ·rw [if_neg hl]; exact ⟨h, g1 (Classical.byContradiction hl), fun x _ hx => hx⟩
theorem pass_ok (hW : Wk w nc nr cS V W n (fun x => x = p)) (hc : nc ≤ 16384) (p0 : 0 ≤ p) (p1 : p < nc) (hr : bT (qv V nc) p 0) {op d a b nn M : Int} (e0 : op = decZ (IntKind.wrap .u32 (rdZ w p)) 0) (e1 : d = decZ (IntKind.wrap .u32 (rdZ w p)) 1) (e2 : a = decZ (IntKind.wrap .u32 (rdZ w p)) 2)
  (e3 : b = decZ (IntKind.wrap .u32 (rdZ w p)) 3) (e4 : nn = decZ (IntKind.wrap .u32 (rdZ w p)) 4) (hM : M = anyZ cS nr 1) (hs : s = IntKind.wrap .u32 (rdZ (rdZ V p) 1)) {T : Int × Int × Int} (hT : T = lpsT op d a b nn p nc nr cS M s (V, W, n)) :
  Wk w nc nr cS T.1 T.2.1 T.2.2 (fun _ => False) ∧ mWk T.1 nc T.2.2 ≤ mWk V nc n := by
 have st := ps_start hW
 have done : ∀ {S V' W' n' : Int}, Ps w nc nr cS p V (mWk V nc n) V' W' n' → (decZ (IntKind.wrap .u32 (rdZ w p)) 5 = 0 → (∀ r, 0 ≤ r → r < 32 → behAt w nr cS p (fun r => bT (qv V nc) p (1 + r)) r → bitP S r) ∧ ∀ t, nxtAt w nr p t → 0 ≤ t → Dn nc S V' t) →
   Wk w nc nr cS V' W' n' (fun _ => False) ∧ mWk V' nc n' ≤ mWk V nc n := fun h hd => ⟨ps_end h p0 hd, h.ms⟩
 by_cases h5 : decZ (IntKind.wrap .u32 (rdZ w p)) 5 = 0
 case neg =>
  have o : op = 0 := Classical.byContradiction fun g => h5 (dec_ok5.1 (by rw [← e0]; exact g))
  have hT : T = (V, W, n) := by rw [hT]; unfold lpsT; rw [if_pos (.inl o)]
  rw [hT]
  exact done (S := 0) st fun g => absurd g h5
 obtain ⟨⟨o0, o1⟩, ⟨d0, d1⟩, ⟨a0, a1⟩, ⟨b0, b1⟩, ⟨n0, n1⟩⟩ := dec_in (rdZ w p) h5
 have hn0 := dec_n0 h5
 rw [← e0, ← e4] at hn0
 rw [← e0] at o0 o1
 rw [← e1] at d0 d1
 rw [← e2] at a0 a1
 rw [← e3] at b0 b1
 have bA : ∀ S r, behAt w nr cS p S r ↔ behS nr cS op d a b nn S r := fun S r => by unfold behAt; rw [e0, e1, e2, e3, e4]
 have nA : ∀ t, nxtAt w nr p t ↔ nxtP nr op a nn p t := fun t => by unfold nxtAt; rw [e0, e2, e4]
 have hV : ∀ r, 0 ≤ r → r < 32 → (bT (qv V nc) p (1 + r) ↔ bitP s r) := fun r r0 r1 => by rw [hs, qKj]; exact qv_se p0 p1 r0 r1
 by_cases he : endsP nr op a nn
 ·have hT : T = (V, W, n) := by rw [hT]; unfold lpsT; rw [if_pos (.inr he)]
  rw [hT]
  refine done (S := -1) st fun _ => ⟨fun r r0 r1 _ => ?_, fun t ht => absurd he ((nA t).1 ht).1⟩
  unfold bitP
  have : BitVec.ofInt 32 (-1) = BitVec.allOnes 32 := by decide
  rw [this, BitVec.getLsbD_allOnes]; simp; omega
 have hS : ∀ r, 0 ≤ r → r < 32 → (bitP (lsbZ op d a b nn nr cS M s) r ↔ behAt w nr cS p (fun r => bT (qv V nc) p (1 + r)) r) := fun r r0 r1 => by
  rw [lsb_ok o0 d0 d1 he hM r r0 r1, bA]
  exact ⟨behS_32 a0 a1 b0 b1 (fun q q0 q1 k => (hV q q0 q1).2 k) r0 r1, behS_32 a0 a1 b0 b1 (fun q q0 q1 k => (hV q q0 q1).1 k) r0 r1⟩
 have ne : ¬ (op = 0 ∨ endsP nr op a nn) := fun g => g.elim (fun k => by omega) he
 have rc := fun {V' W' n' : Int} (h : Ps w nc nr cS p V (mWk V nc n) V' W' n') {t : Int} (t0 : 0 ≤ t) (hn : nxtAt w nr p t) => rch_ok (s := lsbZ op d a b nn nr cS M s) h hc p0 p1 hW.be hr h5 (fun r r0 r1 k => (hS r r0 r1).1 k) t0 hn
 by_cases hj : op = 39 ∨ op = 40
 ·have hT : T = rchT nc nn (lsbZ op d a b nn nr cS M s) (V, W, n) := by rw [hT]; unfold lpsT; rw [if_neg ne, if_pos hj]
  have hx : nxtAt w nr p nn := (nA nn).2 ⟨he, .inr (.inl ⟨hj, rfl⟩)⟩
  obtain ⟨g1, g2, _⟩ := rc st (hn0 (by omega)) hx
  rw [hT]
  refine done g1 fun _ => ⟨fun r r0 r1 k => (hS r r0 r1).2 k, fun t ht t0 => ?_⟩
  rcases ((nA t).1 ht).2 with ⟨k, _⟩ | ⟨_, k⟩ | ⟨k, _⟩
  ·omega
  ·rw [k]; exact g2
  ·omega
 by_cases hb : op = 36 ∨ op = 37 ∨ op = 38
 ·have hT : T = rchT nc (p + 1) (lsbZ op d a b nn nr cS M s) (rchT nc nn (lsbZ op d a b nn nr cS M s) (V, W, n)) := by rw [hT]; unfold lpsT; rw [if_neg ne, if_neg hj, if_pos hb]
  have hx : nxtAt w nr p nn := (nA nn).2 ⟨he, .inl ⟨hb, .inl rfl⟩⟩
  have hy : nxtAt w nr p (p + 1) := (nA (p + 1)).2 ⟨he, .inl ⟨hb, .inr rfl⟩⟩
  obtain ⟨g1, g2, _⟩ := rc st (hn0 (by omega)) hx
  obtain ⟨k1, k2, k3⟩ := rc g1 (t := p + 1) (by omega) hy
  rw [hT]
  refine done k1 fun _ => ⟨fun r r0 r1 k => (hS r r0 r1).2 k, fun t ht t0 => ?_⟩
  rcases ((nA t).1 ht).2 with ⟨_, k | k⟩ | ⟨k, _⟩ | ⟨k, _⟩
  ·rw [k]; exact k3 nn (hn0 (by omega)) g2
  ·rw [k]; exact k2
  ·omega
  ·omega
 have hT : T = rchT nc (p + 1) (lsbZ op d a b nn nr cS M s) (V, W, n) := by rw [hT]; unfold lpsT; rw [if_neg ne, if_neg hj, if_neg hb]
 have hx : nxtAt w nr p (p + 1) := (nA (p + 1)).2 ⟨he, .inr (.inr ⟨by omega, rfl⟩)⟩
 obtain ⟨g1, g2, _⟩ := rc st (t := p + 1) (by omega) hx
 rw [hT]
 refine done g1 fun _ => ⟨fun r r0 r1 k => (hS r r0 r1).2 k, fun t ht t0 => ?_⟩
 rcases ((nA t).1 ht).2 with ⟨k, _⟩ | ⟨k, _⟩ | ⟨_, k⟩
 ·omega
 ·omega
 ·rw [k]; exact g2
theorem wk_init (hp : 0 < nc) : Wk w nc nr cS (updZ 0 0 (qQq 1 (qQq 0 0))) (qQq 0 0) 1 (fun _ => False) := by
 have eV : updZ 0 0 (qQq 1 (qQq 0 0)) = lrvZ 0 0 0 := by
  unfold lrvZ
  rw [qZi, qZi]; rfl
 have hu := lrv_up (V := 0) (s := 0) (nc := nc) (by decide) hp
 have z0 : ∀ q f, 0 ≤ q → 0 ≤ f → f < 33 → ¬ bT (qv 0 nc) q f := fun q f q0 f0 f1 => by
  by_cases h : q < nc
  ·by_cases e : f = 0
   ·subst e; rw [qv_re q0 h, qZi, qZi]; decide
   ·obtain ⟨r, rfl⟩ : ∃ r, f = 1 + r := ⟨f - 1, by omega⟩
    rw [qv_se q0 h (by omega) (by omega), qZi, qZi]; exact qXm r
  ·rw [qv_out (by omega) q0, qZi, qZi]; decide
 rw [eV]
 have hse : ∀ q r, 0 ≤ q → 0 ≤ r → r < 32 → ¬ bT (qv (lrvZ 0 0 0) nc) q (1 + r) := fun q r q0 r0 r1 h => by
  by_cases e : q = 0
  ·subst e
   rcases (hu.se r r0 r1).1 h with k | k
   ·exact z0 0 (1 + r) (by decide) (by omega) (by omega) k
   ·exact qXm r k
  ·exact z0 q (1 + r) q0 (by omega) (by omega) ((hu.oth q (1 + r) q0 e (by omega) (by omega)).1 h)
 have hre : ∀ q, 0 ≤ q → bT (qv (lrvZ 0 0 0) nc) q 0 → q = 0 := fun q q0 h => Classical.byContradiction fun e => z0 q 0 q0 (by decide) (by decide) ((hu.oth q 0 q0 e (by decide) (by decide)).1 h)
 have hin : ∀ v, inP (qQq 0 0) 1 v ↔ v = 0 := fun v => by
  constructor
  ·rintro ⟨k, k0, k1, rfl⟩
   rw [show k = 0 by omega, qQa]; decide
  ·rintro rfl
   exact ⟨0, by decide, by decide, by rw [qQa]; decide⟩
 refine ⟨fun q q0 q1 => ?_, ⟨fun q q0 q1 h => ?_, fun q r q0 q1 r0 r1 h => absurd h (hse q r q0 r0 r1)⟩, fun _ => hu.re, by decide, ?_, fun v hv => ?_, fun q q0 q1 hr hn _ => ?_⟩
 ·rw [lrv_rd (by decide) q0]
  by_cases e : q = 0
  ·rw [if_pos e, (qXw _ _).1]; exact .inr (by decide)
  ·rw [if_neg e, qZi, qZi]; exact .inl (by decide)
 ·rw [hre q q0 h]; exact qXk.start hp
 ·have := up_more hu (n := nc.toNat) (by decide) (by omega) ⟨0, by decide, by decide, fun k => z0 0 0 (by decide) (by decide) (by decide) (k.1 hu.re)⟩
  omega
 ·rw [(hin v).1 hv]; exact ⟨by decide, hp, hu.re⟩
 ·exact absurd ((hin q).2 (hre q q0 hr)) hn
end
end Go.Eng
end
