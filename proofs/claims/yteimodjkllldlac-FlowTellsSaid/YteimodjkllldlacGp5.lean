/-
  Parts of the engine, a program's symbolic run, proved sound; and of plain laws.
-/
import Derived.Test.YteimodjkllldlacGp4
set_option linter.unusedVariables false
set_option linter.unusedSimpArgs false
/-!  -/
noncomputable section
namespace Go.Eng
theorem any_some {c n : Int} : anyZ c n 1 ≠ 0 ↔ ∃ j : Int, 0 ≤ j ∧ j < n ∧ rdZ c j ≠ 0 := by
 unfold anyZ
 split
 ·rename_i h
  obtain ⟨j, j0, j1, k⟩ := h
  exact ⟨fun _ => ⟨j, j0, j1, k.2 (by decide)⟩, fun _ => by decide⟩
 ·rename_i h
  exact ⟨fun k => absurd rfl k, fun ⟨j, j0, j1, k⟩ => absurd ⟨j, j0, j1, ⟨fun _ => by decide, fun _ => k⟩⟩ h⟩
theorem lsb_ok {op d a b n nr cS m s : Int} (o1 : 1 ≤ op) (d0 : 0 ≤ d) (d1 : d < 32) (he : ¬ endsP nr op a n) (hm : m = anyZ cS nr 1) (r : Int) (r0 : 0 ≤ r) (r1 : r < 32) :
  bitP (lsbZ op d a b n nr cS m s) r ↔ behS nr cS op d a b n (fun r => bitP s r) r := by
 have hp : putsP op ↔ (op ≤ 34 ∨ op = 40) := Iff.rfl
 unfold lsbZ behS
 by_cases h : op ≤ 34 ∨ op = 40
 ·rw [if_pos h]
  have hd : fseZ op a (qQq b (qQq n (qQq s (qQq nr (qQq cS (qQq m 0)))))) ≠ 0 ↔ dsec nr cS op a b n (fun r => bitP s r) := by
   have hf := fse_zero (op := op) (a := a) (b := b) (n := n) (s := s) (nS := nr) (cS := cS) (m := m)
   rw [ne_eq, hf, Classical.not_not, hm, any_some]
   unfold dsec
   unfold endsP at he
   obtain ⟨A, hA⟩ := num_of (bitP s a)
   obtain ⟨B, hB⟩ := num_of (bitP s b)
   obtain ⟨Y, hY⟩ := num_of (∃ j : Int, 0 ≤ j ∧ j < nr ∧ rdZ cS j ≠ 0)
   simp only [hA, hB, hY]
   generalize rdZ cS n = N
   clear hA hB hY hf hm hp
   constructor
   ·rintro (g | g | g | g)
    ·exact .inl ⟨by omega, .inr g⟩
    ·by_cases k : op ≤ 30
     ·exact .inl ⟨k, .inl g.2⟩
     ·by_cases k2 : op = 31 ∨ op = 32
      ·exact .inr (.inl ⟨k2, g.2⟩)
      ·omega
    ·exact .inr (.inr (.inl ⟨g.1, g.2.1, by omega, g.2.2⟩))
    ·exact .inr (.inr (.inr g))
   ·rintro (⟨g, k | k⟩ | g | g | g)
    ·exact .inr (.inl ⟨by omega, k⟩)
    ·exact .inl k
    ·exact .inr (.inl ⟨by omega, g.2⟩)
    ·exact .inr (.inr (.inl ⟨g.1, g.2.1, g.2.2.2⟩))
    ·exact .inr (.inr (.inr g))
  have b1 := bit_not (s := s) d0 d1 r r0 r1
  have b2 := bit_one0 d0 d1 r r0 r1
  by_cases g : fseZ op a (qQq b (qQq n (qQq s (qQq nr (qQq cS (qQq m 0)))))) ≠ 0
  ·rw [if_pos g, bit_or, b1, b2]
   have gd := hd.1 g
   unfold putQ
   constructor
   ·rintro (⟨k1, k2⟩ | ⟨k1, k2⟩)
    ·exact .inl ⟨h, .inr ⟨k2, k1⟩⟩
    ·exact .inl ⟨h, .inl ⟨k1, gd, k2⟩⟩
   ·rintro (⟨_, ⟨k1, _, k2⟩ | ⟨k1, k2⟩⟩ | ⟨k, _⟩)
    ·exact .inr ⟨k1, k2⟩
    ·exact .inl ⟨k2, k1⟩
    ·exact absurd h k
  ·rw [if_neg g, b1]
   have gd := fun k => g (hd.2 k)
   unfold putQ
   constructor
   ·rintro ⟨k1, k2⟩; exact .inl ⟨h, .inr ⟨k2, k1⟩⟩
   ·rintro (⟨_, ⟨_, k1, _⟩ | ⟨k1, k2⟩⟩ | ⟨k, _⟩)
    ·exact absurd k1 gd
    ·exact ⟨k2, k1⟩
    ·exact absurd h k
 ·rw [if_neg h]
  constructor
  ·intro k; exact .inr ⟨h, k⟩
  ·rintro (⟨k, _⟩ | ⟨_, k⟩)
   ·exact absurd k h
   ·exact k
section
variable {w nc nr cS p V0 V W n s : Int} {m : Nat}
theorem rch_ok (h : Ps w nc nr cS p V0 m V W n) (hc : nc ≤ 16384) (p0 : 0 ≤ p) (p1 : p < nc) (b0 : Below w nc nr cS (qv V0 nc)) (hr : bT (qv V0 nc) p 0) (h5 : decZ (IntKind.wrap .u32 (rdZ w p)) 5 = 0)
  (hY : ∀ r, 0 ≤ r → r < 32 → bitP s r → behAt w nr cS p (fun r => bT (qv V0 nc) p (1 + r)) r) {t : Int} (t0 : 0 ≤ t) (hn : nxtAt w nr p t) :
  Ps w nc nr cS p V0 m (rchT nc t s (V, W, n)).1 (rchT nc t s (V, W, n)).2.1 (rchT nc t s (V, W, n)).2.2 ∧ Dn nc s (rchT nc t s (V, W, n)).1 t ∧ ∀ x, 0 ≤ x → Dn nc s V x → Dn nc s (rchT nc t s (V, W, n)).1 x := by
 obtain ⟨g1, g2⟩ := ps_reach h hc p0 p1 b0 hr h5 hY (z := qQq s (qQq V 0)) (qXr s V).1 (qXr s V).2 t0 hn
 unfold rchT
 by_cases hl : lrcZ nc t (qQq s (qQq V 0)) ≠ 0
 ·rw [if_pos hl]; exact g2 hl
 ·rw [if_neg hl]; exact ⟨h, g1 (Classical.byContradiction hl), fun x _ hx => hx⟩
theorem pass_ok (hW : Wk w nc nr cS V W n (fun x => x = p)) (hc : nc ≤ 16384) (p0 : 0 ≤ p) (p1 : p < nc) (hr : bT (qv V nc) p 0) {op d a b nn M : Int} (e0 : op = decZ (IntKind.wrap .u32 (rdZ w p)) 0) (e1 : d = decZ (IntKind.wrap .u32 (rdZ w p)) 1) (e2 : a = decZ (IntKind.wrap .u32 (rdZ w p)) 2)
  (e3 : b = decZ (IntKind.wrap .u32 (rdZ w p)) 3) (e4 : nn = decZ (IntKind.wrap .u32 (rdZ w p)) 4) (hM : M = anyZ cS nr 1) (hs : s = IntKind.wrap .u32 (rdZ (rdZ V p) 1)) {T : Int × Int × Int} (hT : T = lpsT op d a b nn p nc nr cS M s (V, W, n)) :
  Wk w nc nr cS T.1 T.2.1 T.2.2 (fun _ => False) ∧ mWk T.1 nc T.2.2 ≤ mWk V nc n := by
 have st := ps_start hW
 have done : ∀ {S V' W' n' : Int}, Ps w nc nr cS p V (mWk V nc n) V' W' n' → (decZ (IntKind.wrap .u32 (rdZ w p)) 5 = 0 → (∀ r, 0 ≤ r → r < 32 → behAt w nr cS p (fun r => bT (qv V nc) p (1 + r)) r → bitP S r) ∧ ∀ t, nxtAt w nr p t → 0 ≤ t → Dn nc S V' t) →
   Wk w nc nr cS V' W' n' (fun _ => False) ∧ mWk V' nc n' ≤ mWk V nc n := fun h hd => ⟨ps_end h p0 hd, h.ms⟩
 by_cases h5 : decZ (IntKind.wrap .u32 (rdZ w p)) 5 = 0
 case neg =>
  have o : op = 0 := Classical.byContradiction fun g => h5 (dec_ok5.1 (by rw [← e0]; exact g))
  have hT : T = (V, W, n) := by rw [hT]; unfold lpsT; rw [if_pos (.inl o)]
  rw [hT]
  exact done (S := 0) st fun g => absurd g h5
 obtain ⟨⟨o0, o1⟩, ⟨d0, d1⟩, ⟨a0, a1⟩, ⟨b0, b1⟩, ⟨n0, n1⟩⟩ := dec_in (rdZ w p) h5
 have hn0 := dec_n0 h5
 rw [← e0, ← e4] at hn0
 rw [← e0] at o0 o1
 rw [← e1] at d0 d1
 rw [← e2] at a0 a1
 rw [← e3] at b0 b1
 have bA : ∀ S r, behAt w nr cS p S r ↔ behS nr cS op d a b nn S r := fun S r => by unfold behAt; rw [e0, e1, e2, e3, e4]
 have nA : ∀ t, nxtAt w nr p t ↔ nxtP nr op a nn p t := fun t => by unfold nxtAt; rw [e0, e2, e4]
 have hV : ∀ r, 0 ≤ r → r < 32 → (bT (qv V nc) p (1 + r) ↔ bitP s r) := fun r r0 r1 => by rw [hs, qKk]; exact qv_se p0 p1 r0 r1
 by_cases he : endsP nr op a nn
 ·have hT : T = (V, W, n) := by rw [hT]; unfold lpsT; rw [if_pos (.inr he)]
  rw [hT]
  refine done (S := -1) st fun _ => ⟨fun r r0 r1 _ => ?_, fun t ht => absurd he ((nA t).1 ht).1⟩
  unfold bitP
  have : BitVec.ofInt 32 (-1) = BitVec.allOnes 32 := by decide
  rw [this, BitVec.getLsbD_allOnes]; simp; omega
 have hS : ∀ r, 0 ≤ r → r < 32 → (bitP (lsbZ op d a b nn nr cS M s) r ↔ behAt w nr cS p (fun r => bT (qv V nc) p (1 + r)) r) := fun r r0 r1 => by
  rw [lsb_ok o0 d0 d1 he hM r r0 r1, bA]
  exact ⟨behS_32 a0 a1 b0 b1 (fun q q0 q1 k => (hV q q0 q1).2 k) r0 r1, behS_32 a0 a1 b0 b1 (fun q q0 q1 k => (hV q q0 q1).1 k) r0 r1⟩
 have ne : ¬ (op = 0 ∨ endsP nr op a nn) := fun g => g.elim (fun k => by omega) he
 have rc := fun {V' W' n' : Int} (h : Ps w nc nr cS p V (mWk V nc n) V' W' n') {t : Int} (t0 : 0 ≤ t) (hn : nxtAt w nr p t) => rch_ok (s := lsbZ op d a b nn nr cS M s) h hc p0 p1 hW.be hr h5 (fun r r0 r1 k => (hS r r0 r1).1 k) t0 hn
 by_cases hj : op = 39 ∨ op = 40
 ·have hT : T = rchT nc nn (lsbZ op d a b nn nr cS M s) (V, W, n) := by rw [hT]; unfold lpsT; rw [if_neg ne, if_pos hj]
  have hx : nxtAt w nr p nn := (nA nn).2 ⟨he, .inr (.inl ⟨hj, rfl⟩)⟩
  obtain ⟨g1, g2, _⟩ := rc st (hn0 (by omega)) hx
  rw [hT]
  refine done g1 fun _ => ⟨fun r r0 r1 k => (hS r r0 r1).2 k, fun t ht t0 => ?_⟩
  rcases ((nA t).1 ht).2 with ⟨k, _⟩ | ⟨_, k⟩ | ⟨k, _⟩
  ·omega
  ·rw [k]; exact g2
  ·omega
 by_cases hb : op = 36 ∨ op = 37 ∨ op = 38
 ·have hT : T = rchT nc (p + 1) (lsbZ op d a b nn nr cS M s) (rchT nc nn (lsbZ op d a b nn nr cS M s) (V, W, n)) := by rw [hT]; unfold lpsT; rw [if_neg ne, if_neg hj, if_pos hb]
  have hx : nxtAt w nr p nn := (nA nn).2 ⟨he, .inl ⟨hb, .inl rfl⟩⟩
  have hy : nxtAt w nr p (p + 1) := (nA (p + 1)).2 ⟨he, .inl ⟨hb, .inr rfl⟩⟩
  obtain ⟨g1, g2, _⟩ := rc st (hn0 (by omega)) hx
  obtain ⟨k1, k2, k3⟩ := rc g1 (t := p + 1) (by omega) hy
  rw [hT]
  refine done k1 fun _ => ⟨fun r r0 r1 k => (hS r r0 r1).2 k, fun t ht t0 => ?_⟩
  rcases ((nA t).1 ht).2 with ⟨_, k | k⟩ | ⟨k, _⟩ | ⟨k, _⟩
  ·rw [k]; exact k3 nn (hn0 (by omega)) g2
  ·rw [k]; exact k2
  ·omega
  ·omega
 have hT : T = rchT nc (p + 1) (lsbZ op d a b nn nr cS M s) (V, W, n) := by rw [hT]; unfold lpsT; rw [if_neg ne, if_neg hj, if_neg hb]
 have hx : nxtAt w nr p (p + 1) := (nA (p + 1)).2 ⟨he, .inr (.inr ⟨by omega, rfl⟩)⟩
 obtain ⟨g1, g2, _⟩ := rc st (t := p + 1) (by omega) hx
 rw [hT]
 refine done g1 fun _ => ⟨fun r r0 r1 k => (hS r r0 r1).2 k, fun t ht t0 => ?_⟩
 rcases ((nA t).1 ht).2 with ⟨k, _⟩ | ⟨k, _⟩ | ⟨_, k⟩
 ·omega
 ·omega
 ·rw [k]; exact g2
theorem wk_init (hp : 0 < nc) : Wk w nc nr cS (updZ 0 0 (qQq 1 (qQq 0 0))) (qQq 0 0) 1 (fun _ => False) := by
 have eV : updZ 0 0 (qQq 1 (qQq 0 0)) = lrvZ 0 0 0 := by
  unfold lrvZ
  rw [qZd, qZd]; rfl
 have hu := lrv_up (V := 0) (s := 0) (nc := nc) (by decide) hp
 have z0 : ∀ q f, 0 ≤ q → 0 ≤ f → f < 33 → ¬ bT (qv 0 nc) q f := fun q f q0 f0 f1 => by
  by_cases h : q < nc
  ·by_cases e : f = 0
   ·subst e; rw [qv_re q0 h, qZd, qZd]; decide
   ·obtain ⟨r, rfl⟩ : ∃ r, f = 1 + r := ⟨f - 1, by omega⟩
    rw [qv_se q0 h (by omega) (by omega), qZd, qZd]; exact qKx r
  ·rw [qv_out (by omega) q0, qZd, qZd]; decide
 rw [eV]
 have hse : ∀ q r, 0 ≤ q → 0 ≤ r → r < 32 → ¬ bT (qv (lrvZ 0 0 0) nc) q (1 + r) := fun q r q0 r0 r1 h => by
  by_cases e : q = 0
  ·subst e
   rcases (hu.se r r0 r1).1 h with k | k
   ·exact z0 0 (1 + r) (by decide) (by omega) (by omega) k
   ·exact qKx r k
  ·exact z0 q (1 + r) q0 (by omega) (by omega) ((hu.oth q (1 + r) q0 e (by omega) (by omega)).1 h)
 have hre : ∀ q, 0 ≤ q → bT (qv (lrvZ 0 0 0) nc) q 0 → q = 0 := fun q q0 h => Classical.byContradiction fun e => z0 q 0 q0 (by decide) (by decide) ((hu.oth q 0 q0 e (by decide) (by decide)).1 h)
 have hin : ∀ v, inP (qQq 0 0) 1 v ↔ v = 0 := fun v => by
  constructor
  ·rintro ⟨k, k0, k1, rfl⟩
   rw [show k = 0 by omega, qQy]; decide
  ·rintro rfl
   exact ⟨0, by decide, by decide, by rw [qQy]; decide⟩
 refine ⟨fun q q0 q1 => ?_, ⟨fun q q0 q1 h => ?_, fun q r q0 q1 r0 r1 h => absurd h (hse q r q0 r0 r1)⟩, fun _ => hu.re, by decide, ?_, fun v hv => ?_, fun q q0 q1 hr hn _ => ?_⟩
 ·rw [lrv_rd (by decide) q0]
  by_cases e : q = 0
  ·rw [if_pos e, (qXr _ _).1]; exact .inr (by decide)
  ·rw [if_neg e, qZd, qZd]; exact .inl (by decide)
 ·rw [hre q q0 h]; exact qXy.start hp
 ·have := up_more hu (n := nc.toNat) (by decide) (by omega) ⟨0, by decide, by decide, fun k => z0 0 0 (by decide) (by decide) (by decide) (k.1 hu.re)⟩
  omega
 ·rw [(hin v).1 hv]; exact ⟨by decide, hp, hu.re⟩
 ·exact absurd ((hin q).2 (hre q q0 hr)) hn
end
end Go.Eng
end
/-!  -/
noncomputable section
namespace Go.Eng
theorem dec_all (x : Int) : (0 ≤ decZ (IntKind.wrap .u32 x) 0 ∧ decZ (IntKind.wrap .u32 x) 0 ≤ 43) ∧ (0 ≤ decZ (IntKind.wrap .u32 x) 1 ∧ decZ (IntKind.wrap .u32 x) 1 ≤ 31) ∧ (0 ≤ decZ (IntKind.wrap .u32 x) 2 ∧ decZ (IntKind.wrap .u32 x) 2 ≤ 31) ∧
  (0 ≤ decZ (IntKind.wrap .u32 x) 3 ∧ decZ (IntKind.wrap .u32 x) 3 ≤ 31) ∧ (-32768 ≤ decZ (IntKind.wrap .u32 x) 4 ∧ decZ (IntKind.wrap .u32 x) 4 ≤ 65535) ∧ (decZ (IntKind.wrap .u32 x) 0 = 31 ∨ 0 ≤ decZ (IntKind.wrap .u32 x) 4) := by
 by_cases h5 : decZ (IntKind.wrap .u32 x) 5 = 0
 ·obtain ⟨⟨o0, o1⟩, ⟨d0, d1⟩, ⟨a0, a1⟩, ⟨b0, b1⟩, n0, n1⟩ := dec_in x h5
  refine ⟨⟨by omega, o1⟩, ⟨d0, by omega⟩, ⟨a0, by omega⟩, ⟨b0, by omega⟩, ⟨n0, n1⟩, ?_⟩
  by_cases e : decZ (IntKind.wrap .u32 x) 0 = 31
  ·exact .inl e
  ·exact .inr (dec_n0 h5 e)
 ·have hn : ¬ decP (IntKind.wrap .u32 x % 4294967296) := fun hp => h5 (by unfold decZ; simp only [if_true]; rw [if_pos hp])
  have z : ∀ k, k ≠ 5 → decZ (IntKind.wrap .u32 x) k = 0 := fun k hk => by
   unfold decZ
   simp only [if_neg hk]
   rw [if_pos hn]
  rw [z 0 (by decide), z 1 (by decide), z 2 (by decide), z 3 (by decide), z 4 (by decide)]
  omega
theorem dec_w64 (x k : Int) : IntKind.wrap .i64 (decZ x k) = decZ x k := by
 have := decZ_bd x k
 exact w64 (by omega) (by omega)
theorem ch5 (a b c d e : Int) {k : Int} (k0 : 0 ≤ k) (k1 : k < 5) : rdZ (qQq a (qQq b (qQq c (qQq d (qQq e 0))))) k = if k = 0 then a else if k = 1 then b else if k = 2 then c else if k = 3 then d else e := by
 have h := qXp [a, b, c, d, e]
 have h0 : rdZ (qQq a (qQq b (qQq c (qQq d (qQq e 0))))) 0 = a := h 0
 have h1 : rdZ (qQq a (qQq b (qQq c (qQq d (qQq e 0))))) 1 = b := h 1
 have h2 : rdZ (qQq a (qQq b (qQq c (qQq d (qQq e 0))))) 2 = c := h 2
 have h3 : rdZ (qQq a (qQq b (qQq c (qQq d (qQq e 0))))) 3 = d := h 3
 have h4 : rdZ (qQq a (qQq b (qQq c (qQq d (qQq e 0))))) 4 = e := h 4
 rcases (by omega : k = 0 ∨ k = 1 ∨ k = 2 ∨ k = 3 ∨ k = 4) with rfl | rfl | rfl | rfl | rfl
 ·rw [if_pos rfl]; exact h0
 ·rw [if_neg (by decide), if_pos rfl]; exact h1
 ·rw [if_neg (by decide), if_neg (by decide), if_pos rfl]; exact h2
 ·rw [if_neg (by decide), if_neg (by decide), if_neg (by decide), if_pos rfl]; exact h3
 ·rw [if_neg (by decide), if_neg (by decide), if_neg (by decide), if_neg (by decide)]; exact h4
def InsOk (w q n : Int) : Prop := ∀ j : Int, 0 ≤ j → j < n → ∀ k : Int, 0 ≤ k → k < 5 → rdZ (rdZ q j) k = decZ (IntKind.wrap .u32 (rdZ w j)) k
theorem ins_snoc {w q n : Int} (h : InsOk w q n) (n0 : 0 ≤ n) : InsOk w (updZ q n (qQq (decZ (IntKind.wrap .u32 (rdZ w n)) 0) (qQq (decZ (IntKind.wrap .u32 (rdZ w n)) 1) (qQq (decZ (IntKind.wrap .u32 (rdZ w n)) 2) (qQq (decZ (IntKind.wrap .u32 (rdZ w n)) 3) (qQq (decZ (IntKind.wrap .u32 (rdZ w n)) 4) 0)))))) (n + 1) := by
 intro j j0 j1 k k0 k1
 rw [qQh]
 by_cases e : j = n
 ·subst e
  rw [if_pos rfl, ch5 _ _ _ _ _ k0 k1]
  rcases (by omega : k = 0 ∨ k = 1 ∨ k = 2 ∨ k = 3 ∨ k = 4) with rfl | rfl | rfl | rfl | rfl <;> rfl
 ·rw [if_neg (by omega)]; exact h j j0 (by omega) k k0 k1
theorem row_u {R Q n : Int} (h : ∀ k : Int, 0 ≤ k → k < n → IntKind.wrap .u32 (rdZ R k) = IntKind.wrap .u32 (rdZ Q k)) : qQf [.int .u32] R Q n := by
 intro i hi
 show [Value.int .u32 (IntKind.wrap .u32 (rdZ R i))] = [Value.int .u32 (IntKind.wrap .u32 (rdZ Q i))]
 rw [h i (by omega) hi]
end Go.Eng
end
/-!  -/
noncomputable section
namespace Go.Eng
def SbI (f : Nat → Bool) (x r : Int) : Prop := (-1 ≤ r ∧ r ≤ 31) ∧ 0 ≤ x ∧ sumP f 32 = sumP f (r + 1).toNat + 2 ^ (r + 1).toNat * x
theorem sb_start (f : Nat → Bool) : SbI f 0 31 := ⟨by decide, by decide, by simp⟩
theorem sb_step {f : Nat → Bool} {x r b : Int} (h : SbI f x r) (r0 : 0 ≤ r) (hb : b = if f r.toNat = true then 1 else 0) : SbI f (2 * x + b) (r - 1) ∧ 2 * x + 1 ≤ 4294967295 := by
 obtain ⟨⟨h0, h1⟩, hx, hs⟩ := h
 obtain ⟨k, rfl⟩ : ∃ k : Nat, r = k := ⟨r.toNat, by omega⟩
 rw [Int.toNat_natCast] at hb
 rw [show ((k : Int) + 1).toNat = k + 1 by omega] at hs
 have hp : (2 : Int) ^ (k + 1) = 2 * 2 ^ k := by rw [Int.pow_succ, Int.mul_comm]
 have es : sumP f (k + 1) = sumP f k + if f k = true then 2 ^ k else 0 := rfl
 rw [hp, es] at hs
 have hN : (1 : Int) ≤ 2 ^ k := by
  have : ((2 ^ k : Nat) : Int) = (2 : Int) ^ k := by simp
  have := Nat.one_le_two_pow (n := k)
  omega
 have h32 := sum_bit f 32
 have hk := sum_bit f k
 have e32 : (2 : Int) ^ 32 = 4294967296 := by decide
 rw [e32] at h32
 have h320 := h32.1
 have h321 := h32.2.1
 have hk0 := hk.1
 clear h32 hk es hp e32
 unfold SbI
 rw [show ((k : Int) - 1 + 1).toNat = k by omega]
 generalize sumP f 32 = S at hs h320 h321 ⊢
 generalize sumP f k = Q at hs hk0 ⊢
 generalize (2 : Int) ^ k = N at hN hs ⊢
 have hm : 2 * N * x = 2 * (N * x) := by rw [Int.mul_assoc]
 have hge : x ≤ N * x := by
  have : 0 ≤ (N - 1) * x := Int.mul_nonneg (by omega) hx
  have e : (N - 1) * x = N * x - x := by rw [Int.sub_mul, Int.one_mul]
  omega
 rw [hm] at hs
 have hmul : N * (2 * x + b) = 2 * (N * x) + N * b := by
  rw [Int.mul_add, ← Int.mul_assoc, Int.mul_comm N 2, Int.mul_assoc]
 by_cases g : f k = true
 ·rw [if_pos g] at hb hs
  subst hb
  rw [Int.mul_one] at hmul
  exact ⟨⟨⟨by omega, by omega⟩, by omega, by omega⟩, by omega⟩
 ·rw [if_neg g] at hb hs
  subst hb
  rw [Int.mul_zero] at hmul
  exact ⟨⟨⟨by omega, by omega⟩, by omega, by omega⟩, by omega⟩
theorem sb_end {f : Nat → Bool} {x r : Int} (h : SbI f x r) (hr : r < 0) : x = sumP f 32 := by
 obtain ⟨⟨h0, h1⟩, hx, hs⟩ := h
 obtain rfl : r = -1 := by omega
 have e : ((-1 : Int) + 1).toNat = 0 := by decide
 rw [e, sumP] at hs
 have e0 : (2 : Int) ^ 0 = 1 := by decide
 rw [e0] at hs
 omega
open Classical in
theorem sct_sum {w nc nr cS z p : Int} (z0 : rdZ z 0 = nr) (z1 : rdZ z 1 = cS) (p0 : 0 ≤ p) (p1 : p < nc) : ∃ f : Nat → Bool, (∀ r : Nat, f r = true ↔ (qQd w nc nr cS).se p r) ∧ rdZ (sctZ w nc z) p = sumP f 32 := by
 refine ⟨fun r => decide ((qQd w nc nr cS).se p r), fun r => by simp only [decide_eq_true_eq], ?_⟩
 unfold sctZ
 rw [z0, z1]
 have h := sct_at (qQd w nc nr cS) nc.toNat p.toNat (by omega)
 rwa [show ((p.toNat : Nat) : Int) = p by omega] at h
end Go.Eng
end
/-!  -/
noncomputable section
namespace Go.Eng
end Go.Eng
end
/-!  -/
noncomputable section
namespace Go.Eng
section
variable {w nr cS : Int} {nc : Nat} {L : Lv}
end
end Go.Eng
end
/-!  -/
noncomputable section
namespace Go.Eng
def exW : Int := qQq 2283798528 (qQq 2418016256 (qQq 2885681152 0))
theorem ex_rd : rdZ exW 0 = 2283798528 ∧ rdZ exW 1 = 2418016256 ∧ rdZ exW 2 = 2885681152 := by
 have h := qXp [2283798528, 2418016256, 2885681152]
 exact ⟨h 0, h 1, h 2⟩
theorem ex0 : (decZ (IntKind.wrap .u32 (rdZ exW 0)) 0 = 34 ∧ decZ (IntKind.wrap .u32 (rdZ exW 0)) 1 = 1 ∧ decZ (IntKind.wrap .u32 (rdZ exW 0)) 2 = 0) ∧ decZ (IntKind.wrap .u32 (rdZ exW 0)) 3 = 0 ∧ decZ (IntKind.wrap .u32 (rdZ exW 0)) 4 = 0 ∧ decZ (IntKind.wrap .u32 (rdZ exW 0)) 5 = 0 := by
 rw [ex_rd.1]; decide
theorem ex1 : (decZ (IntKind.wrap .u32 (rdZ exW 1)) 0 = 36 ∧ decZ (IntKind.wrap .u32 (rdZ exW 1)) 1 = 1 ∧ decZ (IntKind.wrap .u32 (rdZ exW 1)) 2 = 0) ∧ decZ (IntKind.wrap .u32 (rdZ exW 1)) 3 = 0 ∧ decZ (IntKind.wrap .u32 (rdZ exW 1)) 4 = 0 ∧ decZ (IntKind.wrap .u32 (rdZ exW 1)) 5 = 0 := by
 rw [ex_rd.2.1]; decide
theorem ex2 : (decZ (IntKind.wrap .u32 (rdZ exW 2)) 0 = 43 ∧ decZ (IntKind.wrap .u32 (rdZ exW 2)) 1 = 0 ∧ decZ (IntKind.wrap .u32 (rdZ exW 2)) 2 = 0) ∧ decZ (IntKind.wrap .u32 (rdZ exW 2)) 3 = 0 ∧ decZ (IntKind.wrap .u32 (rdZ exW 2)) 4 = 0 ∧ decZ (IntKind.wrap .u32 (rdZ exW 2)) 5 = 0 := by
 rw [ex_rd.2.2]; decide
theorem ex_closed {cS : Int} {K : Prop} (h : rdZ cS 0 ≠ 0 → K) : ClosedL exW 3 1 cS ⟨fun _ => True, fun _ r => r = 1 ∧ K⟩ := by
 refine ⟨fun _ => trivial, fun pc t p0 p1 _ _ hn t0 t1 => ⟨trivial, fun r r0 r1 hb => ?_⟩⟩
 rcases (by omega : pc = 0 ∨ pc = 1 ∨ pc = 2) with rfl | rfl | rfl
 ·obtain ⟨⟨e0, e1, e2⟩, e3, e4, _⟩ := ex0
  rw [e0, e1, e2, e3, e4] at hb
  rcases hb with ⟨_, ⟨k1, k2, _⟩ | ⟨_, k⟩⟩ | ⟨_, k⟩
  ·refine ⟨k1, ?_⟩
   rcases k2 with ⟨g, _⟩ | ⟨g, _⟩ | ⟨_, _, _, g⟩ | ⟨_, g, _⟩
   ·exact absurd g (by decide)
   ·exact absurd g (by decide)
   ·exact h g
   ·exact absurd rfl g
  ·exact k
  ·exact k
 ·obtain ⟨⟨e0, e1, e2⟩, e3, e4, _⟩ := ex1
  rw [e0, e1, e2, e3, e4] at hb
  rcases hb with ⟨g, _⟩ | ⟨_, k⟩
  ·exact absurd g (by unfold putsP; decide)
  ·exact k
 ·obtain ⟨⟨e0, e1, e2⟩, e3, e4, _⟩ := ex2
  rw [e0, e2, e4] at hn
  exact absurd (.inr (.inl rfl)) hn.1
theorem ex_not0 {cS : Int} : ¬ qZn exW 1 cS (qQd exW 3 1 cS) 0 := by
 rintro ⟨_, _, hw⟩
 obtain ⟨⟨e0, e1, e2⟩, e3, e4, _⟩ := ex0
 rw [e0, e1, e2, e3, e4] at hw
 rcases hw with ⟨g, _⟩ | ⟨_, g⟩ | ⟨g, _⟩ | ⟨g, _⟩ | ⟨g, _⟩ | g
 ·exact absurd g (by decide)
 ·exact least_zero 0 g
 ·exact absurd g (by decide)
 ·exact absurd g (by decide)
 ·exact absurd g (by decide)
 ·exact absurd g (by decide)
theorem ex_open {cI : Int} {cS : Int} : ¬ openIn cS cI 0 := fun ⟨_, j0, j1, _⟩ => by omega
theorem ex_sec {cS : Int} (h : rdZ cS 0 ≠ 0) : (qQd exW 3 1 cS).re 1 ∧ (qQd exW 3 1 cS).se 1 1 := by
 have hc := qXy (w := exW) (nc := 3) (nr := 1) (cS := cS)
 obtain ⟨⟨e0, e1, e2⟩, e3, e4, e5⟩ := ex0
 have hn := hc.next 0 1 (by decide) (by decide) (hc.start (by decide)) e5
 rw [e0, e1, e2, e3, e4] at hn
 have hx := hn ⟨by unfold endsP; omega, .inr (.inr ⟨by decide, by decide⟩)⟩ (by decide) (by decide)
 exact ⟨hx.1, hx.2 1 (by decide) (by decide) (.inl ⟨by unfold putsP; omega, .inl ⟨rfl, .inr (.inr (.inl ⟨rfl, rfl, by decide, h⟩)), by decide⟩⟩)⟩
theorem ex_fpc1 {cS cI : Int} (h : rdZ cS 0 ≠ 0) : fpcF exW 3 1 cS cI 0 = 1 := by
 refine fpc_found ex_open (by decide) (by decide) ?_ fun k k0 k1 => by rw [show k = 0 by omega]; exact ex_not0
 obtain ⟨⟨e0, e1, e2⟩, e3, e4, e5⟩ := ex1
 obtain ⟨h1, h2⟩ := ex_sec h
 refine ⟨h1, e5, ?_⟩
 rw [e0, e1, e2, e3, e4]
 exact .inr (.inr (.inr (.inr (.inl ⟨.inl rfl, .inl h2⟩))))
theorem ex_fpc0 {cS cI : Int} (h : rdZ cS 0 = 0) : fpcF exW 3 1 cS cI 0 = 3 := by
 have hno : ∀ p r, ¬ (qQd exW 3 1 cS).se p r := fun p r k => (least_se (ex_closed (K := False) (fun g => g h)) k).2
 refine fpc_none ex_open (by decide) fun k k0 k1 => ?_
 rcases (by omega : k = 0 ∨ k = 1 ∨ k = 2) with rfl | rfl | rfl
 ·exact ex_not0
 ·rintro ⟨_, _, hw⟩
  obtain ⟨⟨e0, e1, e2⟩, e3, e4, _⟩ := ex1
  rw [e0, e1, e2, e3, e4] at hw
  rcases hw with ⟨g, _⟩ | ⟨_, g⟩ | ⟨g, _⟩ | ⟨g, _⟩ | ⟨_, g | g⟩ | g
  ·exact absurd g (by decide)
  ·exact hno _ _ g
  ·exact absurd g (by decide)
  ·exact absurd g (by decide)
  ·exact hno _ _ g
  ·exact hno _ _ g
  ·exact absurd g (by decide)
 ·rintro ⟨_, _, hw⟩
  obtain ⟨⟨e0, e1, e2⟩, e3, e4, _⟩ := ex2
  rw [e0, e1, e2, e3, e4] at hw
  rcases hw with ⟨g, _⟩ | ⟨g, _⟩ | ⟨g, _⟩ | ⟨g, _⟩ | ⟨g, _⟩ | g
  ·exact absurd g (by decide)
  ·exact absurd g (by decide)
  ·exact absurd g (by decide)
  ·exact absurd g (by decide)
  ·exact absurd g (by decide)
  ·exact absurd g (by decide)
theorem ex_word {cS z : Int} (z0 : rdZ z 0 = 1) (z1 : rdZ z 1 = cS) (h : rdZ cS 0 ≠ 0) : IntKind.wrap .u32 (rdZ (sctZ exW 3 z) 1) = 2 := by
 obtain ⟨a1, a2⟩ := sct_rd (w := exW) (nc := 3) z0 z1 (p := 1) (by decide) (by decide)
 have e := bits_ext (a := rdZ (sctZ exW 3 z) 1) (b := 2) fun r r0 r1 => by
  rw [a2 r r0 r1]
  have h2 : bitP 2 r ↔ r = 1 := by
   obtain ⟨k, rfl⟩ : ∃ k : Nat, r = k := ⟨r.toNat, by omega⟩
   unfold bitP
   rw [Int.toNat_natCast, show BitVec.ofInt 32 2 = BitVec.ofNat 32 (2 ^ 1) by decide, BitVec.getLsbD_ofNat, Nat.testBit_two_pow]
   simp only [Bool.and_eq_true, decide_eq_true_eq]
   omega
  rw [h2]
  exact ⟨fun k => (least_se (ex_closed (K := True) (fun _ => trivial)) k).1, fun k => by rw [k]; exact (ex_sec h).2⟩
 rw [e]; decide
theorem ex_chk (cI cO : Int) : chk7 3 1 1 0 0 cI cO = 0 := by
 unfold chk7
 rw [if_neg (by decide), if_neg, if_neg]
 ·unfold twP
  rintro ⟨i, j, h⟩
  omega
 ·rintro (g | g | g)
  ·exact g rfl
  ·exact g fun i hi => by omega
  ·exact g fun i hi => by omega
end Go.Eng
end
