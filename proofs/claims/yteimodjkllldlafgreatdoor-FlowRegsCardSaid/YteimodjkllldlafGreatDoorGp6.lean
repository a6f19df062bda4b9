/-
  Parts of the engine, a program's symbolic run, proved sound; and of plain laws.
-/
import Derived.Test.YteimodjkllldlafGreatDoorGp5
set_option linter.unusedVariables false
set_option linter.unusedSimpArgs false
/-!  -/
noncomputable section
namespace Go.Eng
theorem any_some {c n : Int} : anyZ c n 1 ≠ 0 ↔ ∃ j : Int, 0 ≤ j ∧ j < n ∧ rdZ c j ≠ 0 := by
 unfold anyZ
 split
 ·rename_i h
  obtain ⟨j, j0, j1, k⟩ := h
  exact ⟨fun _ => ⟨j, j0, j1, k.2 (by decide)⟩, fun _ => by decide⟩
 ·rename_i h
  exact ⟨fun k => absurd rfl k, fun ⟨j, j0, j1, k⟩ => absurd ⟨j, j0, j1, ⟨fun _ => by decide, fun _ => k⟩⟩ h⟩
theorem lsb_ok {op d a b n nr cS m s : Int} (o1 : 1 ≤ op) (d0 : 0 ≤ d) (d1 : d < 32) (he : ¬ qXm nr op a n) (hm : m = anyZ cS nr 1) (r : Int) (r0 : 0 ≤ r) (r1 : r < 32) :
  bitP (lsbZ op d a b n nr cS m s) r ↔ behS nr cS op d a b n (fun r => bitP s r) r := by
 have hp : putsP op ↔ (op ≤ 34 ∨ op = 40) := Iff.rfl
 unfold lsbZ behS
 by_cases h : op ≤ 34 ∨ op = 40
 ·rw [if_pos h]
  have hd : fseZ op a (qQq b (qQq n (qQq s (qQq nr (qQq cS (qQq m 0)))))) ≠ 0 ↔ dsec nr cS op a b n (fun r => bitP s r) := by
   have hf := fse_zero (op := op) (a := a) (b := b) (n := n) (s := s) (nS := nr) (cS := cS) (m := m)
   rw [ne_eq, hf, Classical.not_not, hm, any_some]
   unfold dsec
   unfold qXm at he
   obtain ⟨A, hA⟩ := num_of (bitP s a)
   obtain ⟨B, hB⟩ := num_of (bitP s b)
   obtain ⟨Y, hY⟩ := num_of (∃ j : Int, 0 ≤ j ∧ j < nr ∧ rdZ cS j ≠ 0)
   simp only [hA, hB, hY]
   generalize rdZ cS n = N
   clear hA hB hY hf hm hp
   constructor
   ·rintro (g | g | g | g)
    ·exact .inl ⟨by omega, .inr g⟩
    ·by_cases k : op ≤ 30
     ·exact .inl ⟨k, .inl g.2⟩
     ·by_cases k2 : op = 31 ∨ op = 32
      ·exact .inr (.inl ⟨k2, g.2⟩)
      ·omega
    ·exact .inr (.inr (.inl ⟨g.1, g.2.1, by omega, g.2.2⟩))
    ·exact .inr (.inr (.inr g))
   ·rintro (⟨g, k | k⟩ | g | g | g)
    ·exact .inr (.inl ⟨by omega, k⟩)
    ·exact .inl k
    ·exact .inr (.inl ⟨by omega, g.2⟩)
    ·exact .inr (.inr (.inl ⟨g.1, g.2.1, g.2.2.2⟩))
    ·exact .inr (.inr (.inr g))
  have b1 := bit_not (s := s) d0 d1 r r0 r1
  have b2 := bit_one0 d0 d1 r r0 r1
  by_cases g : fseZ op a (qQq b (qQq n (qQq s (qQq nr (qQq cS (qQq m 0)))))) ≠ 0
  ·rw [if_pos g, bit_or, b1, b2]
   have gd := hd.1 g
   unfold putQ
   constructor
   ·rintro (⟨k1, k2⟩ | ⟨k1, k2⟩)
    ·exact .inl ⟨h, .inr ⟨k2, k1⟩⟩
    ·exact .inl ⟨h, .inl ⟨k1, gd, k2⟩⟩
   ·rintro (⟨_, ⟨k1, _, k2⟩ | ⟨k1, k2⟩⟩ | ⟨k, _⟩)
    ·exact .inr ⟨k1, k2⟩
    ·exact .inl ⟨k2, k1⟩
    ·exact absurd h k
  ·rw [if_neg g, b1]
   have gd := fun k => g (hd.2 k)
   unfold putQ
   constructor
   ·rintro ⟨k1, k2⟩; exact .inl ⟨h, .inr ⟨k2, k1⟩⟩
   ·rintro (⟨_, ⟨_, k1, _⟩ | ⟨k1, k2⟩⟩ | ⟨k, _⟩)
    ·exact absurd k1 gd
    ·exact ⟨k2, k1⟩
    ·exact absurd h k
 ·rw [if_neg h]
  constructor
  ·intro k; exact .inr ⟨h, k⟩
  ·rintro (⟨k, _⟩ | ⟨_, k⟩)
   ·exact absurd k h
   ·exact k
section
variable {w nc nr cS p V0 V W n s : Int} {m : Nat}
theorem rch_ok (h : Ps w nc nr cS p V0 m V W n) (hc : nc ≤ 16384) (p0 : 0 ≤ p) (p1 : p < nc) (b0 : Below w nc nr cS (qv V0 nc)) (hr : bT (qv V0 nc) p 0) (h5 : decZ (IntKind.wrap .u32 (rdZ w p)) 5 = 0)
  (hY : ∀ r, 0 ≤ r → r < 32 → bitP s r → behAt w nr cS p (fun r => bT (qv V0 nc) p (1 + r)) r) {t : Int} (t0 : 0 ≤ t) (hn : nxtAt w nr p t) :
  Ps w nc nr cS p V0 m (rchT nc t s (V, W, n)).1 (rchT nc t s (V, W, n)).2.1 (rchT nc t s (V, W, n)).2.2 ∧ Dn nc s (rchT nc t s (V, W, n)).1 t ∧ ∀ x, 0 ≤ x → Dn nc s V x → Dn nc s (rchT nc t s (V, W, n)).1 x := by
 obtain ⟨g1, g2⟩ := ps_reach h hc p0 p1 b0 hr h5 hY (z := qQq s (qQq V 0)) (qKq s V).1 (qKq s V).2 t0 hn
 unfold rchT
 by_cases hl : lrcZ nc t (qQq s (qQq V 0)) ≠ 0
 ·rw [if_pos hl]; exact g2 hl
 ·rw [if_neg hl]; exact ⟨h, g1 (Classical.byContradiction hl), fun x _ hx => hx⟩
theorem pass_ok (hW : Wk w nc nr cS V W n (fun x => x = p)) (hc : nc ≤ 16384) (p0 : 0 ≤ p) (p1 : p < nc) (hr : bT (qv V nc) p 0) {op d a b nn M : Int} (e0 : op = decZ (IntKind.wrap .u32 (rdZ w p)) 0) (e1 : d = decZ (IntKind.wrap .u32 (rdZ w p)) 1) (e2 : a = decZ (IntKind.wrap .u32 (rdZ w p)) 2)
  (e3 : b = decZ (IntKind.wrap .u32 (rdZ w p)) 3) (e4 : nn = decZ (IntKind.wrap .u32 (rdZ w p)) 4) (hM : M = anyZ cS nr 1) (hs : s = IntKind.wrap .u32 (rdZ (rdZ V p) 1)) {T : Int × Int × Int} (hT : T = lpsT op d a b nn p nc nr cS M s (V, W, n)) :
  Wk w nc nr cS T.1 T.2.1 T.2.2 (fun _ => False) ∧ mWk T.1 nc T.2.2 ≤ mWk V nc n := by
 have st := ps_start hW
 have done : ∀ {S V' W' n' : Int}, Ps w nc nr cS p V (mWk V nc n) V' W' n' → (decZ (IntKind.wrap .u32 (rdZ w p)) 5 = 0 → (∀ r, 0 ≤ r → r < 32 → behAt w nr cS p (fun r => bT (qv V nc) p (1 + r)) r → bitP S r) ∧ ∀ t, nxtAt w nr p t → 0 ≤ t → Dn nc S V' t) →
   Wk w nc nr cS V' W' n' (fun _ => False) ∧ mWk V' nc n' ≤ mWk V nc n := fun h hd => ⟨ps_end h p0 hd, h.ms⟩
 by_cases h5 : decZ (IntKind.wrap .u32 (rdZ w p)) 5 = 0
 case neg =>
  have o : op = 0 := Classical.byContradiction fun g => h5 (dec_ok5.1 (by rw [← e0]; exact g))
  have hT : T = (V, W, n) := by rw [hT]; unfold lpsT; rw [if_pos (.inl o)]
  rw [hT]
  exact done (S := 0) st fun g => absurd g h5
 obtain ⟨⟨o0, o1⟩, ⟨d0, d1⟩, ⟨a0, a1⟩, ⟨b0, b1⟩, ⟨n0, n1⟩⟩ := dec_in (rdZ w p) h5
 have hn0 := dec_n0 h5
 rw [← e0, ← e4] at hn0
 rw [← e0] at o0 o1
 rw [← e1] at d0 d1
 rw [← e2] at a0 a1
 rw [← e3] at b0 b1
 have bA : ∀ S r, behAt w nr cS p S r ↔ behS nr cS op d a b nn S r := fun S r => by unfold behAt; rw [e0, e1, e2, e3, e4]
 have nA : ∀ t, nxtAt w nr p t ↔ nxtP nr op a nn p t := fun t => by unfold nxtAt; rw [e0, e2, e4]
 have hV : ∀ r, 0 ≤ r → r < 32 → (bT (qv V nc) p (1 + r) ↔ bitP s r) := fun r r0 r1 => by rw [hs, qXo]; exact qv_se p0 p1 r0 r1
 by_cases he : qXm nr op a nn
 ·have hT : T = (V, W, n) := by rw [hT]; unfold lpsT; rw [if_pos (.inr he)]
  rw [hT]
  refine done (S := -1) st fun _ => ⟨fun r r0 r1 _ => ?_, fun t ht => absurd he ((nA t).1 ht).1⟩
  unfold bitP
  have : BitVec.ofInt 32 (-1) = BitVec.allOnes 32 := by decide
  rw [this, BitVec.getLsbD_allOnes]; simp; omega
 have hS : ∀ r, 0 ≤ r → r < 32 → (bitP (lsbZ op d a b nn nr cS M s) r ↔ behAt w nr cS p (fun r => bT (qv V nc) p (1 + r)) r) := fun r r0 r1 => by
  rw [lsb_ok o0 d0 d1 he hM r r0 r1, bA]
  exact ⟨behS_32 a0 a1 b0 b1 (fun q q0 q1 k => (hV q q0 q1).2 k) r0 r1, behS_32 a0 a1 b0 b1 (fun q q0 q1 k => (hV q q0 q1).1 k) r0 r1⟩
 have ne : ¬ (op = 0 ∨ qXm nr op a nn) := fun g => g.elim (fun k => by omega) he
 have rc := fun {V' W' n' : Int} (h : Ps w nc nr cS p V (mWk V nc n) V' W' n') {t : Int} (t0 : 0 ≤ t) (hn : nxtAt w nr p t) => rch_ok (s := lsbZ op d a b nn nr cS M s) h hc p0 p1 hW.be hr h5 (fun r r0 r1 k => (hS r r0 r1).1 k) t0 hn
 by_cases hj : op = 39 ∨ op = 40
 ·have hT : T = rchT nc nn (lsbZ op d a b nn nr cS M s) (V, W, n) := by rw [hT]; unfold lpsT; rw [if_neg ne, if_pos hj]
  have hx : nxtAt w nr p nn := (nA nn).2 ⟨he, .inr (.inl ⟨hj, rfl⟩)⟩
  obtain ⟨g1, g2, _⟩ := rc st (hn0 (by omega)) hx
  rw [hT]
  refine done g1 fun _ => ⟨fun r r0 r1 k => (hS r r0 r1).2 k, fun t ht t0 => ?_⟩
  rcases ((nA t).1 ht).2 with ⟨k, _⟩ | ⟨_, k⟩ | ⟨k, _⟩
  ·omega
  ·rw [k]; exact g2
  ·omega
 by_cases hb : op = 36 ∨ op = 37 ∨ op = 38
 ·have hT : T = rchT nc (p + 1) (lsbZ op d a b nn nr cS M s) (rchT nc nn (lsbZ op d a b nn nr cS M s) (V, W, n)) := by rw [hT]; unfold lpsT; rw [if_neg ne, if_neg hj, if_pos hb]
  have hx : nxtAt w nr p nn := (nA nn).2 ⟨he, .inl ⟨hb, .inl rfl⟩⟩
  have hy : nxtAt w nr p (p + 1) := (nA (p + 1)).2 ⟨he, .inl ⟨hb, .inr rfl⟩⟩
  obtain ⟨g1, g2, _⟩ := rc st (hn0 (by omega)) hx
  obtain ⟨k1, k2, k3⟩ := rc g1 (t := p + 1) (by omega) hy
  rw [hT]
  refine done k1 fun _ => ⟨fun r r0 r1 k => (hS r r0 r1).2 k, fun t ht t0 => ?_⟩
  rcases ((nA t).1 ht).2 with ⟨_, k | k⟩ | ⟨k, _⟩ | ⟨k, _⟩
  ·rw [k]; exact k3 nn (hn0 (by omega)) g2
  ·rw [k]; exact k2
  ·omega
  ·omega
 have hT : T = rchT nc (p + 1) (lsbZ op d a b nn nr cS M s) (V, W, n) := by rw [hT]; unfold lpsT; rw [if_neg ne, if_neg hj, if_neg hb]
 have hx : nxtAt w nr p (p + 1) := (nA (p + 1)).2 ⟨he, .inr (.inr ⟨by omega, rfl⟩)⟩
 obtain ⟨g1, g2, _⟩ := rc st (t := p + 1) (by omega) hx
 rw [hT]
 refine done g1 fun _ => ⟨fun r r0 r1 k => (hS r r0 r1).2 k, fun t ht t0 => ?_⟩
 rcases ((nA t).1 ht).2 with ⟨k, _⟩ | ⟨k, _⟩ | ⟨_, k⟩
 ·omega
 ·omega
 ·rw [k]; exact g2
theorem wk_init (hp : 0 < nc) : Wk w nc nr cS (updZ 0 0 (qQq 1 (qQq 0 0))) (qQq 0 0) 1 (fun _ => False) := by
 have eV : updZ 0 0 (qQq 1 (qQq 0 0)) = lrvZ 0 0 0 := by
  unfold lrvZ
  rw [qZn, qZn]; rfl
 have hu := lrv_up (V := 0) (s := 0) (nc := nc) (by decide) hp
 have z0 : ∀ q f, 0 ≤ q → 0 ≤ f → f < 33 → ¬ bT (qv 0 nc) q f := fun q f q0 f0 f1 => by
  by_cases h : q < nc
  ·by_cases e : f = 0
   ·subst e; rw [qv_re q0 h, qZn, qZn]; decide
   ·obtain ⟨r, rfl⟩ : ∃ r, f = 1 + r := ⟨f - 1, by omega⟩
    rw [qv_se q0 h (by omega) (by omega), qZn, qZn]; exact qKa r
  ·rw [qv_out (by omega) q0, qZn, qZn]; decide
 rw [eV]
 have hse : ∀ q r, 0 ≤ q → 0 ≤ r → r < 32 → ¬ bT (qv (lrvZ 0 0 0) nc) q (1 + r) := fun q r q0 r0 r1 h => by
  by_cases e : q = 0
  ·subst e
   rcases (hu.se r r0 r1).1 h with k | k
   ·exact z0 0 (1 + r) (by decide) (by omega) (by omega) k
   ·exact qKa r k
  ·exact z0 q (1 + r) q0 (by omega) (by omega) ((hu.oth q (1 + r) q0 e (by omega) (by omega)).1 h)
 have hre : ∀ q, 0 ≤ q → bT (qv (lrvZ 0 0 0) nc) q 0 → q = 0 := fun q q0 h => Classical.byContradiction fun e => z0 q 0 q0 (by decide) (by decide) ((hu.oth q 0 q0 e (by decide) (by decide)).1 h)
 have hin : ∀ v, inP (qQq 0 0) 1 v ↔ v = 0 := fun v => by
  constructor
  ·rintro ⟨k, k0, k1, rfl⟩
   rw [show k = 0 by omega, qQy]; decide
  ·rintro rfl
   exact ⟨0, by decide, by decide, by rw [qQy]; decide⟩
 refine ⟨fun q q0 q1 => ?_, ⟨fun q q0 q1 h => ?_, fun q r q0 q1 r0 r1 h => absurd h (hse q r q0 r0 r1)⟩, fun _ => hu.re, by decide, ?_, fun v hv => ?_, fun q q0 q1 hr hn _ => ?_⟩
 ·rw [lrv_rd (by decide) q0]
  by_cases e : q = 0
  ·rw [if_pos e, (qKq _ _).1]; exact .inr (by decide)
  ·rw [if_neg e, qZn, qZn]; exact .inl (by decide)
 ·rw [hre q q0 h]; exact qJh.start hp
 ·have := up_more hu (n := nc.toNat) (by decide) (by omega) ⟨0, by decide, by decide, fun k => z0 0 0 (by decide) (by decide) (by decide) (k.1 hu.re)⟩
  omega
 ·rw [(hin v).1 hv]; exact ⟨by decide, hp, hu.re⟩
 ·exact absurd ((hin q).2 (hre q q0 hr)) hn
end
end Go.Eng
end
/-!  -/
noncomputable section
namespace Go.Eng
theorem dec_all (x : Int) : (0 ≤ decZ (IntKind.wrap .u32 x) 0 ∧ decZ (IntKind.wrap .u32 x) 0 ≤ 43) ∧ (0 ≤ decZ (IntKind.wrap .u32 x) 1 ∧ decZ (IntKind.wrap .u32 x) 1 ≤ 31) ∧ (0 ≤ decZ (IntKind.wrap .u32 x) 2 ∧ decZ (IntKind.wrap .u32 x) 2 ≤ 31) ∧
  (0 ≤ decZ (IntKind.wrap .u32 x) 3 ∧ decZ (IntKind.wrap .u32 x) 3 ≤ 31) ∧ (-32768 ≤ decZ (IntKind.wrap .u32 x) 4 ∧ decZ (IntKind.wrap .u32 x) 4 ≤ 65535) ∧ (decZ (IntKind.wrap .u32 x) 0 = 31 ∨ 0 ≤ decZ (IntKind.wrap .u32 x) 4) := by
 by_cases h5 : decZ (IntKind.wrap .u32 x) 5 = 0
 ·obtain ⟨⟨o0, o1⟩, ⟨d0, d1⟩, ⟨a0, a1⟩, ⟨b0, b1⟩, n0, n1⟩ := dec_in x h5
  refine ⟨⟨by omega, o1⟩, ⟨d0, by omega⟩, ⟨a0, by omega⟩, ⟨b0, by omega⟩, ⟨n0, n1⟩, ?_⟩
  by_cases e : decZ (IntKind.wrap .u32 x) 0 = 31
  ·exact .inl e
  ·exact .inr (dec_n0 h5 e)
 ·have hn : ¬ decP (IntKind.wrap .u32 x % 4294967296) := fun hp => h5 (by unfold decZ; simp only [if_true]; rw [if_pos hp])
  have z : ∀ k, k ≠ 5 → decZ (IntKind.wrap .u32 x) k = 0 := fun k hk => by
   unfold decZ
   simp only [if_neg hk]
   rw [if_pos hn]
  rw [z 0 (by decide), z 1 (by decide), z 2 (by decide), z 3 (by decide), z 4 (by decide)]
  omega
theorem dec_w64 (x k : Int) : IntKind.wrap .i64 (decZ x k) = decZ x k := by
 have := decZ_bd x k
 exact w64 (by omega) (by omega)
theorem ch5 (a b c d e : Int) {k : Int} (k0 : 0 ≤ k) (k1 : k < 5) : rdZ (qQq a (qQq b (qQq c (qQq d (qQq e 0))))) k = if k = 0 then a else if k = 1 then b else if k = 2 then c else if k = 3 then d else e := by
 have h := qKy [a, b, c, d, e]
 have h0 : rdZ (qQq a (qQq b (qQq c (qQq d (qQq e 0))))) 0 = a := h 0
 have h1 : rdZ (qQq a (qQq b (qQq c (qQq d (qQq e 0))))) 1 = b := h 1
 have h2 : rdZ (qQq a (qQq b (qQq c (qQq d (qQq e 0))))) 2 = c := h 2
 have h3 : rdZ (qQq a (qQq b (qQq c (qQq d (qQq e 0))))) 3 = d := h 3
 have h4 : rdZ (qQq a (qQq b (qQq c (qQq d (qQq e 0))))) 4 = e := h 4
 rcases (by omega : k = 0 ∨ k = 1 ∨ k = 2 ∨ k = 3 ∨ k = 4) with rfl | rfl | rfl | rfl | rfl
 ·rw [if_pos rfl]; exact h0
 ·rw [if_neg (by decide), if_pos rfl]; exact h1
 ·rw [if_neg (by decide), if_neg (by decide), if_pos rfl]; exact h2
 ·rw [if_neg (by decide), if_neg (by decide), if_neg (by decide), if_pos rfl]; exact h3
 ·rw [if_neg (by decide), if_neg (by decide), if_neg (by decide), if_neg (by decide)]; exact h4
def InsOk (w q n : Int) : Prop := ∀ j : Int, 0 ≤ j → j < n → ∀ k : Int, 0 ≤ k → k < 5 → rdZ (rdZ q j) k = decZ (IntKind.wrap .u32 (rdZ w j)) k
theorem ins_snoc {w q n : Int} (h : InsOk w q n) (n0 : 0 ≤ n) : InsOk w (updZ q n (qQq (decZ (IntKind.wrap .u32 (rdZ w n)) 0) (qQq (decZ (IntKind.wrap .u32 (rdZ w n)) 1) (qQq (decZ (IntKind.wrap .u32 (rdZ w n)) 2) (qQq (decZ (IntKind.wrap .u32 (rdZ w n)) 3) (qQq (decZ (IntKind.wrap .u32 (rdZ w n)) 4) 0)))))) (n + 1) := by
 intro j j0 j1 k k0 k1
 rw [qQh]
 by_cases e : j = n
 ·subst e
  rw [if_pos rfl, ch5 _ _ _ _ _ k0 k1]
  rcases (by omega : k = 0 ∨ k = 1 ∨ k = 2 ∨ k = 3 ∨ k = 4) with rfl | rfl | rfl | rfl | rfl <;> rfl
 ·rw [if_neg (by omega)]; exact h j j0 (by omega) k k0 k1
theorem row_u {R Q n : Int} (h : ∀ k : Int, 0 ≤ k → k < n → IntKind.wrap .u32 (rdZ R k) = IntKind.wrap .u32 (rdZ Q k)) : qQd [.int .u32] R Q n := by
 intro i hi
 show [Value.int .u32 (IntKind.wrap .u32 (rdZ R i))] = [Value.int .u32 (IntKind.wrap .u32 (rdZ Q i))]
 rw [h i (by omega) hi]
end Go.Eng
end
/-!  -/
noncomputable section
namespace Go.Eng
end Go.Eng
end
/-!  -/
noncomputable section
namespace Go.Eng
end Go.Eng
end
/-!  -/
noncomputable section
namespace Go.Eng
section
variable {w nr cS : Int} {nc : Nat} {L : Lv}
theorem nq_pc (hc : nc ≤ 16384) (ho : FlowOk w nc nr cS L) {A B : Mac} (q : Nq nc nr cS L A B) (hs : A.st = 0) (hp : 0 ≤ A.pc) : 0 ≤ (A.step (decC w nc) nc nr).pc := by
 obtain ⟨Arg, Arm, Apc, Ast, Aco, Amq, Anm⟩ := A
 have hs : Ast = 0 := hs
 have hp : 0 ≤ Apc := hp
 subst hs
 by_cases g : Apc < 0 ∨ (nc : Int) ≤ Apc
 ·unfold Mac.step
  rw [if_neg (by simp), if_pos g]; exact hp
 have g1 : Apc < nc := by omega
 rw [x_dec (w := w) (k := nc) (pc := Apc) (st := 0) (rg := Arg) (rm := Arm) (co := Aco) (mq := Amq) (nm := Anm) rfl hp g1 nr]
 by_cases e5 : decZ (IntKind.wrap .u32 (rdZ w Apc)) 5 = 0
 ·rw [if_pos e5]
  obtain ⟨⟨q1, q2⟩, ⟨q3, q4⟩, ⟨q5, q6⟩, ⟨q7, q8⟩, q9, q10⟩ := dec_in (rdZ w Apc) e5
  have hre := q.re hp g1
  have hne : Ne2 nr cS (L.se Apc) ⟨Arg, Arm, Apc, 0, Aco, Amq, Anm⟩ B := ne_sub q.ne fun r k => k.elim (fun k => absurd ⟨hp, g1⟩ k) id
  have hd := ne_does hne rfl q1 q2 q3 q4 q5 q6 q7 q8 q9 q10 hp (by show Apc ≤ 20000; omega) (ho.fine Apc hp g1 hre e5)
  have hn0 := dec_n0 e5
  rcases hd with ⟨_, _, h3⟩ | ⟨_, _, h3⟩
  ·rw [h3]; exact hp
  ·rcases h3.2 with ⟨k, h | h⟩ | ⟨k, h⟩ | ⟨_, h⟩
   ·rw [h]; exact hn0 (by omega)
   ·rw [h]; show 0 ≤ Apc + 1; omega
   ·rw [h]; exact hn0 (by omega)
   ·rw [h]; show 0 ≤ Apc + 1; omega
 ·rw [if_neg e5]; exact hp
structure Rq (w nr cS : Int) (nc : Nat) (L : Lv) (i : Int) (A B : Mac) : Prop where
 q : Nq nc nr cS L A B
 a : A.ok
 b : B.ok
 nm : A.nm ≤ i
 pc : 0 ≤ A.pc
theorem step_flds {cq nk rg rm pc st co mq nm R : Int} (hR : R = stepZ cq nk (qQq rg (qQq rm (qQq nr (qQq pc (qQq st (qQq co (qQq mq (qQq nm 0))))))))) (ha : (⟨rg, rm, pc, st, co, mq, nm⟩ : Mac).ok) (hn : nm ≤ 900000) :
  (⟨rdZ R 0, rdZ R 1, IntKind.wrap .i64 (rdZ R 2), IntKind.wrap .i64 (rdZ R 3), IntKind.wrap .i64 (rdZ R 4), rdZ R 5, IntKind.wrap .i64 (rdZ R 6)⟩ : Mac) = Mac.step cq nk nr ⟨rg, rm, pc, st, co, mq, nm⟩ ∧
   nm ≤ (Mac.step cq nk nr ⟨rg, rm, pc, st, co, mq, nm⟩).nm ∧ (Mac.step cq nk nr ⟨rg, rm, pc, st, co, mq, nm⟩).nm ≤ nm + 1 ∧ (Mac.step cq nk nr ⟨rg, rm, pc, st, co, mq, nm⟩).ok := by
 obtain ⟨⟨o1, o2, o3, o4⟩, n1, n2⟩ := good_step ha cq nk nr
 have e := stepZ_code cq nk nr ⟨rg, rm, pc, st, co, mq, nm⟩
 unfold macZ at e
 simp only at e
 rw [← hR] at e
 obtain ⟨r0, r1, r2, r3, r4, r5, r6⟩ := code_rd (Mac.step cq nk nr ⟨rg, rm, pc, st, co, mq, nm⟩)
 rw [← e] at r0 r1 r2 r3 r4 r5 r6
 have n2 : (Mac.step cq nk nr ⟨rg, rm, pc, st, co, mq, nm⟩).nm ≤ nm + 1 := n2
 have hnm : IntKind.wrap .i64 (Mac.step cq nk nr ⟨rg, rm, pc, st, co, mq, nm⟩).nm = (Mac.step cq nk nr ⟨rg, rm, pc, st, co, mq, nm⟩).nm := w64 (by omega) (by omega)
 refine ⟨?_, n1, n2, o1, o2, o3, o4⟩
 rw [r0, r1, r2, r3, r4, r5, r6, w64 o1.1 o1.2, w64 o2.1 o2.2, w64 o3.1 o3.2, hnm]
theorem rq_step (hc : nc ≤ 16384) (ho : FlowOk w nc nr cS L) {i arg arm ap as ac aq an brg brm bp bs bc bq bn RA RB : Int} (h : Rq w nr cS nc L i ⟨arg, arm, ap, as, ac, aq, an⟩ ⟨brg, brm, bp, bs, bc, bq, bn⟩) (hi : i ≤ 1000) (hs : as = 0)
  (hA : RA = stepZ (decC w nc) nc (qQq arg (qQq arm (qQq nr (qQq ap (qQq as (qQq ac (qQq aq (qQq an 0)))))))))
  (hB : RB = stepZ (decC w nc) nc (qQq brg (qQq brm (qQq nr (qQq bp (qQq bs (qQq bc (qQq bq (qQq bn 0))))))))) :
  Rq w nr cS nc L (i + 1) ⟨rdZ RA 0, rdZ RA 1, IntKind.wrap .i64 (rdZ RA 2), IntKind.wrap .i64 (rdZ RA 3), IntKind.wrap .i64 (rdZ RA 4), rdZ RA 5, IntKind.wrap .i64 (rdZ RA 6)⟩ ⟨rdZ RB 0, rdZ RB 1, IntKind.wrap .i64 (rdZ RB 2), IntKind.wrap .i64 (rdZ RB 3), IntKind.wrap .i64 (rdZ RB 4), rdZ RB 5, IntKind.wrap .i64 (rdZ RB 6)⟩ ∧
   (an ≤ 999999 ∧ bn ≤ 999999) ∧ (0 ≤ IntKind.wrap .i64 (rdZ RA 6) ∧ IntKind.wrap .i64 (rdZ RA 6) ≤ 1000000) ∧ 0 ≤ IntKind.wrap .i64 (rdZ RB 6) ∧ IntKind.wrap .i64 (rdZ RB 6) ≤ 1000000 := by
 have hn : an ≤ i := h.nm
 have hbn : bn = an := h.q.ne.nm
 have a4 : 0 ≤ an := h.a.2.2.2
 obtain ⟨eA, nA1, nA2, okA⟩ := step_flds hA h.a (by omega)
 obtain ⟨eB, nB1, nB2, okB⟩ := step_flds hB h.b (by omega)
 have hq := nq_step hc ho h.q hs
 have hp := nq_pc hc ho h.q hs h.pc
 have fA : IntKind.wrap .i64 (rdZ RA 6) = (Mac.step (decC w nc) nc nr ⟨arg, arm, ap, as, ac, aq, an⟩).nm := congrArg Mac.nm eA
 have fB : IntKind.wrap .i64 (rdZ RB 6) = (Mac.step (decC w nc) nc nr ⟨brg, brm, bp, bs, bc, bq, bn⟩).nm := congrArg Mac.nm eB
 rw [← eA, ← eB] at hq
 rw [← eA] at hp okA
 rw [← eB] at okB
 refine ⟨⟨hq, okA, okB, ?_, hp⟩, ⟨by omega, by omega⟩, ⟨by omega, by omega⟩, by omega, by omega⟩
 show IntKind.wrap .i64 (rdZ RA 6) ≤ i + 1
 omega
theorem rq_start (ho : FlowOk w nc nr cS L) {M N : Int} (h : ∀ j : Int, 0 ≤ j → j < nr → rdZ cS j = 0 → IntKind.wrap .i32 (rdZ N j) = IntKind.wrap .i32 (rdZ M j)) : Rq w nr cS nc L 0 ⟨zeroZ 32, M, 0, 0, 0, 0, 0⟩ ⟨zeroZ 32, N, 0, 0, 0, 0, 0⟩ := by
 have q := nq_nu (w := w) (nc := nc) ho h
 have a := macM_ok (nuP M)
 have b := macM_ok (nuP N)
 rw [macM_nu] at q a
 rw [macM_nu] at q b
 exact ⟨q, a, b, Int.le_refl _, Int.le_refl _⟩
end
theorem shr_bit {x r : Int} (x0 : 0 ≤ x) (x1 : x ≤ 4294967295) (r0 : 0 ≤ r) (r1 : r < 32) : band .u32 (shrZ .u32 x r) 1 = 0 ↔ ¬ bitP x r := by
 have h1 : shlZ .u32 1 0 = 1 := by decide
 rw [← h1, band_one (by decide) (by decide)]
 have e : shrZ .u32 x r = ((x.toNat >>> r.toNat : Nat) : Int) := by
  show x.fdiv (2 ^ (Nat.min r.toNat 32)) = _
  rw [show Nat.min r.toNat 32 = r.toNat from Nat.min_eq_left (by omega), Int.fdiv_eq_ediv_of_nonneg _ (by
   have : ((2 ^ r.toNat : Nat) : Int) = (2 : Int) ^ r.toNat := by simp
   rw [← this]; exact Int.natCast_nonneg _), Nat.shiftRight_eq_div_pow]
  obtain ⟨y, rfl⟩ : ∃ y : Nat, x = y := ⟨x.toNat, by omega⟩
  rw [Int.toNat_natCast]
  simp
 have hb : bitP (shrZ .u32 x r) 0 ↔ bitP x r := by
  rw [e]
  unfold bitP
  obtain ⟨y, rfl⟩ : ∃ y : Nat, x = y := ⟨x.toNat, by omega⟩
  rw [Int.toNat_natCast, BitVec.ofInt_natCast, BitVec.ofInt_natCast, BitVec.getLsbD_ofNat, BitVec.getLsbD_ofNat, Nat.testBit_shiftRight]
  simp
  omega
 rw [hb]
end Go.Eng
end
/-!  -/
noncomputable section
namespace Go.Eng
def exW : Int := qQq 2283798528 (qQq 2418016256 (qQq 2885681152 0))
theorem ex_rd : rdZ exW 0 = 2283798528 ∧ rdZ exW 1 = 2418016256 ∧ rdZ exW 2 = 2885681152 := by
 have h := qKy [2283798528, 2418016256, 2885681152]
 exact ⟨h 0, h 1, h 2⟩
theorem ex0 : (decZ (IntKind.wrap .u32 (rdZ exW 0)) 0 = 34 ∧ decZ (IntKind.wrap .u32 (rdZ exW 0)) 1 = 1 ∧ decZ (IntKind.wrap .u32 (rdZ exW 0)) 2 = 0) ∧ decZ (IntKind.wrap .u32 (rdZ exW 0)) 3 = 0 ∧ decZ (IntKind.wrap .u32 (rdZ exW 0)) 4 = 0 ∧ decZ (IntKind.wrap .u32 (rdZ exW 0)) 5 = 0 := by
 rw [ex_rd.1]; decide
theorem ex1 : (decZ (IntKind.wrap .u32 (rdZ exW 1)) 0 = 36 ∧ decZ (IntKind.wrap .u32 (rdZ exW 1)) 1 = 1 ∧ decZ (IntKind.wrap .u32 (rdZ exW 1)) 2 = 0) ∧ decZ (IntKind.wrap .u32 (rdZ exW 1)) 3 = 0 ∧ decZ (IntKind.wrap .u32 (rdZ exW 1)) 4 = 0 ∧ decZ (IntKind.wrap .u32 (rdZ exW 1)) 5 = 0 := by
 rw [ex_rd.2.1]; decide
theorem ex2 : (decZ (IntKind.wrap .u32 (rdZ exW 2)) 0 = 43 ∧ decZ (IntKind.wrap .u32 (rdZ exW 2)) 1 = 0 ∧ decZ (IntKind.wrap .u32 (rdZ exW 2)) 2 = 0) ∧ decZ (IntKind.wrap .u32 (rdZ exW 2)) 3 = 0 ∧ decZ (IntKind.wrap .u32 (rdZ exW 2)) 4 = 0 ∧ decZ (IntKind.wrap .u32 (rdZ exW 2)) 5 = 0 := by
 rw [ex_rd.2.2]; decide
theorem ex_closed {cS : Int} {K : Prop} (h : rdZ cS 0 ≠ 0 → K) : ClosedL exW 3 1 cS ⟨fun _ => True, fun _ r => r = 1 ∧ K⟩ := by
 refine ⟨fun _ => trivial, fun pc t p0 p1 _ _ hn t0 t1 => ⟨trivial, fun r r0 r1 hb => ?_⟩⟩
 rcases (by omega : pc = 0 ∨ pc = 1 ∨ pc = 2) with rfl | rfl | rfl
 ·obtain ⟨⟨e0, e1, e2⟩, e3, e4, _⟩ := ex0
  rw [e0, e1, e2, e3, e4] at hb
  rcases hb with ⟨_, ⟨k1, k2, _⟩ | ⟨_, k⟩⟩ | ⟨_, k⟩
  ·refine ⟨k1, ?_⟩
   rcases k2 with ⟨g, _⟩ | ⟨g, _⟩ | ⟨_, _, _, g⟩ | ⟨_, g, _⟩
   ·exact absurd g (by decide)
   ·exact absurd g (by decide)
   ·exact h g
   ·exact absurd rfl g
  ·exact k
  ·exact k
 ·obtain ⟨⟨e0, e1, e2⟩, e3, e4, _⟩ := ex1
  rw [e0, e1, e2, e3, e4] at hb
  rcases hb with ⟨g, _⟩ | ⟨_, k⟩
  ·exact absurd g (by unfold putsP; decide)
  ·exact k
 ·obtain ⟨⟨e0, e1, e2⟩, e3, e4, _⟩ := ex2
  rw [e0, e2, e4] at hn
  exact absurd (.inr (.inl rfl)) hn.1
theorem ex_not0 {cS : Int} : ¬ qJe exW 1 cS (qZy exW 3 1 cS) 0 := by
 rintro ⟨_, _, hw⟩
 obtain ⟨⟨e0, e1, e2⟩, e3, e4, _⟩ := ex0
 rw [e0, e1, e2, e3, e4] at hw
 rcases hw with ⟨g, _⟩ | ⟨_, g⟩ | ⟨g, _⟩ | ⟨g, _⟩ | ⟨g, _⟩ | g
 ·exact absurd g (by decide)
 ·exact least_zero 0 g
 ·exact absurd g (by decide)
 ·exact absurd g (by decide)
 ·exact absurd g (by decide)
 ·exact absurd g (by decide)
theorem ex_open {cI : Int} {cS : Int} : ¬ openIn cS cI 0 := fun ⟨_, j0, j1, _⟩ => by omega
theorem ex_sec {cS : Int} (h : rdZ cS 0 ≠ 0) : (qZy exW 3 1 cS).re 1 ∧ (qZy exW 3 1 cS).se 1 1 := by
 have hc := qJh (w := exW) (nc := 3) (nr := 1) (cS := cS)
 obtain ⟨⟨e0, e1, e2⟩, e3, e4, e5⟩ := ex0
 have hn := hc.next 0 1 (by decide) (by decide) (hc.start (by decide)) e5
 rw [e0, e1, e2, e3, e4] at hn
 have hx := hn ⟨by unfold qXm; omega, .inr (.inr ⟨by decide, by decide⟩)⟩ (by decide) (by decide)
 exact ⟨hx.1, hx.2 1 (by decide) (by decide) (.inl ⟨by unfold putsP; omega, .inl ⟨rfl, .inr (.inr (.inl ⟨rfl, rfl, by decide, h⟩)), by decide⟩⟩)⟩
theorem ex_fpc1 {cS cI : Int} (h : rdZ cS 0 ≠ 0) : fpcF exW 3 1 cS cI 0 = 1 := by
 refine fpc_found ex_open (by decide) (by decide) ?_ fun k k0 k1 => by rw [show k = 0 by omega]; exact ex_not0
 obtain ⟨⟨e0, e1, e2⟩, e3, e4, e5⟩ := ex1
 obtain ⟨h1, h2⟩ := ex_sec h
 refine ⟨h1, e5, ?_⟩
 rw [e0, e1, e2, e3, e4]
 exact .inr (.inr (.inr (.inr (.inl ⟨.inl rfl, .inl h2⟩))))
theorem ex_fpc0 {cS cI : Int} (h : rdZ cS 0 = 0) : fpcF exW 3 1 cS cI 0 = 3 := by
 have hno : ∀ p r, ¬ (qZy exW 3 1 cS).se p r := fun p r k => (least_se (ex_closed (K := False) (fun g => g h)) k).2
 refine fpc_none ex_open (by decide) fun k k0 k1 => ?_
 rcases (by omega : k = 0 ∨ k = 1 ∨ k = 2) with rfl | rfl | rfl
 ·exact ex_not0
 ·rintro ⟨_, _, hw⟩
  obtain ⟨⟨e0, e1, e2⟩, e3, e4, _⟩ := ex1
  rw [e0, e1, e2, e3, e4] at hw
  rcases hw with ⟨g, _⟩ | ⟨_, g⟩ | ⟨g, _⟩ | ⟨g, _⟩ | ⟨_, g | g⟩ | g
  ·exact absurd g (by decide)
  ·exact hno _ _ g
  ·exact absurd g (by decide)
  ·exact absurd g (by decide)
  ·exact hno _ _ g
  ·exact hno _ _ g
  ·exact absurd g (by decide)
 ·rintro ⟨_, _, hw⟩
  obtain ⟨⟨e0, e1, e2⟩, e3, e4, _⟩ := ex2
  rw [e0, e1, e2, e3, e4] at hw
  rcases hw with ⟨g, _⟩ | ⟨g, _⟩ | ⟨g, _⟩ | ⟨g, _⟩ | ⟨g, _⟩ | g
  ·exact absurd g (by decide)
  ·exact absurd g (by decide)
  ·exact absurd g (by decide)
  ·exact absurd g (by decide)
  ·exact absurd g (by decide)
  ·exact absurd g (by decide)
theorem ex_word {cS z : Int} (z0 : rdZ z 0 = 1) (z1 : rdZ z 1 = cS) (h : rdZ cS 0 ≠ 0) : IntKind.wrap .u32 (rdZ (sctZ exW 3 z) 1) = 2 := by
 obtain ⟨a1, a2⟩ := sct_rd (w := exW) (nc := 3) z0 z1 (p := 1) (by decide) (by decide)
 have e := bits_ext (a := rdZ (sctZ exW 3 z) 1) (b := 2) fun r r0 r1 => by
  rw [a2 r r0 r1]
  have h2 : bitP 2 r ↔ r = 1 := by
   obtain ⟨k, rfl⟩ : ∃ k : Nat, r = k := ⟨r.toNat, by omega⟩
   unfold bitP
   rw [Int.toNat_natCast, show BitVec.ofInt 32 2 = BitVec.ofNat 32 (2 ^ 1) by decide, BitVec.getLsbD_ofNat, Nat.testBit_two_pow]
   simp only [Bool.and_eq_true, decide_eq_true_eq]
   omega
  rw [h2]
  exact ⟨fun k => (least_se (ex_closed (K := True) (fun _ => trivial)) k).1, fun k => by rw [k]; exact (ex_sec h).2⟩
 rw [e]; decide
theorem ex_chk (cI cO : Int) : chk7 3 1 1 0 0 cI cO = 0 := by
 unfold chk7
 rw [if_neg (by decide), if_neg, if_neg]
 ·unfold twP
  rintro ⟨i, j, h⟩
  omega
 ·rintro (g | g | g)
  ·exact g rfl
  ·exact g fun i hi => by omega
  ·exact g fun i hi => by omega
end Go.Eng
end
