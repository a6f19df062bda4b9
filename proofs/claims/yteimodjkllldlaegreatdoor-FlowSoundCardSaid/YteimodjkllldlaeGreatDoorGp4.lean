/-
  Parts of the engine, a program's symbolic run, proved sound; and of plain laws.
-/
import Derived.Test.YteimodjkllldlaeGreatDoorGp3
set_option linter.unusedVariables false
set_option linter.unusedSimpArgs false
/-!  -/
noncomputable section
namespace Go.Eng
structure Ne2 (nr cS : Int) (S : Int → Prop) (A B : Mac) : Prop where
 pc : B.pc = A.pc
 st : B.st = A.st
 co : B.co = A.co
 mq : B.mq = A.mq
 nm : B.nm = A.nm
 rm : ∀ j : Int, 0 ≤ j → j < nr → rdZ cS j = 0 → IntKind.wrap .i32 (rdZ B.rm j) = IntKind.wrap .i32 (rdZ A.rm j)
 rg : ∀ r : Int, 0 ≤ r → r < 32 → ¬ S r → B.reg r = A.reg r
 z : A.reg 0 = 0 ∧ B.reg 0 = 0
section
variable {nr cS : Int} {S : Int → Prop} {A B : Mac}
theorem ne_goes (h : Ne2 nr cS S A B) (next addr cost : Int) : Ne2 nr cS S (A.goes next addr cost) (B.goes next addr cost) := by
 refine ⟨rfl, h.st, ?_, ?_, ?_, h.rm, h.rg, h.z⟩
 ·show IntKind.wrap .i64 (B.co + cost) = IntKind.wrap .i64 (A.co + cost); rw [h.co]
 ·show updZ B.mq B.nm (qQq B.pc _) = updZ A.mq A.nm (qQq A.pc _); rw [h.mq, h.nm, h.pc]
 ·show B.nm + 1 = A.nm + 1; rw [h.nm]
theorem ne_st (h : Ne2 nr cS S A B) (s : Int) : Ne2 nr cS S { A with st := s } { B with st := s } := ⟨h.pc, rfl, h.co, h.mq, h.nm, h.rm, h.rg, h.z⟩
theorem ne_put (h : Ne2 nr cS S A B) {d x y : Int} {ds : Prop} (d0 : 0 ≤ d) (hx : ¬ ds → IntKind.wrap .i32 y = IntKind.wrap .i32 x) : Ne2 nr cS (putQ S d ds) (A.put d x) (B.put d y) := by
 unfold Mac.put
 by_cases e : d ≠ 0
 ·rw [if_pos e, if_pos e]
  refine ⟨h.pc, h.st, h.co, h.mq, h.nm, h.rm, fun r r0 r1 hr => ?_, ?_⟩
  ·unfold Mac.reg
   simp only [qQi]
   by_cases g : r.toNat = d.toNat
   ·rw [if_pos g, if_pos g]
    refine hx fun k => hr (.inl ⟨by omega, k, e⟩)
   ·rw [if_neg g, if_neg g]
    exact h.rg r r0 r1 fun k => hr (.inr ⟨by omega, k⟩)
  ·unfold Mac.reg
   simp only [qQi]
   rw [if_neg (by omega), if_neg (by omega)]
   exact h.z
 ·rw [if_neg e, if_neg e]
  refine ⟨h.pc, h.st, h.co, h.mq, h.nm, h.rm, fun r r0 r1 hr => ?_, h.z⟩
  by_cases g : r = 0
  ·subst g; rw [h.z.1, h.z.2]
  ·exact h.rg r r0 r1 fun k => hr (.inr ⟨by omega, k⟩)
theorem ne_sub (h : Ne2 nr cS S A B) {S' : Int → Prop} (hs : ∀ r, S r → S' r) : Ne2 nr cS S' A B := ⟨h.pc, h.st, h.co, h.mq, h.nm, h.rm, fun r r0 r1 k => h.rg r r0 r1 fun g => k (hs r g), h.z⟩
end
def Go2 (nr cS op d a b n pc : Int) (S : Int → Prop) (A B : Mac) : Prop :=
 (Ne2 nr cS S A B ∧ A.st ≠ 0 ∧ A.pc = pc) ∨ (Ne2 nr cS (behS nr cS op d a b n S) A B ∧ A.st = 0 ∧ nxtP nr op a n pc A.pc)
section
variable {nr cS op d a b n : Int} {S : Int → Prop} {A B : Mac}
theorem g2_stop (h : Ne2 nr cS S A B) {s : Int} (hs : s ≠ 0) : Go2 nr cS op d a b n A.pc S { A with st := s } { B with st := s } := .inl ⟨ne_st h s, hs, rfl⟩
theorem g2_put (h : Ne2 nr cS S A B) (hst : A.st = 0) (d0 : 0 ≤ d) {x y t addr c : Int} (hp : putsP op) (hx : ¬ dsec nr cS op a b n S → IntKind.wrap .i32 y = IntKind.wrap .i32 x) (ht : nxtP nr op a n A.pc t) :
  Go2 nr cS op d a b n A.pc S ((A.put d x).goes t addr c) ((B.put d y).goes t addr c) :=
 .inr ⟨ne_sub (ne_goes (ne_put h d0 hx) _ _ _) fun r k => .inl ⟨hp, k⟩, by show (A.put d x).st = 0; rw [(qXv A d x).2.1]; exact hst, ht⟩
theorem g2_goes (h : Ne2 nr cS S A B) (hst : A.st = 0) {t addr c : Int} (hp : ¬ putsP op) (ht : nxtP nr op a n A.pc t) : Go2 nr cS op d a b n A.pc S (A.goes t addr c) (B.goes t addr c) :=
 .inr ⟨ne_sub (ne_goes h _ _ _) fun r k => .inr ⟨hp, k⟩, hst, ht⟩
theorem ne_does (h : Ne2 nr cS S A B) (hst : A.st = 0) (o1 : 1 ≤ op) (o43 : op ≤ 43) (d0 : 0 ≤ d) (d1 : d < 32) (a0 : 0 ≤ a) (a1 : a < 32) (b0 : 0 ≤ b) (b1 : b < 32) (n0 : -32768 ≤ n) (n1 : n ≤ 65535)
  (p0 : 0 ≤ A.pc) (p1 : A.pc ≤ 20000) (w : ¬ wrongP nr cS op d a b n S) : Go2 nr cS op d a b n A.pc S (A.does nr op d a b n) (B.does nr op d a b n) := by
 have hw : IntKind.wrap .i32 n = n := wi32 (by omega) (by omega)
 have hpc : IntKind.wrap .i64 (A.pc + 1) = A.pc + 1 := w64 (by omega) (by omega)
 have ga := h.rg a a0 a1
 have gb := h.rg b b0 b1
 have gd := h.rg d d0 d1
 have hn1 : ¬ (36 ≤ op ∧ op ≤ 40) → ¬ qXm nr op a n → nxtP nr op a n A.pc (IntKind.wrap .i64 (A.pc + 1)) := fun h1 h2 => ⟨h2, .inr (.inr ⟨h1, hpc⟩)⟩
 have put1 : ∀ (m : Mac) (i x c : Int), (m.put i x).on c = (m.put i x).goes (IntKind.wrap .i64 (m.pc + 1)) (-1) c := fun m i x c => by unfold Mac.on; rw [(qXv m i x).1]
 have key : ∀ {x y c : Int}, putsP op → ¬ (36 ≤ op ∧ op ≤ 40) → ¬ qXm nr op a n → (¬ dsec nr cS op a b n S → IntKind.wrap .i32 y = IntKind.wrap .i32 x) → Go2 nr cS op d a b n A.pc S ((A.put d x).on c) ((B.put d y).on c) := fun {x y c} hp hj he hx => by
  rw [put1, put1, h.pc]
  exact g2_put h hst d0 hp hx (hn1 hj he)
 by_cases o2 : op ≤ 30
 ·rw [does_alu o2, does_alu o2]
  have hK : aluK op (B.reg a) (B.reg b) = aluK op (A.reg a) (A.reg b) := by
   by_cases e : op = 22 ∨ op = 23
   ·rw [ga fun k => w (.inl ⟨e, .inl k⟩), gb fun k => w (.inl ⟨e, .inr k⟩)]
   ·have q1 : ∀ x y, aluK op x y = 1 := fun x y => by
     have q : aluK op x y ≠ 0 := fun g => e ((aluK_iff o1 o2).1 g).1
     unfold aluK at *
     split at q
     ·rename_i g; rw [if_pos g]
     ·exact absurd rfl q
    rw [q1, q1]
  have hC : aluC op (B.reg a) = aluC op (A.reg a) := by
   by_cases e : op = 22 ∨ op = 23
   ·rw [ga fun k => w (.inl ⟨e, .inl k⟩)]
   ·unfold aluC; rw [if_neg e, if_neg e]
  rw [hK, hC]
  by_cases hk : aluK op (A.reg a) (A.reg b) = 0
  ·rw [if_pos hk, if_pos hk]
   exact g2_stop h (by decide)
  ·rw [if_neg hk, if_neg hk]
   refine key (.inl (by omega)) (by omega) (by unfold qXm; omega) (fun ns => ?_)
   have na : ¬ S a := fun k => ns (.inl ⟨o2, .inl k⟩)
   rw [ga na]
   by_cases e : op ≤ 23
   ·rw [gb fun k => ns (.inl ⟨o2, .inr ⟨e, k⟩⟩)]
   ·rw [aluV_b (b := B.reg b) (c := A.reg b) (by omega) o2]
 by_cases o : op = 31
 ·subst o
  rw [does_31, does_31]
  exact key (.inl (by omega)) (by omega) (by unfold qXm; omega) (fun ns => by rw [ga fun k => ns (.inr (.inl ⟨.inl rfl, k⟩))])
 by_cases o' : op = 32
 ·subst o'
  rw [does_32, does_32]
  exact key (.inl (by omega)) (by omega) (by unfold qXm; omega) (fun ns => by rw [ga fun k => ns (.inr (.inl ⟨.inr rfl, k⟩))])
 by_cases o3 : op = 33
 ·subst o3
  rw [does_33, does_33]
  exact key (.inl (by omega)) (by omega) (by unfold qXm; omega) (fun _ => rfl)
 by_cases o4 : op = 34 ∨ op = 35
 ·have na : ¬ (op = 34 ∧ S a) := fun k => w (.inr (.inl k))
  have nb : ¬ (op = 35 ∧ a ≠ 0 ∧ S a) := fun k => w (.inr (.inr (.inr (.inl ⟨k.1, k.2.1, .inl k.2.2⟩))))
  have hra : B.reg a = A.reg a := by
   by_cases e : a = 0
   ·subst e; rw [h.z.1, h.z.2]
   ·exact ga fun k => by rcases o4 with o | o; exact na ⟨o, k⟩; exact nb ⟨o, e, k⟩
  have eA : A.does nr op d a b n = A.memA nr op d (IntKind.wrap .i32 (A.reg a + n)) := by rcases o4 with rfl | rfl; rw [does_34, does_mem' hw]; rw [does_35, does_mem' hw]
  have eB : B.does nr op d a b n = B.memA nr op d (IntKind.wrap .i32 (A.reg a + n)) := by rcases o4 with rfl | rfl; rw [does_34, does_mem' hw, hra]; rw [does_35, does_mem' hw, hra]
  rw [eA, eB]
  have hX0 : a = 0 → IntKind.wrap .i32 (A.reg a + n) = n := fun e => by subst e; rw [h.z.1, Int.zero_add]; exact hw
  generalize IntKind.wrap .i32 (A.reg a + n) = X at hX0
  unfold Mac.memA
  by_cases hb : X < 0 ∨ nr ≤ X
  ·rw [if_pos hb, if_pos hb]; exact g2_stop h (by decide)
  rw [if_neg hb, if_neg hb]
  have hne : ¬ qXm nr op a n := fun e => by
   rcases e with e | e | ⟨_, e1, e2⟩
   ·omega
   ·omega
   ·have := hX0 e1; omega
  have go : ∀ c, Go2 nr cS op d a b n A.pc S (A.memo op d X c) (B.memo op d X c) := fun c => by
   unfold Mac.memo
   rw [h.pc]
   by_cases o5 : op = 35
   ·rw [if_pos o5, if_pos o5]
    have hs : Ne2 nr cS S { A with rm := updZ A.rm X (A.reg d) } { B with rm := updZ B.rm X (B.reg d) } := by
     refine ⟨h.pc, h.st, h.co, h.mq, h.nm, fun j j0 j1 hj => ?_, h.rg, h.z⟩
     show IntKind.wrap .i32 (rdZ (updZ B.rm X (B.reg d)) j) = IntKind.wrap .i32 (rdZ (updZ A.rm X (A.reg d)) j)
     rw [qQi, qQi]
     by_cases g : j.toNat = X.toNat
     ·rw [if_pos g, if_pos g]
      have jX : j = X := by omega
      subst jX
      have nd : ¬ S d := fun k => by
       by_cases e : a = 0
       ·have := hX0 e; subst this
        exact w (.inr (.inr (.inl ⟨o5, e, k, by omega, hj⟩)))
       ·exact w (.inr (.inr (.inr (.inl ⟨o5, e, .inr ⟨k, j, j0, j1, hj⟩⟩))))
      rw [gd nd]
     ·rw [if_neg g, if_neg g]; exact h.rm j j0 j1 hj
    have hp : ({ B with rm := updZ B.rm X (B.reg d) } : Mac) = { B with rm := updZ B.rm X (B.reg d) } := rfl
    have := g2_goes (d := d) (b := b) (a := a) (n := n) (op := op) hs hst (t := IntKind.wrap .i64 (A.pc + 1)) (addr := X) (c := c) (by unfold putsP; omega) (hn1 (by omega) hne)
    rw [show B.pc = A.pc from h.pc] at this
    exact this
   ·rw [if_neg o5, if_neg o5]
    refine g2_put h hst d0 (.inl (by omega)) (fun ns => ?_) (hn1 (by omega) hne)
    have o34 : op = 34 := by omega
    rw [wi32_wrap, wi32_wrap]
    refine h.rm X (by omega) (by omega) (Classical.byContradiction fun hs => ns ?_)
    by_cases e : a = 0
    ·have := hX0 e; subst this
     exact .inr (.inr (.inl ⟨o34, e, by omega, hs⟩))
    ·exact .inr (.inr (.inr ⟨o34, e, X, by omega, by omega, hs⟩))
  by_cases h10 : 1024 ≤ X
  ·rw [if_pos h10, if_pos h10]; exact go _
  ·rw [if_neg h10, if_neg h10]; exact go _
 have br : (op = 36 ∨ op = 37 ∨ op = 38) → ∀ (p q : Prop) [Decidable p] [Decidable q], (p ↔ q) → Go2 nr cS op d a b n A.pc S (A.branch n p) (B.branch n q) := fun ho p q _ _ e => by
  unfold Mac.branch Mac.on
  rw [h.pc]
  have np : ¬ putsP op := by unfold putsP; omega
  have ne : ¬ qXm nr op a n := by unfold qXm; omega
  by_cases hp : p
  ·rw [if_pos hp, if_pos (e.1 hp)]; exact g2_goes h hst np ⟨ne, .inl ⟨ho, .inl rfl⟩⟩
  ·rw [if_neg hp, if_neg fun k => hp (e.2 k)]; exact g2_goes h hst np ⟨ne, .inl ⟨ho, .inr hpc⟩⟩
 have hda : (op = 36 ∨ op = 37 ∨ op = 38) → B.reg d = A.reg d ∧ B.reg a = A.reg a := fun ho => ⟨gd fun k => w (.inr (.inr (.inr (.inr (.inl ⟨ho, .inl k⟩))))), ga fun k => w (.inr (.inr (.inr (.inr (.inl ⟨ho, .inr k⟩)))))⟩
 by_cases o6 : op = 36
 ·obtain ⟨e1, e2⟩ := hda (.inl o6)
  have := br (.inl o6)
  subst o6
  rw [does_36, does_36]; exact this _ _ (by rw [e1, e2])
 by_cases o7 : op = 37
 ·obtain ⟨e1, e2⟩ := hda (.inr (.inl o7))
  have := br (.inr (.inl o7))
  subst o7
  rw [does_37, does_37]; exact this _ _ (by rw [e1, e2])
 by_cases o8 : op = 38
 ·obtain ⟨e1, e2⟩ := hda (.inr (.inr o8))
  have := br (.inr (.inr o8))
  subst o8
  rw [does_38, does_38]; exact this _ _ (by rw [e1, e2])
 by_cases o9 : op = 39
 ·subst o9
  rw [does_39, does_39]; exact g2_goes h hst (by unfold putsP; omega) ⟨by unfold qXm; omega, .inr (.inl ⟨.inl rfl, rfl⟩)⟩
 by_cases o10 : op = 40
 ·subst o10
  rw [does_40, does_40, h.pc]; exact g2_put h hst d0 (.inr rfl) (fun _ => rfl) ⟨by unfold qXm; omega, .inr (.inl ⟨.inr rfl, rfl⟩)⟩
 by_cases o11 : op = 41
 ·exact absurd (.inr (.inr (.inr (.inr (.inr o11))))) w
 by_cases o12 : op = 42
 ·subst o12
  rw [does_42, does_42]
  unfold Mac.on
  rw [h.pc]
  exact g2_goes h hst (by unfold putsP; omega) (hn1 (by omega) (by unfold qXm; omega))
 ·have o13 : op = 43 := by omega
  subst o13
  rw [does_43, does_43, h.pc]
  exact .inl ⟨ne_st (ne_goes h _ _ _) 1, by show (1 : Int) ≠ 0; decide, rfl⟩
end
structure FlowOk (w nc nr cS : Int) (L : Lv) : Prop where
 start : 0 < nc → L.re 0
 next : ∀ pc t, 0 ≤ pc → pc < nc → L.re pc → decZ (IntKind.wrap .u32 (rdZ w pc)) 5 = 0 →
  nxtP nr (decZ (IntKind.wrap .u32 (rdZ w pc)) 0) (decZ (IntKind.wrap .u32 (rdZ w pc)) 2) (decZ (IntKind.wrap .u32 (rdZ w pc)) 4) pc t → 0 ≤ t → t < nc → L.re t ∧ ∀ r, 0 ≤ r → r < 32 →
  behS nr cS (decZ (IntKind.wrap .u32 (rdZ w pc)) 0) (decZ (IntKind.wrap .u32 (rdZ w pc)) 1) (decZ (IntKind.wrap .u32 (rdZ w pc)) 2) (decZ (IntKind.wrap .u32 (rdZ w pc)) 3) (decZ (IntKind.wrap .u32 (rdZ w pc)) 4) (L.se pc) r → L.se t r
 fine : ∀ pc, 0 ≤ pc → pc < nc → L.re pc → decZ (IntKind.wrap .u32 (rdZ w pc)) 5 = 0 →
  ¬ wrongP nr cS (decZ (IntKind.wrap .u32 (rdZ w pc)) 0) (decZ (IntKind.wrap .u32 (rdZ w pc)) 1) (decZ (IntKind.wrap .u32 (rdZ w pc)) 2) (decZ (IntKind.wrap .u32 (rdZ w pc)) 3) (decZ (IntKind.wrap .u32 (rdZ w pc)) 4) (L.se pc)
def secAt (nc : Int) (L : Lv) (pc r : Int) : Prop := ¬ (0 ≤ pc ∧ pc < nc) ∨ L.se pc r
structure Nq (nc nr cS : Int) (L : Lv) (A B : Mac) : Prop where
 ne : Ne2 nr cS (secAt nc L A.pc) A B
 re : 0 ≤ A.pc → A.pc < nc → L.re A.pc
theorem ne_only {nr cS : Int} {S S' : Int → Prop} {A B : Mac} (h : Ne2 nr cS S A B) (hs : ∀ r, 0 ≤ r → r < 32 → S r → S' r) : Ne2 nr cS S' A B := ⟨h.pc, h.st, h.co, h.mq, h.nm, h.rm, fun r r0 r1 k => h.rg r r0 r1 fun g => k (hs r r0 r1 g), h.z⟩
section
variable {w nr cS : Int} {nc : Nat} {L : Lv}
theorem nq_step (hc : nc ≤ 16384) (ho : FlowOk w nc nr cS L) {A B : Mac} (q : Nq nc nr cS L A B) (hs : A.st = 0) : Nq nc nr cS L (A.step (decC w nc) nc nr) (B.step (decC w nc) nc nr) := by
 obtain ⟨Arg, Arm, Apc, Ast, Aco, Amq, Anm⟩ := A
 obtain ⟨Brg, Brm, Bpc, Bst, Bco, Bmq, Bnm⟩ := B
 have hs : Ast = 0 := hs
 have hpc : Bpc = Apc := q.ne.pc
 have hst : Bst = Ast := q.ne.st
 subst hs; subst hst; subst hpc
 by_cases g : Bpc < 0 ∨ (nc : Int) ≤ Bpc
 ·have e : ∀ (m : Mac), m.pc = Bpc → m.st = 0 → m.step (decC w nc) nc nr = { m with st := 2 } := fun m h1 h2 => by
   unfold Mac.step
   rw [if_neg (by simp [h2]), if_pos (by rw [h1]; exact g)]
  rw [e _ rfl rfl, e _ rfl rfl]
  exact ⟨ne_st q.ne 2, fun h0 h1 => q.re h0 h1⟩
 have g0 : 0 ≤ Bpc := by omega
 have g1 : Bpc < nc := by omega
 have hA := x_dec (w := w) (k := nc) (pc := Bpc) (st := 0) (rg := Arg) (rm := Arm) (co := Aco) (mq := Amq) (nm := Anm) rfl g0 g1 nr
 have hB := x_dec (w := w) (k := nc) (pc := Bpc) (st := 0) (rg := Brg) (rm := Brm) (co := Bco) (mq := Bmq) (nm := Bnm) rfl g0 g1 nr
 rw [hA, hB]
 by_cases e5 : decZ (IntKind.wrap .u32 (rdZ w Bpc)) 5 = 0
 ·rw [if_pos e5, if_pos e5]
  obtain ⟨⟨q1, q2⟩, ⟨q3, q4⟩, ⟨q5, q6⟩, ⟨q7, q8⟩, q9, q10⟩ := dec_in (rdZ w Bpc) e5
  have hre := q.re g0 g1
  have hne : Ne2 nr cS (L.se Bpc) ⟨Arg, Arm, Bpc, 0, Aco, Amq, Anm⟩ ⟨Brg, Brm, Bpc, 0, Bco, Bmq, Bnm⟩ := ne_sub q.ne fun r k => k.elim (fun k => absurd ⟨g0, g1⟩ k) id
  have hd := ne_does hne rfl q1 q2 q3 q4 q5 q6 q7 q8 q9 q10 g0 (by show Bpc ≤ 20000; omega) (ho.fine Bpc g0 g1 hre e5)
  rcases hd with ⟨h1, _, h3⟩ | ⟨h1, _, h3⟩
  ·have h3 : (Mac.does _ _ _ _ _ _ _).pc = Bpc := h3
   refine ⟨?_, fun _ _ => by rw [h3]; exact hre⟩
   rw [h3]
   exact ne_sub h1 fun r k => .inr k
  ·have hn := fun k0 k1 => ho.next Bpc _ g0 g1 hre e5 h3 k0 k1
   refine ⟨ne_only h1 fun r r0 r1 k => ?_, fun k0 k1 => (hn k0 k1).1⟩
   unfold secAt
   by_cases kk : 0 ≤ (Mac.does ⟨Arg, Arm, Bpc, 0, Aco, Amq, Anm⟩ nr (decZ (IntKind.wrap .u32 (rdZ w Bpc)) 0) (decZ (IntKind.wrap .u32 (rdZ w Bpc)) 1) (decZ (IntKind.wrap .u32 (rdZ w Bpc)) 2) (decZ (IntKind.wrap .u32 (rdZ w Bpc)) 3) (decZ (IntKind.wrap .u32 (rdZ w Bpc)) 4)).pc ∧ (Mac.does ⟨Arg, Arm, Bpc, 0, Aco, Amq, Anm⟩ nr (decZ (IntKind.wrap .u32 (rdZ w Bpc)) 0) (decZ (IntKind.wrap .u32 (rdZ w Bpc)) 1) (decZ (IntKind.wrap .u32 (rdZ w Bpc)) 2) (decZ (IntKind.wrap .u32 (rdZ w Bpc)) 3) (decZ (IntKind.wrap .u32 (rdZ w Bpc)) 4)).pc < nc
   ·exact .inr ((hn kk.1 kk.2).2 r r0 r1 k)
   ·exact .inl kk
 ·rw [if_neg e5, if_neg e5]
  exact ⟨ne_st q.ne 3, fun h0 h1 => q.re h0 h1⟩
theorem nq_runs (hc : nc ≤ 16384) (ho : FlowOk w nc nr cS L) {A B : Mac} (q : Nq nc nr cS L A B) : ∀ k : Nat, Nq nc nr cS L (Mac.runs (decC w nc) nc nr k A).1 (Mac.runs (decC w nc) nc nr k B).1 ∧ (Mac.runs (decC w nc) nc nr k B).2 = (Mac.runs (decC w nc) nc nr k A).2
 | 0 => ⟨q, rfl⟩
 | k + 1 => by
  obtain ⟨h1, h2⟩ := nq_runs hc ho q k
  rw [runs_succ, runs_succ]
  by_cases s : (Mac.runs (decC w nc) nc nr k A).1.st = 0
  ·rw [if_pos s, if_pos (by rw [h1.ne.st]; exact s)]
   exact ⟨nq_step hc ho h1 s, by rw [h2]⟩
  ·rw [if_neg s, if_neg (by rw [h1.ne.st]; exact s)]
   exact ⟨h1, h2⟩
theorem nq_nu (ho : FlowOk w nc nr cS L) {M N : Int} (h : ∀ j : Int, 0 ≤ j → j < nr → rdZ cS j = 0 → IntKind.wrap .i32 (rdZ N j) = IntKind.wrap .i32 (rdZ M j)) : Nq nc nr cS L (macM (nuP M)) (macM (nuP N)) := by
 rw [macM_nu, macM_nu]
 have hz : ∀ m : Int, Mac.reg ⟨zeroZ 32, m, 0, 0, 0, 0, 0⟩ 0 = 0 := fun m => by unfold Mac.reg; rw [zero_rd 0 (by decide)]; decide
 exact ⟨⟨rfl, rfl, rfl, rfl, rfl, h, fun _ _ _ _ => rfl, hz _, hz _⟩, fun _ h1 => ho.start h1⟩
end
end Go.Eng
end
/-!  -/
noncomputable section
namespace Go.Eng
section
variable {nr cS : Int} {S : Int → Prop} {F : Fm}
variable {op d a b n : Int}
end
section
variable {w nr cS : Int} {nc : Nat} {L : Lv}
end
end Go.Eng
end
/-!  -/
noncomputable section
namespace Go.Eng
theorem putQ_mono {S S' : Int → Prop} {d : Int} {p p' : Prop} (hs : ∀ r, S r → S' r) (hp : p → p') (r : Int) : putQ S d p r → putQ S' d p' r := by
 rintro (⟨h1, h2, h3⟩ | ⟨h1, h2⟩)
 ·exact .inl ⟨h1, hp h2, h3⟩
 ·exact .inr ⟨h1, hs r h2⟩
theorem dsec_mono {nr cS op a b n : Int} {S S' : Int → Prop} (hs : ∀ r, S r → S' r) : dsec nr cS op a b n S → dsec nr cS op a b n S' := by
 rintro (⟨h1, h2⟩ | ⟨h1, h2⟩ | h | h)
 ·exact .inl ⟨h1, h2.imp (hs a) fun k => ⟨k.1, hs b k.2⟩⟩
 ·exact .inr (.inl ⟨h1, hs a h2⟩)
 ·exact .inr (.inr (.inl h))
 ·exact .inr (.inr (.inr h))
theorem behS_mono {nr cS op d a b n : Int} {S S' : Int → Prop} (hs : ∀ r, S r → S' r) (r : Int) : behS nr cS op d a b n S r → behS nr cS op d a b n S' r := by
 rintro (⟨h1, h2⟩ | ⟨h1, h2⟩)
 ·exact .inl ⟨h1, putQ_mono hs (dsec_mono hs) r h2⟩
 ·exact .inr ⟨h1, hs r h2⟩
section
variable {w nc nr cS : Int}
theorem qJm : ClosedL w nc nr cS (qZe w nc nr cS) := by
 refine ⟨fun h L hL => hL.start h, fun pc t h0 h1 hr h5 hn t0 t1 => ⟨fun L hL => (hL.next pc t h0 h1 (hr L hL) h5 hn t0 t1).1, fun r r0 r1 hb L hL => ?_⟩⟩
 exact (hL.next pc t h0 h1 (hr L hL) h5 hn t0 t1).2 r r0 r1 (behS_mono (fun q hq => hq L hL) r hb)
theorem least_re {L : Lv} (hL : ClosedL w nc nr cS L) {pc : Int} (h : (qZe w nc nr cS).re pc) : L.re pc := h L hL
theorem least_se {L : Lv} (hL : ClosedL w nc nr cS L) {pc r : Int} (h : (qZe w nc nr cS).se pc r) : L.se pc r := h L hL
theorem least_zero (pc : Int) : ¬ (qZe w nc nr cS).se pc 0 := fun h => by
 have hc := qJm (w := w) (nc := nc) (nr := nr) (cS := cS)
 have := h ⟨fun _ => True, fun p r => r ≠ 0⟩ ⟨fun _ => trivial, fun p t _ _ _ _ _ _ _ => ⟨trivial, fun r _ _ hb => ?_⟩⟩
 ·exact this rfl
 ·rcases hb with ⟨_, ⟨h1, _, h3⟩ | ⟨_, h2⟩⟩ | ⟨_, h2⟩
  ·show r ≠ 0; rw [h1]; exact h3
  ·exact h2
  ·exact h2
theorem fpc_ev {cI nI : Int} (x : Int) : (rdZ (qQq x (qQq cS (qQq cI (qQq nI 0)))) 0 = x ∧ rdZ (qQq x (qQq cS (qQq cI (qQq nI 0)))) 1 = cS) ∧ rdZ (qQq x (qQq cS (qQq cI (qQq nI 0)))) 2 = cI ∧ rdZ (qQq x (qQq cS (qQq cI (qQq nI 0)))) 3 = nI := by
 have h := qXt [x, cS, cI, nI]
 exact ⟨⟨h 0, h 1⟩, h 2, h 3⟩
open Classical in
theorem taken_ok {cI nI : Int} (h0 : 0 ≤ nc) (h : fwhZ w nc (qQq nr (qQq cS (qQq cI (qQq nI 0)))) = 0) : FlowOk w nc nr cS (qZe w nc nr cS) ∧ ¬ openIn cS cI nI := by
 obtain ⟨⟨e0, e1⟩, e2, e3⟩ := fpc_ev (cS := cS) (cI := cI) (nI := nI) nr
 unfold fwhZ at h
 rw [e0, e1, e2, e3] at h
 have h1 : ¬ fpcF w nc nr cS cI nI < nc := fun g => by rw [if_pos g] at h; exact absurd h (by decide)
 have h2 : ¬ openIn cS cI nI := fun g => h1 (by unfold fpcF; rw [if_pos g]; omega)
 refine ⟨⟨qJm.start, qJm.next, fun pc p0 p1 hr h5 hw => h1 ?_⟩, h2⟩
 unfold fpcF
 rw [if_neg h2]
 cases hf : (List.range nc.toNat).find? fun (k : Nat) => decide (qJh w nr cS (qZe w nc nr cS) k) with
 | none =>
  exfalso
  have := List.find?_eq_none.1 hf pc.toNat (by rw [List.mem_range]; omega)
  simp only [decide_eq_true_eq] at this
  refine this ?_
  rw [show ((pc.toNat : Nat) : Int) = pc by omega]
  exact ⟨hr, h5, hw⟩
 | some k =>
  have := List.mem_of_find?_eq_some hf
  rw [List.mem_range] at this
  simp only [Option.map_some, Option.getD_some]
  omega
end
end Go.Eng
end
/-!  -/
noncomputable section
namespace Go.Eng
def bT (q p f : Int) : Prop := rdZ (rdZ q p) f ≠ 0
def lvOf (q : Int) : Lv := ⟨fun p => bT q p 0, fun p r => bT q p (1 + r)⟩
structure UpQ (q q' t : Int) (Y : Int → Prop) : Prop where
 oth : ∀ p f, 0 ≤ p → p ≠ t → 0 ≤ f → f < 33 → (bT q' p f ↔ bT q p f)
 re : bT q' t 0
 se : ∀ r, 0 ≤ r → r < 32 → (bT q' t (1 + r) ↔ bT q t (1 + r) ∨ Y r)
theorem up_mono {q q' t : Int} {Y : Int → Prop} (h : UpQ q q' t Y) {p f : Int} (p0 : 0 ≤ p) (f0 : 0 ≤ f) (f1 : f < 33) (hb : bT q p f) : bT q' p f := by
 by_cases e : p = t
 ·subst e
  by_cases g : f = 0
  ·subst g; exact h.re
  ·have := (h.se (f - 1) (by omega) (by omega)).2 (.inl (by rwa [show 1 + (f - 1) = f by omega]))
   rwa [show 1 + (f - 1) = f by omega] at this
 ·exact (h.oth p f p0 e f0 f1).2 hb
open Classical in
def cntB (q p : Int) : Nat → Nat
 | 0 => 0
 | f + 1 => cntB q p f + (if bT q p f then 1 else 0)
def cntP (q : Int) : Nat → Nat
 | 0 => 0
 | p + 1 => cntP q p + cntB q p 33
theorem cntB_le (q p : Int) : ∀ k, cntB q p k ≤ k
 | 0 => Nat.le_refl _
 | k + 1 => by have := cntB_le q p k; unfold cntB; split <;> omega
theorem cntP_le (q : Int) : ∀ n, cntP q n ≤ 33 * n
 | 0 => Nat.le_refl _
 | n + 1 => by have := cntP_le q n; have := cntB_le q n 33; unfold cntP; omega
theorem cntB_mono {q q' p : Int} : ∀ k : Nat, (∀ f : Nat, f < k → bT q p f → bT q' p f) → cntB q p k ≤ cntB q' p k
 | 0, _ => Nat.le_refl _
 | k + 1, h => by
  have := cntB_mono (q := q) (q' := q') (p := p) k fun f hf => h f (by omega)
  unfold cntB
  by_cases e : bT q p k
  ·rw [if_pos e, if_pos (h k (by omega) e)]; omega
  ·rw [if_neg e]; omega
theorem cntB_more {q q' p : Int} : ∀ k : Nat, (∀ f : Nat, f < k → bT q p f → bT q' p f) → (∃ f : Nat, f < k ∧ ¬ bT q p f ∧ bT q' p f) → cntB q p k < cntB q' p k
 | 0, _, ⟨_, h, _⟩ => by omega
 | k + 1, h, ⟨f, hf, h1, h2⟩ => by
  have hm := cntB_mono (q := q) (q' := q') (p := p) k fun f hf => h f (by omega)
  unfold cntB
  by_cases e : f = k
  ·subst e
   rw [if_neg h1, if_pos h2]; omega
  ·have := cntB_more (q := q) (q' := q') (p := p) k (fun f hf => h f (by omega)) ⟨f, by omega, h1, h2⟩
   by_cases e : bT q p k
   ·rw [if_pos e, if_pos (h k (by omega) e)]; omega
   ·rw [if_neg e]; omega
theorem cntP_mono {q q' : Int} : ∀ n : Nat, (∀ p f : Nat, p < n → f < 33 → bT q p f → bT q' p f) → cntP q n ≤ cntP q' n
 | 0, _ => Nat.le_refl _
 | n + 1, h => by
  have h1 := cntP_mono (q := q) (q' := q') n fun p f hp hf => h p f (by omega) hf
  have h2 := cntB_mono (q := q) (q' := q') (p := n) 33 fun f hf => h n f (by omega) hf
  unfold cntP; omega
theorem cntP_more {q q' : Int} : ∀ n : Nat, (∀ p f : Nat, p < n → f < 33 → bT q p f → bT q' p f) → (∃ p f : Nat, p < n ∧ f < 33 ∧ ¬ bT q p f ∧ bT q' p f) → cntP q n < cntP q' n
 | 0, _, ⟨_, _, h, _⟩ => by omega
 | n + 1, h, ⟨p, f, hp, hf, h1, h2⟩ => by
  have a1 := cntP_mono (q := q) (q' := q') n fun p f hp hf => h p f (by omega) hf
  have a2 := cntB_mono (q := q) (q' := q') (p := n) 33 fun f hf => h n f (by omega) hf
  unfold cntP
  by_cases e : p = n
  ·subst e
   have := cntB_more (q := q) (q' := q') (p := p) 33 (fun f hf => h p f (by omega) hf) ⟨f, hf, h1, h2⟩
   omega
  ·have := cntP_more (q := q) (q' := q') n (fun p f hp hf => h p f (by omega) hf) ⟨p, f, by omega, hf, h1, h2⟩
   omega
theorem up_more {q q' t : Int} {Y : Int → Prop} (h : UpQ q q' t Y) {n : Nat} (t0 : 0 ≤ t) (t1 : t < n) (hd : ∃ f : Int, 0 ≤ f ∧ f < 33 ∧ ¬ (bT q' t f ↔ bT q t f)) : cntP q n < cntP q' n := by
 obtain ⟨f, f0, f1, hf⟩ := hd
 refine cntP_more n (fun p f _ hf hb => up_mono h (by omega) (by omega) (by omega) hb) ⟨t.toNat, f.toNat, by omega, by omega, ?_⟩
 rw [show ((t.toNat : Nat) : Int) = t by omega, show ((f.toNat : Nat) : Int) = f by omega]
 by_cases e : bT q t f
 ·exact absurd ⟨fun _ => e, fun _ => up_mono h t0 f0 f1 e⟩ hf
 ·refine ⟨e, Classical.byContradiction fun g => hf ⟨fun k => absurd k g, fun k => absurd k e⟩⟩
section
variable {w nc nr cS : Int}
structure Below (w nc nr cS q : Int) : Prop where
 re : ∀ p, 0 ≤ p → p < nc → bT q p 0 → (qZe w nc nr cS).re p
 se : ∀ p r, 0 ≤ p → p < nc → 0 ≤ r → r < 32 → bT q p (1 + r) → (qZe w nc nr cS).se p r
def ClosedAt (w nc nr cS q p : Int) : Prop := bT q p 0 → decZ (IntKind.wrap .u32 (rdZ w p)) 5 = 0 → ∀ t,
 nxtP nr (decZ (IntKind.wrap .u32 (rdZ w p)) 0) (decZ (IntKind.wrap .u32 (rdZ w p)) 2) (decZ (IntKind.wrap .u32 (rdZ w p)) 4) p t → 0 ≤ t → t < nc → bT q t 0 ∧ ∀ r, 0 ≤ r → r < 32 →
 behS nr cS (decZ (IntKind.wrap .u32 (rdZ w p)) 0) (decZ (IntKind.wrap .u32 (rdZ w p)) 1) (decZ (IntKind.wrap .u32 (rdZ w p)) 2) (decZ (IntKind.wrap .u32 (rdZ w p)) 3) (decZ (IntKind.wrap .u32 (rdZ w p)) 4) (fun r => bT q p (1 + r)) r → bT q t (1 + r)
theorem putQ_32 {S S' : Int → Prop} {d : Int} {p p' : Prop} (hs : ∀ r, 0 ≤ r → r < 32 → S r → S' r) (hp : p → p') {r : Int} (r0 : 0 ≤ r) (r1 : r < 32) : putQ S d p r → putQ S' d p' r := by
 rintro (⟨h1, h2, h3⟩ | ⟨h1, h2⟩)
 ·exact .inl ⟨h1, hp h2, h3⟩
 ·exact .inr ⟨h1, hs r r0 r1 h2⟩
theorem behS_32 {op d a b n : Int} {S S' : Int → Prop} (a0 : 0 ≤ a) (a1 : a < 32) (b0 : 0 ≤ b) (b1 : b < 32) (hs : ∀ r, 0 ≤ r → r < 32 → S r → S' r) {r : Int} (r0 : 0 ≤ r) (r1 : r < 32) : behS nr cS op d a b n S r → behS nr cS op d a b n S' r := by
 have hd : dsec nr cS op a b n S → dsec nr cS op a b n S' := by
  rintro (⟨h1, h2⟩ | ⟨h1, h2⟩ | h | h)
  ·exact .inl ⟨h1, h2.imp (hs a a0 a1) fun k => ⟨k.1, hs b b0 b1 k.2⟩⟩
  ·exact .inr (.inl ⟨h1, hs a a0 a1 h2⟩)
  ·exact .inr (.inr (.inl h))
  ·exact .inr (.inr (.inr h))
 rintro (⟨h1, h2⟩ | ⟨h1, h2⟩)
 ·exact .inl ⟨h1, putQ_32 hs hd r0 r1 h2⟩
 ·exact .inr ⟨h1, hs r r0 r1 h2⟩
theorem below_up {q q' p t : Int} {Y : Int → Prop} (hb : Below w nc nr cS q) (p0 : 0 ≤ p) (p1 : p < nc) {qs : Int} (hqs : Below w nc nr cS qs) (hr : bT qs p 0) (h5 : decZ (IntKind.wrap .u32 (rdZ w p)) 5 = 0)
  (hn : nxtP nr (decZ (IntKind.wrap .u32 (rdZ w p)) 0) (decZ (IntKind.wrap .u32 (rdZ w p)) 2) (decZ (IntKind.wrap .u32 (rdZ w p)) 4) p t) (t0 : 0 ≤ t) (t1 : t < nc) (hu : UpQ q q' t Y)
  (hY : ∀ r, 0 ≤ r → r < 32 → Y r → behS nr cS (decZ (IntKind.wrap .u32 (rdZ w p)) 0) (decZ (IntKind.wrap .u32 (rdZ w p)) 1) (decZ (IntKind.wrap .u32 (rdZ w p)) 2) (decZ (IntKind.wrap .u32 (rdZ w p)) 3) (decZ (IntKind.wrap .u32 (rdZ w p)) 4) (fun r => bT qs p (1 + r)) r) : Below w nc nr cS q' := by
 have hc := qJm (w := w) (nc := nc) (nr := nr) (cS := cS)
 have hx := hc.next p t p0 p1 (hqs.re p p0 p1 hr) h5 hn t0 t1
 obtain ⟨_, _, ⟨a0, a1⟩, ⟨b0, b1⟩, _⟩ := dec_in (rdZ w p) h5
 refine ⟨fun x x0 x1 hx' => ?_, fun x r x0 x1 r0 r1 hx' => ?_⟩
 ·by_cases e : x = t
  ·subst e; exact hx.1
  ·exact hb.re x x0 x1 ((hu.oth x 0 x0 e (by decide) (by decide)).1 hx')
 ·by_cases e : x = t
  ·subst e
   rcases (hu.se r r0 r1).1 hx' with k | k
   ·exact hb.se x r x0 x1 r0 r1 k
   ·exact hx.2 r r0 r1 (behS_32 a0 a1 b0 b1 (fun s s0 s1 hs => hqs.se p s p0 p1 s0 s1 hs) r0 r1 (hY r r0 r1 k))
  ·exact hb.se x r x0 x1 r0 r1 ((hu.oth x (1 + r) x0 e (by omega) (by omega)).1 hx')
theorem lev_is {q : Int} (hb : Below w nc nr cS q) (h0 : 0 < nc → bT q 0 0) (hc : ∀ p, 0 ≤ p → p < nc → ClosedAt w nc nr cS q p) : ClosedL w nc nr cS (lvOf q) :=
 ⟨h0, fun p t p0 p1 hr h5 hn t0 t1 => hc p p0 p1 hr h5 t hn t0 t1⟩
open Classical in
theorem lvF_at (L : Lv) : ∀ (n k : Nat), k < n → rdZ (lvF L n) k = lvRow L k
 | 0, k, h => by omega
 | n + 1, k, h => by
  rw [lvF, qQi, Int.toNat_natCast, Int.toNat_natCast]
  by_cases e : k = n
  ·rw [if_pos e, e]
  ·rw [if_neg e]; exact lvF_at L n k (by omega)
open Classical in
theorem lvRow_rd (L : Lv) (p : Int) : rdZ (lvRow L p) 0 = (if L.re p then 1 else 0) ∧ ∀ r : Int, 0 ≤ r → r < 32 → rdZ (lvRow L p) (1 + r) = if L.se p r then 1 else 0 := by
 unfold lvRow
 refine ⟨qQv _ _, fun r r0 r1 => ?_⟩
 obtain ⟨k, rfl⟩ : ∃ k : Nat, r = k := ⟨r.toNat, by omega⟩
 rw [qZj _ _ (by omega), show 1 + (k : Int) - 1 = k by omega, rdZ_LZ, List.getD_eq_getElem?_getD, List.getElem?_map, List.getElem?_range (by omega)]
 simp only [Option.map_some, Option.getD_some, Int.toNat_natCast]
end
end Go.Eng
end
/-!  -/
noncomputable section
namespace Go.Eng
section
variable {w nc nr cS : Int}
variable {q0 qp q ch p j : Int} {Y : Int → Prop} {T : Int → Int}
end
end Go.Eng
end
/-!  -/
noncomputable section
namespace Go.Eng
theorem bo1 (x k : Int) : qQz (x == k) = if x = k then 1 else 0 := by
 unfold qQz
 by_cases e : x = k
 ·rw [if_pos e]; simp [e]
 ·rw [if_neg e]; simp [e]
theorem bo2 (x k : Int) : qQz (decide (x ≤ k)) = if x ≤ k then 1 else 0 := by
 unfold qQz
 by_cases e : x ≤ k
 ·rw [if_pos e]; simp [e]
 ·rw [if_neg e]; simp [e]
end Go.Eng
end
