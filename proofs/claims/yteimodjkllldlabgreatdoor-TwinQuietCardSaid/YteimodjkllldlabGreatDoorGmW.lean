/-
  Parts of the engine, a program's symbolic run, proved sound; and of plain laws.
-/
import Derived.Test.YteimodjkllldlabGreatDoorGmU
set_option linter.unusedVariables false
set_option linter.unusedSimpArgs false

/-!  -/
noncomputable section
namespace Go.Eng
structure Ne2 (nr cS : Int) (S : Int → Prop) (A B : Mac) : Prop where
 pc : B.pc = A.pc
 st : B.st = A.st
 co : B.co = A.co
 mq : B.mq = A.mq
 nm : B.nm = A.nm
 rm : ∀ j : Int, 0 ≤ j → j < nr → rdZ cS j = 0 → IntKind.wrap .i32 (rdZ B.rm j) = IntKind.wrap .i32 (rdZ A.rm j)
 rg : ∀ r : Int, 0 ≤ r → r < 32 → ¬ S r → B.reg r = A.reg r
 z : A.reg 0 = 0 ∧ B.reg 0 = 0
section
variable {nr cS : Int} {S : Int → Prop} {A B : Mac}
theorem ne_goes (h : Ne2 nr cS S A B) (next addr cost : Int) : Ne2 nr cS S (A.goes next addr cost) (B.goes next addr cost) := by
 refine ⟨rfl, h.st, ?_, ?_, ?_, h.rm, h.rg, h.z⟩
 ·show IntKind.wrap .i64 (B.co + cost) = IntKind.wrap .i64 (A.co + cost); rw [h.co]
 ·show updZ B.mq B.nm (qQq B.pc _) = updZ A.mq A.nm (qQq A.pc _); rw [h.mq, h.nm, h.pc]
 ·show B.nm + 1 = A.nm + 1; rw [h.nm]
theorem ne_st (h : Ne2 nr cS S A B) (s : Int) : Ne2 nr cS S { A with st := s } { B with st := s } := ⟨h.pc, rfl, h.co, h.mq, h.nm, h.rm, h.rg, h.z⟩
theorem ne_put (h : Ne2 nr cS S A B) {d x y : Int} {ds : Prop} (d0 : 0 ≤ d) (hx : ¬ ds → IntKind.wrap .i32 y = IntKind.wrap .i32 x) : Ne2 nr cS (putQ S d ds) (A.put d x) (B.put d y) := by
 unfold Mac.put
 by_cases e : d ≠ 0
 ·rw [if_pos e, if_pos e]
  refine ⟨h.pc, h.st, h.co, h.mq, h.nm, h.rm, fun r r0 r1 hr => ?_, ?_⟩
  ·unfold Mac.reg
   simp only [qQh]
   by_cases g : r.toNat = d.toNat
   ·rw [if_pos g, if_pos g]
    refine hx fun k => hr (.inl ⟨by omega, k, e⟩)
   ·rw [if_neg g, if_neg g]
    exact h.rg r r0 r1 fun k => hr (.inr ⟨by omega, k⟩)
  ·unfold Mac.reg
   simp only [qQh]
   rw [if_neg (by omega), if_neg (by omega)]
   exact h.z
 ·rw [if_neg e, if_neg e]
  refine ⟨h.pc, h.st, h.co, h.mq, h.nm, h.rm, fun r r0 r1 hr => ?_, h.z⟩
  by_cases g : r = 0
  ·subst g; rw [h.z.1, h.z.2]
  ·exact h.rg r r0 r1 fun k => hr (.inr ⟨by omega, k⟩)
theorem ne_sub (h : Ne2 nr cS S A B) {S' : Int → Prop} (hs : ∀ r, S r → S' r) : Ne2 nr cS S' A B := ⟨h.pc, h.st, h.co, h.mq, h.nm, h.rm, fun r r0 r1 k => h.rg r r0 r1 fun g => k (hs r g), h.z⟩
end
def Go2 (nr cS op d a b n pc : Int) (S : Int → Prop) (A B : Mac) : Prop :=
 (Ne2 nr cS S A B ∧ A.st ≠ 0 ∧ A.pc = pc) ∨ (Ne2 nr cS (behS nr cS op d a b n S) A B ∧ A.st = 0 ∧ nxtP nr op a n pc A.pc)
section
variable {nr cS op d a b n : Int} {S : Int → Prop} {A B : Mac}
theorem g2_stop (h : Ne2 nr cS S A B) {s : Int} (hs : s ≠ 0) : Go2 nr cS op d a b n A.pc S { A with st := s } { B with st := s } := .inl ⟨ne_st h s, hs, rfl⟩
theorem g2_put (h : Ne2 nr cS S A B) (hst : A.st = 0) (d0 : 0 ≤ d) {x y t addr c : Int} (hp : qKx op) (hx : ¬ dsec nr cS op a b n S → IntKind.wrap .i32 y = IntKind.wrap .i32 x) (ht : nxtP nr op a n A.pc t) :
  Go2 nr cS op d a b n A.pc S ((A.put d x).goes t addr c) ((B.put d y).goes t addr c) :=
 .inr ⟨ne_sub (ne_goes (ne_put h d0 hx) _ _ _) fun r k => .inl ⟨hp, k⟩, by show (A.put d x).st = 0; rw [(qXv A d x).2.1]; exact hst, ht⟩
theorem g2_goes (h : Ne2 nr cS S A B) (hst : A.st = 0) {t addr c : Int} (hp : ¬ qKx op) (ht : nxtP nr op a n A.pc t) : Go2 nr cS op d a b n A.pc S (A.goes t addr c) (B.goes t addr c) :=
 .inr ⟨ne_sub (ne_goes h _ _ _) fun r k => .inr ⟨hp, k⟩, hst, ht⟩
theorem ne_does (h : Ne2 nr cS S A B) (hst : A.st = 0) (o1 : 1 ≤ op) (o43 : op ≤ 43) (d0 : 0 ≤ d) (d1 : d < 32) (a0 : 0 ≤ a) (a1 : a < 32) (b0 : 0 ≤ b) (b1 : b < 32) (n0 : -32768 ≤ n) (n1 : n ≤ 65535)
  (p0 : 0 ≤ A.pc) (p1 : A.pc ≤ 20000) (w : ¬ wrongP nr cS op d a b n S) : Go2 nr cS op d a b n A.pc S (A.does nr op d a b n) (B.does nr op d a b n) := by
 have hw : IntKind.wrap .i32 n = n := wi32 (by omega) (by omega)
 have hpc : IntKind.wrap .i64 (A.pc + 1) = A.pc + 1 := w64 (by omega) (by omega)
 have ga := h.rg a a0 a1
 have gb := h.rg b b0 b1
 have gd := h.rg d d0 d1
 have hn1 : ¬ (36 ≤ op ∧ op ≤ 40) → ¬ endsP nr op a n → nxtP nr op a n A.pc (IntKind.wrap .i64 (A.pc + 1)) := fun h1 h2 => ⟨h2, .inr (.inr ⟨h1, hpc⟩)⟩
 have put1 : ∀ (m : Mac) (i x c : Int), (m.put i x).on c = (m.put i x).goes (IntKind.wrap .i64 (m.pc + 1)) (-1) c := fun m i x c => by unfold Mac.on; rw [(qXv m i x).1]
 have key : ∀ {x y c : Int}, qKx op → ¬ (36 ≤ op ∧ op ≤ 40) → ¬ endsP nr op a n → (¬ dsec nr cS op a b n S → IntKind.wrap .i32 y = IntKind.wrap .i32 x) → Go2 nr cS op d a b n A.pc S ((A.put d x).on c) ((B.put d y).on c) := fun {x y c} hp hj he hx => by
  rw [put1, put1, h.pc]
  exact g2_put h hst d0 hp hx (hn1 hj he)
 by_cases o2 : op ≤ 30
 ·rw [does_alu o2, does_alu o2]
  have hK : aluK op (B.reg a) (B.reg b) = aluK op (A.reg a) (A.reg b) := by
   by_cases e : op = 22 ∨ op = 23
   ·rw [ga fun k => w (.inl ⟨e, .inl k⟩), gb fun k => w (.inl ⟨e, .inr k⟩)]
   ·have q1 : ∀ x y, aluK op x y = 1 := fun x y => by
     have q : aluK op x y ≠ 0 := fun g => e ((aluK_iff o1 o2).1 g).1
     unfold aluK at *
     split at q
     ·rename_i g; rw [if_pos g]
     ·exact absurd rfl q
    rw [q1, q1]
  have hC : aluC op (B.reg a) = aluC op (A.reg a) := by
   by_cases e : op = 22 ∨ op = 23
   ·rw [ga fun k => w (.inl ⟨e, .inl k⟩)]
   ·unfold aluC; rw [if_neg e, if_neg e]
  rw [hK, hC]
  by_cases hk : aluK op (A.reg a) (A.reg b) = 0
  ·rw [if_pos hk, if_pos hk]
   exact g2_stop h (by decide)
  ·rw [if_neg hk, if_neg hk]
   refine key (.inl (by omega)) (by omega) (by unfold endsP; omega) (fun ns => ?_)
   have na : ¬ S a := fun k => ns (.inl ⟨o2, .inl k⟩)
   rw [ga na]
   by_cases e : op ≤ 23
   ·rw [gb fun k => ns (.inl ⟨o2, .inr ⟨e, k⟩⟩)]
   ·rw [aluV_b (b := B.reg b) (c := A.reg b) (by omega) o2]
 by_cases o : op = 31
 ·subst o
  rw [does_31, does_31]
  exact key (.inl (by omega)) (by omega) (by unfold endsP; omega) (fun ns => by rw [ga fun k => ns (.inr (.inl ⟨.inl rfl, k⟩))])
 by_cases o' : op = 32
 ·subst o'
  rw [does_32, does_32]
  exact key (.inl (by omega)) (by omega) (by unfold endsP; omega) (fun ns => by rw [ga fun k => ns (.inr (.inl ⟨.inr rfl, k⟩))])
 by_cases o3 : op = 33
 ·subst o3
  rw [does_33, does_33]
  exact key (.inl (by omega)) (by omega) (by unfold endsP; omega) (fun _ => rfl)
 by_cases o4 : op = 34 ∨ op = 35
 ·have na : ¬ (op = 34 ∧ S a) := fun k => w (.inr (.inl k))
  have nb : ¬ (op = 35 ∧ a ≠ 0 ∧ S a) := fun k => w (.inr (.inr (.inr (.inl ⟨k.1, k.2.1, .inl k.2.2⟩))))
  have hra : B.reg a = A.reg a := by
   by_cases e : a = 0
   ·subst e; rw [h.z.1, h.z.2]
   ·exact ga fun k => by rcases o4 with o | o; exact na ⟨o, k⟩; exact nb ⟨o, e, k⟩
  have eA : A.does nr op d a b n = A.memA nr op d (IntKind.wrap .i32 (A.reg a + n)) := by rcases o4 with rfl | rfl; rw [does_34, does_mem' hw]; rw [does_35, does_mem' hw]
  have eB : B.does nr op d a b n = B.memA nr op d (IntKind.wrap .i32 (A.reg a + n)) := by rcases o4 with rfl | rfl; rw [does_34, does_mem' hw, hra]; rw [does_35, does_mem' hw, hra]
  rw [eA, eB]
  have hX0 : a = 0 → IntKind.wrap .i32 (A.reg a + n) = n := fun e => by subst e; rw [h.z.1, Int.zero_add]; exact hw
  generalize IntKind.wrap .i32 (A.reg a + n) = X at hX0
  unfold Mac.memA
  by_cases hb : X < 0 ∨ nr ≤ X
  ·rw [if_pos hb, if_pos hb]; exact g2_stop h (by decide)
  rw [if_neg hb, if_neg hb]
  have hne : ¬ endsP nr op a n := fun e => by
   rcases e with e | e | ⟨_, e1, e2⟩
   ·omega
   ·omega
   ·have := hX0 e1; omega
  have go : ∀ c, Go2 nr cS op d a b n A.pc S (A.memo op d X c) (B.memo op d X c) := fun c => by
   unfold Mac.memo
   rw [h.pc]
   by_cases o5 : op = 35
   ·rw [if_pos o5, if_pos o5]
    have hs : Ne2 nr cS S { A with rm := updZ A.rm X (A.reg d) } { B with rm := updZ B.rm X (B.reg d) } := by
     refine ⟨h.pc, h.st, h.co, h.mq, h.nm, fun j j0 j1 hj => ?_, h.rg, h.z⟩
     show IntKind.wrap .i32 (rdZ (updZ B.rm X (B.reg d)) j) = IntKind.wrap .i32 (rdZ (updZ A.rm X (A.reg d)) j)
     rw [qQh, qQh]
     by_cases g : j.toNat = X.toNat
     ·rw [if_pos g, if_pos g]
      have jX : j = X := by omega
      subst jX
      have nd : ¬ S d := fun k => by
       by_cases e : a = 0
       ·have := hX0 e; subst this
        exact w (.inr (.inr (.inl ⟨o5, e, k, by omega, hj⟩)))
       ·exact w (.inr (.inr (.inr (.inl ⟨o5, e, .inr ⟨k, j, j0, j1, hj⟩⟩))))
      rw [gd nd]
     ·rw [if_neg g, if_neg g]; exact h.rm j j0 j1 hj
    have hp : ({ B with rm := updZ B.rm X (B.reg d) } : Mac) = { B with rm := updZ B.rm X (B.reg d) } := rfl
    have := g2_goes (d := d) (b := b) (a := a) (n := n) (op := op) hs hst (t := IntKind.wrap .i64 (A.pc + 1)) (addr := X) (c := c) (by unfold qKx; omega) (hn1 (by omega) hne)
    rw [show B.pc = A.pc from h.pc] at this
    exact this
   ·rw [if_neg o5, if_neg o5]
    refine g2_put h hst d0 (.inl (by omega)) (fun ns => ?_) (hn1 (by omega) hne)
    have o34 : op = 34 := by omega
    rw [wi32_wrap, wi32_wrap]
    refine h.rm X (by omega) (by omega) (Classical.byContradiction fun hs => ns ?_)
    by_cases e : a = 0
    ·have := hX0 e; subst this
     exact .inr (.inr (.inl ⟨o34, e, by omega, hs⟩))
    ·exact .inr (.inr (.inr ⟨o34, e, X, by omega, by omega, hs⟩))
  by_cases h10 : 1024 ≤ X
  ·rw [if_pos h10, if_pos h10]; exact go _
  ·rw [if_neg h10, if_neg h10]; exact go _
 have br : (op = 36 ∨ op = 37 ∨ op = 38) → ∀ (p q : Prop) [Decidable p] [Decidable q], (p ↔ q) → Go2 nr cS op d a b n A.pc S (A.branch n p) (B.branch n q) := fun ho p q _ _ e => by
  unfold Mac.branch Mac.on
  rw [h.pc]
  have np : ¬ qKx op := by unfold qKx; omega
  have ne : ¬ endsP nr op a n := by unfold endsP; omega
  by_cases hp : p
  ·rw [if_pos hp, if_pos (e.1 hp)]; exact g2_goes h hst np ⟨ne, .inl ⟨ho, .inl rfl⟩⟩
  ·rw [if_neg hp, if_neg fun k => hp (e.2 k)]; exact g2_goes h hst np ⟨ne, .inl ⟨ho, .inr hpc⟩⟩
 have hda : (op = 36 ∨ op = 37 ∨ op = 38) → B.reg d = A.reg d ∧ B.reg a = A.reg a := fun ho => ⟨gd fun k => w (.inr (.inr (.inr (.inr (.inl ⟨ho, .inl k⟩))))), ga fun k => w (.inr (.inr (.inr (.inr (.inl ⟨ho, .inr k⟩)))))⟩
 by_cases o6 : op = 36
 ·obtain ⟨e1, e2⟩ := hda (.inl o6)
  have := br (.inl o6)
  subst o6
  rw [does_36, does_36]; exact this _ _ (by rw [e1, e2])
 by_cases o7 : op = 37
 ·obtain ⟨e1, e2⟩ := hda (.inr (.inl o7))
  have := br (.inr (.inl o7))
  subst o7
  rw [does_37, does_37]; exact this _ _ (by rw [e1, e2])
 by_cases o8 : op = 38
 ·obtain ⟨e1, e2⟩ := hda (.inr (.inr o8))
  have := br (.inr (.inr o8))
  subst o8
  rw [does_38, does_38]; exact this _ _ (by rw [e1, e2])
 by_cases o9 : op = 39
 ·subst o9
  rw [does_39, does_39]; exact g2_goes h hst (by unfold qKx; omega) ⟨by unfold endsP; omega, .inr (.inl ⟨.inl rfl, rfl⟩)⟩
 by_cases o10 : op = 40
 ·subst o10
  rw [does_40, does_40, h.pc]; exact g2_put h hst d0 (.inr rfl) (fun _ => rfl) ⟨by unfold endsP; omega, .inr (.inl ⟨.inr rfl, rfl⟩)⟩
 by_cases o11 : op = 41
 ·exact absurd (.inr (.inr (.inr (.inr (.inr o11))))) w
 by_cases o12 : op = 42
 ·subst o12
  rw [does_42, does_42]
  unfold Mac.on
  rw [h.pc]
  exact g2_goes h hst (by unfold qKx; omega) (hn1 (by omega) (by unfold endsP; omega))
 ·have o13 : op = 43 := by omega
  subst o13
  rw [does_43, does_43, h.pc]
  exact .inl ⟨ne_st (ne_goes h _ _ _) 1, by show (1 : Int) ≠ 0; decide, rfl⟩
end
structure FlowOk (w nc nr cS : Int) (L : Lv) : Prop where
 start : 0 < nc → L.re 0
 next : ∀ pc t, 0 ≤ pc → pc < nc → L.re pc → decZ (IntKind.wrap .u32 (rdZ w pc)) 5 = 0 →
  nxtP nr (decZ (IntKind.wrap .u32 (rdZ w pc)) 0) (decZ (IntKind.wrap .u32 (rdZ w pc)) 2) (decZ (IntKind.wrap .u32 (rdZ w pc)) 4) pc t → 0 ≤ t → t < nc → L.re t ∧ ∀ r, 0 ≤ r → r < 32 →
  behS nr cS (decZ (IntKind.wrap .u32 (rdZ w pc)) 0) (decZ (IntKind.wrap .u32 (rdZ w pc)) 1) (decZ (IntKind.wrap .u32 (rdZ w pc)) 2) (decZ (IntKind.wrap .u32 (rdZ w pc)) 3) (decZ (IntKind.wrap .u32 (rdZ w pc)) 4) (L.se pc) r → L.se t r
 fine : ∀ pc, 0 ≤ pc → pc < nc → L.re pc → decZ (IntKind.wrap .u32 (rdZ w pc)) 5 = 0 →
  ¬ wrongP nr cS (decZ (IntKind.wrap .u32 (rdZ w pc)) 0) (decZ (IntKind.wrap .u32 (rdZ w pc)) 1) (decZ (IntKind.wrap .u32 (rdZ w pc)) 2) (decZ (IntKind.wrap .u32 (rdZ w pc)) 3) (decZ (IntKind.wrap .u32 (rdZ w pc)) 4) (L.se pc)
def secAt (nc : Int) (L : Lv) (pc r : Int) : Prop := ¬ (0 ≤ pc ∧ pc < nc) ∨ L.se pc r
structure Nq (nc nr cS : Int) (L : Lv) (A B : Mac) : Prop where
 ne : Ne2 nr cS (secAt nc L A.pc) A B
 re : 0 ≤ A.pc → A.pc < nc → L.re A.pc
theorem ne_only {nr cS : Int} {S S' : Int → Prop} {A B : Mac} (h : Ne2 nr cS S A B) (hs : ∀ r, 0 ≤ r → r < 32 → S r → S' r) : Ne2 nr cS S' A B := ⟨h.pc, h.st, h.co, h.mq, h.nm, h.rm, fun r r0 r1 k => h.rg r r0 r1 fun g => k (hs r r0 r1 g), h.z⟩
section
variable {w nr cS : Int} {nc : Nat} {L : Lv}
theorem nq_step (hc : nc ≤ 16384) (ho : FlowOk w nc nr cS L) {A B : Mac} (q : Nq nc nr cS L A B) (hs : A.st = 0) : Nq nc nr cS L (A.step (decC w nc) nc nr) (B.step (decC w nc) nc nr) := by
 obtain ⟨Arg, Arm, Apc, Ast, Aco, Amq, Anm⟩ := A
 obtain ⟨Brg, Brm, Bpc, Bst, Bco, Bmq, Bnm⟩ := B
 have hs : Ast = 0 := hs
 have hpc : Bpc = Apc := q.ne.pc
 have hst : Bst = Ast := q.ne.st
 subst hs; subst hst; subst hpc
 by_cases g : Bpc < 0 ∨ (nc : Int) ≤ Bpc
 ·have e : ∀ (m : Mac), m.pc = Bpc → m.st = 0 → m.step (decC w nc) nc nr = { m with st := 2 } := fun m h1 h2 => by
   unfold Mac.step
   rw [if_neg (by simp [h2]), if_pos (by rw [h1]; exact g)]
  rw [e _ rfl rfl, e _ rfl rfl]
  exact ⟨ne_st q.ne 2, fun h0 h1 => q.re h0 h1⟩
 have g0 : 0 ≤ Bpc := by omega
 have g1 : Bpc < nc := by omega
 have hA := x_dec (w := w) (k := nc) (pc := Bpc) (st := 0) (rg := Arg) (rm := Arm) (co := Aco) (mq := Amq) (nm := Anm) rfl g0 g1 nr
 have hB := x_dec (w := w) (k := nc) (pc := Bpc) (st := 0) (rg := Brg) (rm := Brm) (co := Bco) (mq := Bmq) (nm := Bnm) rfl g0 g1 nr
 rw [hA, hB]
 by_cases e5 : decZ (IntKind.wrap .u32 (rdZ w Bpc)) 5 = 0
 ·rw [if_pos e5, if_pos e5]
  obtain ⟨⟨q1, q2⟩, ⟨q3, q4⟩, ⟨q5, q6⟩, ⟨q7, q8⟩, q9, q10⟩ := dec_in (rdZ w Bpc) e5
  have hre := q.re g0 g1
  have hne : Ne2 nr cS (L.se Bpc) ⟨Arg, Arm, Bpc, 0, Aco, Amq, Anm⟩ ⟨Brg, Brm, Bpc, 0, Bco, Bmq, Bnm⟩ := ne_sub q.ne fun r k => k.elim (fun k => absurd ⟨g0, g1⟩ k) id
  have hd := ne_does hne rfl q1 q2 q3 q4 q5 q6 q7 q8 q9 q10 g0 (by show Bpc ≤ 20000; omega) (ho.fine Bpc g0 g1 hre e5)
  rcases hd with ⟨h1, _, h3⟩ | ⟨h1, _, h3⟩
  ·have h3 : (Mac.does _ _ _ _ _ _ _).pc = Bpc := h3
   refine ⟨?_, fun _ _ => by rw [h3]; exact hre⟩
   rw [h3]
   exact ne_sub h1 fun r k => .inr k
  ·have hn := fun k0 k1 => ho.next Bpc _ g0 g1 hre e5 h3 k0 k1
   refine ⟨ne_only h1 fun r r0 r1 k => ?_, fun k0 k1 => (hn k0 k1).1⟩
   unfold secAt
   by_cases kk : 0 ≤ (Mac.does ⟨Arg, Arm, Bpc, 0, Aco, Amq, Anm⟩ nr (decZ (IntKind.wrap .u32 (rdZ w Bpc)) 0) (decZ (IntKind.wrap .u32 (rdZ w Bpc)) 1) (decZ (IntKind.wrap .u32 (rdZ w Bpc)) 2) (decZ (IntKind.wrap .u32 (rdZ w Bpc)) 3) (decZ (IntKind.wrap .u32 (rdZ w Bpc)) 4)).pc ∧ (Mac.does ⟨Arg, Arm, Bpc, 0, Aco, Amq, Anm⟩ nr (decZ (IntKind.wrap .u32 (rdZ w Bpc)) 0) (decZ (IntKind.wrap .u32 (rdZ w Bpc)) 1) (decZ (IntKind.wrap .u32 (rdZ w Bpc)) 2) (decZ (IntKind.wrap .u32 (rdZ w Bpc)) 3) (decZ (IntKind.wrap .u32 (rdZ w Bpc)) 4)).pc < nc
   ·exact .inr ((hn kk.1 kk.2).2 r r0 r1 k)
   ·exact .inl kk
 ·rw [if_neg e5, if_neg e5]
  exact ⟨ne_st q.ne 3, fun h0 h1 => q.re h0 h1⟩
theorem nq_runs (hc : nc ≤ 16384) (ho : FlowOk w nc nr cS L) {A B : Mac} (q : Nq nc nr cS L A B) : ∀ k : Nat, Nq nc nr cS L (Mac.runs (decC w nc) nc nr k A).1 (Mac.runs (decC w nc) nc nr k B).1 ∧ (Mac.runs (decC w nc) nc nr k B).2 = (Mac.runs (decC w nc) nc nr k A).2
 | 0 => ⟨q, rfl⟩
 | k + 1 => by
  obtain ⟨h1, h2⟩ := nq_runs hc ho q k
  rw [qXu, qXu]
  by_cases s : (Mac.runs (decC w nc) nc nr k A).1.st = 0
  ·rw [if_pos s, if_pos (by rw [h1.ne.st]; exact s)]
   exact ⟨nq_step hc ho h1 s, by rw [h2]⟩
  ·rw [if_neg s, if_neg (by rw [h1.ne.st]; exact s)]
   exact ⟨h1, h2⟩
theorem nq_nu (ho : FlowOk w nc nr cS L) {M N : Int} (h : ∀ j : Int, 0 ≤ j → j < nr → rdZ cS j = 0 → IntKind.wrap .i32 (rdZ N j) = IntKind.wrap .i32 (rdZ M j)) : Nq nc nr cS L (macM (nuP M)) (macM (nuP N)) := by
 rw [macM_nu, macM_nu]
 have hz : ∀ m : Int, Mac.reg ⟨qKf 32, m, 0, 0, 0, 0, 0⟩ 0 = 0 := fun m => by unfold Mac.reg; rw [zero_rd 0 (by decide)]; decide
 exact ⟨⟨rfl, rfl, rfl, rfl, rfl, h, fun _ _ _ _ => rfl, hz _, hz _⟩, fun _ h1 => ho.start h1⟩
end
end Go.Eng
end
