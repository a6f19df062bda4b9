/-
  Parts of the engine, a program's symbolic run, proved sound; and of plain laws.
-/
import Derived.Test.YteimodjkllldlaaGreatDoorGmW
set_option linter.unusedVariables false
set_option linter.unusedSimpArgs false

/-!  -/
noncomputable section
namespace Go.Eng
structure Kq (nr cS : Int) (S : Int → Prop) (F : Fm) : Prop where
 rm : ∀ j : Int, 0 ≤ j → j < nr → rdZ cS j = 0 → rdZ (rdZ F.rm j) 1 ≠ 0
 rg : ∀ r : Int, 0 ≤ r → r < 32 → ¬ S r → F.k r ≠ 0
 z : F.x 0 = 0 ∧ F.k 0 ≠ 0
section
variable {nr cS : Int} {S : Int → Prop} {F : Fm}
theorem kq_sub (h : Kq nr cS S F) {S' : Int → Prop} (hs : ∀ r, 0 ≤ r → r < 32 → S r → S' r) : Kq nr cS S' F := ⟨h.rm, fun r r0 r1 k => h.rg r r0 r1 fun g => k (hs r r0 r1 g), h.z⟩
theorem kq_same (h : Kq nr cS S F) {G : Fm} (h1 : G.rg = F.rg) (h2 : G.rm = F.rm) : Kq nr cS S G := by
 refine ⟨by rw [h2]; exact h.rm, fun r r0 r1 k => ?_, ?_⟩
 ·have := h.rg r r0 r1 k; unfold Fm.k at *; rw [h1]; exact this
 ·have := h.z; unfold Fm.x Fm.k at *; rw [h1]; exact this
theorem kq_put (h : Kq nr cS S F) {d W : Int} {ds : Prop} (d0 : 0 ≤ d) (hx : ¬ ds → rdZ W 1 ≠ 0) : Kq nr cS (putQ S d ds) (F.put d W) := by
 unfold Fm.put
 by_cases e : d ≠ 0
 ·rw [if_pos e]
  refine ⟨h.rm, fun r r0 r1 hr => ?_, ?_⟩
  ·unfold Fm.k
   simp only [qQp]
   by_cases g : r.toNat = d.toNat
   ·rw [if_pos g]
    exact hx fun k => hr (.inl ⟨by omega, k, e⟩)
   ·rw [if_neg g]
    exact h.rg r r0 r1 fun k => hr (.inr ⟨by omega, k⟩)
  ·unfold Fm.x Fm.k
   simp only [qQp]
   rw [if_neg (by omega)]
   exact h.z
 ·rw [if_neg e]
  refine ⟨h.rm, fun r r0 r1 hr => ?_, h.z⟩
  by_cases g : r = 0
  ·subst g; exact h.z.2
  ·exact h.rg r r0 r1 fun k => hr (.inr ⟨by omega, k⟩)
def Go3 (nr cS op d a b n pc : Int) (S : Int → Prop) (A : Fm) : Prop :=
 (Kq nr cS S A ∧ A.st ≠ 0 ∧ A.pc = pc) ∨ (Kq nr cS (behS nr cS op d a b n S) A ∧ A.st = 0 ∧ nxtP nr op a n pc A.pc)
variable {op d a b n : Int}
theorem g3_put (h : Kq nr cS S F) (hst : F.st = 0) (d0 : 0 ≤ d) {W t addr c : Int} (hp : qKk op) (hx : ¬ dsec nr cS op a b n S → rdZ W 1 ≠ 0) (ht : nxtP nr op a n F.pc t) : Go3 nr cS op d a b n F.pc S ((F.put d W).goes t addr c) := by
 refine .inr ⟨kq_sub (kq_same (G := (F.put d W).goes t addr c) (kq_put h d0 hx) rfl rfl) fun r _ _ k => .inl ⟨hp, k⟩, ?_, ht⟩
 show (F.put d W).st = 0
 unfold Fm.put; split <;> exact hst
theorem g3_goes (h : Kq nr cS S F) (hst : F.st = 0) {t addr c : Int} (hp : ¬ qKk op) (ht : nxtP nr op a n F.pc t) : Go3 nr cS op d a b n F.pc S (F.goes t addr c) :=
 .inr ⟨kq_sub (kq_same (G := F.goes t addr c) h rfl rfl) fun r _ _ k => .inr ⟨hp, k⟩, hst, ht⟩
theorem g3_stop (h : Kq nr cS S F) {s : Int} (hs : s ≠ 0) : Go3 nr cS op d a b n F.pc S { F with st := s } := .inl ⟨kq_same h rfl rfl, hs, rfl⟩
theorem qXm {c : Prop} [Decidable c] {pc : Int} {A B : Fm} (h1 : c → Go3 nr cS op d a b n pc S A) (h2 : ¬ c → Go3 nr cS op d a b n pc S B) : Go3 nr cS op d a b n pc S (if c then A else B) := by
 by_cases h : c
 ·rw [if_pos h]; exact h1 h
 ·rw [if_neg h]; exact h2 h
theorem kq_told (h : Kq nr cS S F) (d0 : 0 ≤ d) (d1 : d < 32) (a0 : 0 ≤ a) (a1 : a < 32) (b0 : 0 ≤ b) (b1 : b < 32) (w : ¬ wrongP nr cS op d a b n S) : Fm.told F op d a b := by
 have ga := h.rg a a0 a1
 have gb := h.rg b b0 b1
 have gd := h.rg d d0 d1
 unfold Fm.told
 by_cases e : op = 22 ∨ op = 23
 ·rw [if_pos e]; exact ⟨ga fun k => w (.inl ⟨e, .inl k⟩), gb fun k => w (.inl ⟨e, .inr k⟩)⟩
 rw [if_neg e]
 by_cases e2 : op = 36 ∨ op = 37 ∨ op = 38
 ·rw [if_pos e2]; exact ⟨gd fun k => w (.inr (.inr (.inr (.inr (.inl ⟨e2, .inl k⟩))))), ga fun k => w (.inr (.inr (.inr (.inr (.inl ⟨e2, .inr k⟩)))))⟩
 rw [if_neg e2]
 by_cases l : lkP op
 ·left
  have l' : op = 34 ∨ op = 35 ∨ op = 41 := by unfold lkP at l; omega
  by_cases ea : a = 0
  ·subst ea; exact h.z.2
  refine ga fun k => w ?_
  rcases l' with o | o | o
  ·exact .inr (.inl ⟨o, k⟩)
  ·exact .inr (.inr (.inr (.inl ⟨o, ea, .inl k⟩)))
  ·exact .inr (.inr (.inr (.inr (.inr o))))
 ·exact .inr l
theorem both_k {p q v : Int} (hp : p ≠ 0) (hq : q ≠ 0) : rdZ (both p q v) 1 ≠ 0 := by
 rw [both_may, if_pos ⟨hp, hq⟩, (may_rd v 1).2]; decide
theorem kq_does (h : Kq nr cS S F) (hst : F.st = 0) (o1 : 1 ≤ op) (o43 : op ≤ 43) (d0 : 0 ≤ d) (d1 : d < 32) (a0 : 0 ≤ a) (a1 : a < 32) (b0 : 0 ≤ b) (b1 : b < 32) (n0 : -32768 ≤ n) (n1 : n ≤ 65535)
  (p0 : 0 ≤ F.pc) (p1 : F.pc ≤ 20000) (w : ¬ wrongP nr cS op d a b n S) : Go3 nr cS op d a b n F.pc S (F.does nr op d a b n) := by
 have hw : IntKind.wrap .i32 n = n := wi32 (by omega) (by omega)
 have hpc : IntKind.wrap .i64 (F.pc + 1) = F.pc + 1 := w64 (by omega) (by omega)
 have ga := h.rg a a0 a1
 have gb := h.rg b b0 b1
 have gd := h.rg d d0 d1
 have hn1 : ¬ (36 ≤ op ∧ op ≤ 40) → ¬ endsP nr op a n → nxtP nr op a n F.pc (IntKind.wrap .i64 (F.pc + 1)) := fun h1 h2 => ⟨h2, .inr (.inr ⟨h1, hpc⟩)⟩
 have put1 : ∀ (i x c : Int), (F.put i x).on c = (F.put i x).goes (IntKind.wrap .i64 (F.pc + 1)) (-1) c := fun i x c => by unfold Fm.on Fm.put; split <;> rfl
 have key : ∀ {W c : Int}, qKk op → ¬ (36 ≤ op ∧ op ≤ 40) → ¬ endsP nr op a n → (¬ dsec nr cS op a b n S → rdZ W 1 ≠ 0) → Go3 nr cS op d a b n F.pc S ((F.put d W).on c) := fun {W c} hp hj he hx => by
  rw [put1]
  exact g3_put h hst d0 hp hx (hn1 hj he)
 unfold Fm.does
 refine qXm (fun o2 => ?_) fun o2 => ?_
 ·unfold Fm.reck
  refine qXm (fun _ => g3_stop h (by decide)) fun _ => key (.inl (by omega)) (by omega) (by unfold endsP; omega) fun ns => ?_
  have na : ¬ S a := fun k => ns (.inl ⟨o2, .inl k⟩)
  refine both_k (ga na) ?_
  by_cases e : op ≤ 23
  ·rw [if_pos e]; exact gb fun k => ns (.inl ⟨o2, .inr ⟨e, k⟩⟩)
  ·rw [if_neg e]; exact ga na
 refine qXm (fun o => key (.inl (by omega)) (by omega) (by unfold endsP; omega) fun ns => both_k (ga fun k => ns (.inr (.inl ⟨.inl o, k⟩))) (by decide)) fun _ => ?_
 refine qXm (fun o => key (.inl (by omega)) (by omega) (by unfold endsP; omega) fun ns => both_k (ga fun k => ns (.inr (.inl ⟨.inr o, k⟩))) (by decide)) fun _ => ?_
 refine qXm (fun o => key (.inl (by omega)) (by omega) (by unfold endsP; omega) fun ns => by rw [(may_rd _ 1).2]; decide) fun _ => ?_
 refine qXm (fun o4 => ?_) fun _ => ?_
 ·have hX0 : a = 0 → IntKind.wrap .i32 (F.x a + n) = n := fun e => by subst e; rw [h.z.1, Int.zero_add]; exact hw
  generalize IntKind.wrap .i32 (F.x a + n) = X at hX0
  unfold Fm.mem
  refine qXm (fun _ => g3_stop h (by decide)) fun hb => ?_
  have hne : ¬ endsP nr op a n := fun e => by
   rcases e with e | e | ⟨_, e1, e2⟩
   ·omega
   ·omega
   ·have := hX0 e1; omega
  unfold Fm.memo
  refine qXm (fun o5 => ?_) fun o5 => g3_put h hst d0 (.inl (by omega)) (fun ns => ?_) (hn1 (by omega) hne)
  ·have hs : Kq nr cS S { F with rm := updZ F.rm X (mayZ (F.x d) (F.k d)) } := by
    refine ⟨fun j j0 j1 hj => ?_, h.rg, h.z⟩
    show rdZ (rdZ (updZ F.rm X (mayZ (F.x d) (F.k d))) j) 1 ≠ 0
    rw [qQp]
    by_cases g : j.toNat = X.toNat
    ·rw [if_pos g, (may_rd _ _).2]
     have jX : j = X := by omega
     subst jX
     refine gd fun k => ?_
     by_cases e : a = 0
     ·have := hX0 e; subst this
      exact w (.inr (.inr (.inl ⟨o5, e, k, by omega, hj⟩)))
     ·exact w (.inr (.inr (.inr (.inl ⟨o5, e, .inr ⟨k, j, j0, j1, hj⟩⟩))))
    ·rw [if_neg g]; exact h.rm j j0 j1 hj
   exact g3_goes (d := d) (b := b) (a := a) (n := n) (op := op) hs hst (t := IntKind.wrap .i64 (F.pc + 1)) (addr := X) (by unfold qKk; omega) (hn1 (by omega) hne)
  ·have o34 : op = 34 := by omega
   rw [(may_rd _ _).2]
   refine h.rm X (by omega) (by omega) (Classical.byContradiction fun hs => ns ?_)
   by_cases e : a = 0
   ·have := hX0 e; subst this
    exact .inr (.inr (.inl ⟨o34, e, by omega, hs⟩))
   ·exact .inr (.inr (.inr ⟨o34, e, X, by omega, by omega, hs⟩))
 have br : (op = 36 ∨ op = 37 ∨ op = 38) → ∀ (p : Prop) [Decidable p], Go3 nr cS op d a b n F.pc S (F.branch n p) := fun ho p _ => by
  unfold Fm.branch Fm.on
  have np : ¬ qKk op := by unfold qKk; omega
  have ne : ¬ endsP nr op a n := by unfold endsP; omega
  exact qXm (fun _ => g3_goes h hst np ⟨ne, .inl ⟨ho, .inl rfl⟩⟩) fun _ => g3_goes h hst np ⟨ne, .inl ⟨ho, .inr hpc⟩⟩
 refine qXm (fun o => br (.inl o) _) fun _ => ?_
 refine qXm (fun o => br (.inr (.inl o)) _) fun _ => ?_
 refine qXm (fun o => br (.inr (.inr o)) _) fun _ => ?_
 refine qXm (fun o => g3_put h hst d0 (.inr o) (fun _ => by rw [(may_rd _ 1).2]; decide) ⟨by unfold endsP; omega, .inr (.inl ⟨.inr o, rfl⟩)⟩) fun _ => ?_
 refine qXm (fun o => g3_goes h hst (by unfold qKk; omega) ⟨by unfold endsP; omega, .inr (.inl ⟨.inl o, rfl⟩)⟩) fun _ => ?_
 refine qXm (fun o => absurd (.inr (.inr (.inr (.inr (.inr o))))) w) fun _ => ?_
 refine qXm (fun o => .inl ⟨kq_same h rfl rfl, by show (1 : Int) ≠ 0; decide, rfl⟩) fun _ => ?_
 unfold Fm.on
 exact g3_goes h hst (by unfold qKk; omega) (hn1 (by omega) (by unfold endsP; omega))
end
section
variable {w nr cS : Int} {nc : Nat} {L : Lv}
theorem kq_on1 (hc : nc ≤ 16384) (ho : FlowOk w nc nr cS L) {F : Fm} (q : Kq nr cS (secAt nc L F.pc) F) (hr : 0 ≤ F.pc → F.pc < nc → L.re F.pc) (hs : F.st = 0) :
  (Fm.on1 w nc nr (F, 0)).2 = 0 ∧ Kq nr cS (secAt nc L (Fm.on1 w nc nr (F, 0)).1.pc) (Fm.on1 w nc nr (F, 0)).1 ∧ (0 ≤ (Fm.on1 w nc nr (F, 0)).1.pc → (Fm.on1 w nc nr (F, 0)).1.pc < nc → L.re (Fm.on1 w nc nr (F, 0)).1.pc) := by
 by_cases g : F.pc < 0 ∨ (nc : Int) ≤ F.pc
 ·rw [on1_fetch hs g]
  exact ⟨rfl, kq_same q rfl rfl, hr⟩
 have g0 : 0 ≤ F.pc := by omega
 have g1 : F.pc < nc := by omega
 by_cases e5 : decZ (IntKind.wrap .u32 (rdZ w F.pc)) 5 = 0
 ·have hop := dec_op0 e5
  obtain ⟨⟨q1, q2⟩, ⟨q3, q4⟩, ⟨q5, q6⟩, ⟨q7, q8⟩, q9, q10⟩ := dec_in (rdZ w F.pc) e5
  have hre := hr g0 g1
  have hk : Kq nr cS (L.se F.pc) F := kq_sub q fun r _ _ k => k.elim (fun k => absurd ⟨g0, g1⟩ k) id
  have hf := ho.fine F.pc g0 g1 hre e5
  have t := kq_told hk q3 q4 q5 q6 q7 q8 hf
  have hd := kq_does hk hs q1 q2 q3 q4 q5 q6 q7 q8 q9 q10 g0 (by omega) hf
  rw [on1_does hs g0 g1 hop (fun e => (fto_told.1 e) t)]
  refine ⟨rfl, ?_⟩
  rcases hd with ⟨h1, _, h3⟩ | ⟨h1, _, h3⟩
  ·simp only [h3]
   exact ⟨kq_sub h1 fun r _ _ k => .inr k, fun _ _ => hre⟩
  ·have hn := fun k0 k1 => ho.next F.pc _ g0 g1 hre e5 h3 k0 k1
   refine ⟨kq_sub h1 fun r r0 r1 k => ?_, fun k0 k1 => (hn k0 k1).1⟩
   by_cases kk : 0 ≤ (F.does nr (decZ (IntKind.wrap .u32 (rdZ w F.pc)) 0) (decZ (IntKind.wrap .u32 (rdZ w F.pc)) 1) (decZ (IntKind.wrap .u32 (rdZ w F.pc)) 2) (decZ (IntKind.wrap .u32 (rdZ w F.pc)) 3) (decZ (IntKind.wrap .u32 (rdZ w F.pc)) 4)).pc ∧ (F.does nr (decZ (IntKind.wrap .u32 (rdZ w F.pc)) 0) (decZ (IntKind.wrap .u32 (rdZ w F.pc)) 1) (decZ (IntKind.wrap .u32 (rdZ w F.pc)) 2) (decZ (IntKind.wrap .u32 (rdZ w F.pc)) 3) (decZ (IntKind.wrap .u32 (rdZ w F.pc)) 4)).pc < nc
   ·exact .inr ((hn kk.1 kk.2).2 r r0 r1 k)
   ·exact .inl kk
 ·rw [on1_form hs g0 g1 (dec_no e5)]
  exact ⟨rfl, kq_same q rfl rfl, hr⟩
theorem kq_tell (hc : nc ≤ 16384) (ho : FlowOk w nc nr cS L) {F : Fm} (q : Kq nr cS (secAt nc L F.pc) F) (hr : 0 ≤ F.pc → F.pc < nc → L.re F.pc) : ∀ k : Nat, (Fm.tell w nc nr F k).2 = 0 ∧ Kq nr cS (secAt nc L (Fm.tell w nc nr F k).1.pc) (Fm.tell w nc nr F k).1 ∧ (0 ≤ (Fm.tell w nc nr F k).1.pc → (Fm.tell w nc nr F k).1.pc < nc → L.re (Fm.tell w nc nr F k).1.pc)
 | 0 => ⟨rfl, q, hr⟩
 | k + 1 => by
  obtain ⟨h1, h2, h3⟩ := kq_tell hc ho q hr k
  by_cases s : (Fm.tell w nc nr F k).1.st = 0
  ·have hE : Fm.tell w nc nr F (k + 1) = Fm.on1 w nc nr (Fm.tell w nc nr F k) := rfl
   rw [hE, show Fm.tell w nc nr F k = ((Fm.tell w nc nr F k).1, 0) by rw [← h1]]
   exact kq_on1 hc ho h2 h3 s
  ·have := tell_stay (w := w) (nc := nc) (nr := nr) (m0 := F) (i := k) (.inr s) 1
   rw [this]; exact ⟨h1, h2, h3⟩
theorem fore_taken {nc fuel cD T : Int} (h0 : 0 ≤ nc) (hc : nc ≤ 16384) (ho : FlowOk w nc nr cS L) (hT : T = ftlZ w nc (qQq nr (qQq fuel (qQq cD (qQq cS 0))))) : rdZ T 4 = 0 := by
 have hn : ((nc.toNat : Nat) : Int) = nc := by omega
 have ho' : FlowOk w (nc.toNat : Nat) nr cS L := by rw [hn]; exact ho
 have q : Kq nr cS (secAt (nc.toNat : Nat) L 0) ⟨frgZ 32, frmZ cD cS nr, 0, 0, 0, 0⟩ := by
  have hr : ∀ i : Int, 0 ≤ i → i < 32 → rdZ (frgZ 32) i = mayZ 0 1 := fun i i0 i1 => by
   have h := frg_at 32 i.toNat (by omega)
   rwa [show ((i.toNat : Nat) : Int) = i by omega] at h
  refine ⟨fun j j0 j1 hj => ?_, fun r r0 r1 _ => ?_, ?_, ?_⟩
  ·have h := frm_at cD cS nr.toNat j.toNat (by omega)
   rw [show ((j.toNat : Nat) : Int) = j by omega] at h
   have h : rdZ (frmZ cD cS nr) j = _ := h
   simp only [h]
   rw [if_neg (fun g => g hj), (may_rd _ 1).2]; decide
  ·unfold Fm.k; simp only [hr r r0 r1, (may_rd 0 1).2]; decide
  ·unfold Fm.x; simp only [hr 0 (by decide) (by decide), (may_rd 0 1).1]; decide
  ·unfold Fm.k; simp only [hr 0 (by decide) (by decide), (may_rd 0 1).2]; decide
 obtain ⟨h1, _, _⟩ := kq_tell (nc := nc.toNat) (F := ⟨frgZ 32, frmZ cD cS nr, 0, 0, 0, 0⟩) (by omega) ho' q (fun _ h1 => ho'.start h1) fuel.toNat
 rw [hn] at h1
 obtain ⟨_, _, _, _, r4⟩ := ftl_rd hT (m := (Fm.tell w nc nr ⟨frgZ 32, frmZ cD cS nr, 0, 0, 0, 0⟩ fuel.toNat).1) (e := (Fm.tell w nc nr ⟨frgZ 32, frmZ cD cS nr, 0, 0, 0, 0⟩ fuel.toNat).2) rfl
 rw [r4]; exact h1
end
end Go.Eng
end
