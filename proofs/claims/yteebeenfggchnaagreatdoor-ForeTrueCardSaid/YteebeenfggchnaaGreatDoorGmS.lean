/-
  Parts of the engine, a program's symbolic run, proved sound; and of plain laws.
-/
import Derived.Test.YteebeenfggchnaaGreatDoorGmR
import Derived.Test.YteebeenfggchnaaGreatDoorGmE
set_option linter.unusedVariables false
set_option linter.unusedSimpArgs false

/-!  -/
noncomputable section
namespace Go.Eng
structure Tq (nr : Int) (F : Fm) (M : Mac) : Prop where
 rg : ∀ i : Int, 0 ≤ i → i < 32 → F.k i ≠ 0 → M.reg i = F.x i
 rm : ∀ a : Int, 0 ≤ a → a < nr → rdZ (rdZ F.rm a) 1 ≠ 0 → IntKind.wrap .i32 (rdZ M.rm a) = IntKind.wrap .i32 (rdZ (rdZ F.rm a) 0)
 pc : M.pc = F.pc
 st : M.st = F.st
 mq : M.mq = F.mq
 nm : M.nm = F.nm
section
variable {nr : Int} {F : Fm} {M : Mac}
theorem qXr {p q : Prop} [Decidable p] [Decidable q] {A B : Fm} {C D : Mac} (h : p ↔ q) (h1 : p → Tq nr A C) (h2 : ¬ p → Tq nr B D) : Tq nr (if p then A else B) (if q then C else D) := by
 by_cases e : p
 ·rw [if_pos e, if_pos (h.1 e)]; exact h1 e
 ·rw [if_neg e, if_neg (fun g => e (h.2 g))]; exact h2 e
theorem tq_put (z : Tq nr F M) {i w x : Int} (i0 : 0 ≤ i) (h : rdZ w 1 ≠ 0 → IntKind.wrap .i32 x = IntKind.wrap .i32 (rdZ w 0)) : Tq nr (F.put i w) (M.put i x) := by
 unfold Fm.put Mac.put
 by_cases e : i ≠ 0
 ·rw [if_pos e, if_pos e]
  refine ⟨fun j j0 j1 hk => ?_, z.rm, z.pc, z.st, z.mq, z.nm⟩
  unfold Fm.k at hk
  unfold Mac.reg Fm.x
  simp only [qZg] at hk ⊢
  by_cases g : j.toNat = i.toNat
  ·rw [if_pos g] at hk ⊢
   rw [if_pos g]; exact h hk
  ·rw [if_neg g] at hk ⊢
   rw [if_neg g]; exact z.rg j j0 j1 hk
 ·rw [if_neg e, if_neg e]; exact z
theorem tq_goes (z : Tq nr F M) (next addr cost : Int) : Tq nr (F.goes next addr cost) (M.goes next addr cost) := by
 refine ⟨z.rg, z.rm, rfl, z.st, ?_, ?_⟩
 ·show updZ M.mq M.nm (qQq M.pc _) = updZ F.mq F.nm (qQq F.pc _)
  rw [z.mq, z.nm, z.pc]
 ·show M.nm + 1 = F.nm + 1
  rw [z.nm]
theorem tq_on (z : Tq nr F M) (cost : Int) : Tq nr (F.on cost) (M.on cost) := by
 unfold Fm.on Mac.on
 rw [z.pc]; exact tq_goes z _ _ _
theorem tq_st (z : Tq nr F M) (s : Int) : Tq nr { F with st := s } { M with st := s } := ⟨z.rg, z.rm, z.pc, rfl, z.mq, z.nm⟩
theorem tq_branch (z : Tq nr F M) (n : Int) {p q : Prop} [Decidable p] [Decidable q] (h : p ↔ q) : Tq nr (F.branch n p) (M.branch n q) := qXr h (fun _ => tq_goes z _ _ _) fun _ => tq_on z _
theorem may_put (z : Tq nr F M) {i x y k : Int} (i0 : 0 ≤ i) (h : k ≠ 0 → IntKind.wrap .i32 x = IntKind.wrap .i32 y) : Tq nr (F.put i (mayZ y k)) (M.put i x) := by
 obtain ⟨r0, r1⟩ := may_rd y k
 exact tq_put z i0 (by rw [r0, r1]; exact h)
theorem both_put (z : Tq nr F M) {i x y p q : Int} (i0 : 0 ≤ i) (h : p ≠ 0 → q ≠ 0 → IntKind.wrap .i32 x = IntKind.wrap .i32 y) : Tq nr (F.put i (both p q y)) (M.put i x) := by
 rw [both_may]
 by_cases e : p ≠ 0 ∧ q ≠ 0
 ·rw [if_pos e]; exact may_put z i0 fun _ => h e.1 e.2
 ·rw [if_neg e]; exact may_put z i0 fun g => absurd rfl g
theorem tq_does (z : Tq nr F M) {op d a b n : Int} (o1 : 1 ≤ op) (o43 : op ≤ 43) (d0 : 0 ≤ d) (d1 : d < 32) (a0 : 0 ≤ a) (a1 : a < 32) (b0 : 0 ≤ b) (b1 : b < 32) (n0 : -32768 ≤ n) (n1 : n ≤ 65535) (t : Fm.told F op d a b) : Tq nr (F.does nr op d a b n) (M.does nr op d a b n) := by
 have hw : IntKind.wrap .i32 n = n := wi32 (by omega) (by omega)
 have ga := z.rg a a0 a1
 have gb := z.rg b b0 b1
 have gd := z.rg d d0 d1
 have tab : op = 22 ∨ op = 23 → F.k a ≠ 0 ∧ F.k b ≠ 0 := fun o => by unfold Fm.told at t; rwa [if_pos o] at t
 have tda : op = 36 ∨ op = 37 ∨ op = 38 → F.k d ≠ 0 ∧ F.k a ≠ 0 := fun o => by unfold Fm.told at t; rwa [if_neg (by omega), if_pos o] at t
 have ta : op = 34 ∨ op = 35 ∨ op = 41 → F.k a ≠ 0 := fun o => by
  unfold Fm.told at t; rw [if_neg (by omega), if_neg (by omega)] at t
  rcases t with t | t
  ·exact t
  ·exact absurd (show lkP op by unfold lkP; omega) t
 unfold Fm.does Mac.does
 rw [z.pc]
 refine qXr Iff.rfl (fun o2 => ?_) fun _ => ?_
 ·unfold Fm.reck
  have oc : aluC op (F.x a) = aluC op (M.reg a) := by
   by_cases e : op = 22 ∨ op = 23
   ·rw [ga (tab e).1]
   ·unfold aluC; rw [if_neg e, if_neg e]
  by_cases h : op ≤ 23
  ·rw [if_pos h]
   refine qXr (p := (op = 22 ∨ op = 23) ∧ F.x b = 0) (q := aluK op (M.reg a) (M.reg b) = 0) ?_ (fun _ => ⟨z.rg, z.rm, rfl, rfl, z.mq, z.nm⟩) fun _ => ?_
   ·rw [aluK_iff o1 o2]
    constructor
    ·rintro ⟨e, g⟩; exact ⟨e, by rw [gb (tab e).2]; exact g⟩
    ·rintro ⟨e, g⟩; exact ⟨e, by rw [← gb (tab e).2]; exact g⟩
   ·rw [oc]
    exact tq_on (both_put z d0 fun p q => by rw [ga p, gb q]) _
  ·rw [if_neg h, if_neg (by omega), if_neg (by rw [aluK_iff o1 o2]; omega), oc]
   exact tq_on (both_put z d0 fun p q => by rw [ga p, aluV_b (b := M.reg b) (c := F.x a) (by omega) o2]) _
 refine qXr Iff.rfl (fun _ => tq_on (both_put z d0 fun p _ => by rw [ga p, hw]) _) fun _ => ?_
 refine qXr Iff.rfl (fun _ => tq_on (both_put z d0 fun p _ => by rw [ga p]) _) fun _ => ?_
 refine qXr Iff.rfl (fun _ => tq_on (may_put z d0 fun _ => rfl) _) fun _ => ?_
 refine qXr Iff.rfl (fun o => ?_) fun _ => ?_
 ·have oc : opCo op = 2 := by rcases o with rfl | rfl <;> decide
  unfold Mac.mem
  rw [ga (ta (by omega)), hw]
  generalize IntKind.wrap .i32 (F.x a + n) = A
  unfold Fm.mem Mac.memA
  by_cases hA : A < 0 ∨ nr ≤ A
  ·rw [if_pos hA, if_pos hA]; exact tq_st z 4
  rw [if_neg hA, if_neg hA]
  have key : ∀ cost, Tq nr (F.memo op d A cost) (M.memo op d A cost) := fun cost => by
   unfold Fm.memo Mac.memo
   rw [z.pc]
   refine qXr Iff.rfl (fun _ => tq_goes ?_ _ _ _) fun _ => tq_goes (may_put z d0 fun h => ?_) _ _ _
   ·refine ⟨z.rg, fun j j0 j1 hk => ?_, rfl, z.st, z.mq, z.nm⟩
    simp only [qZg] at hk ⊢
    by_cases g : j.toNat = A.toNat
    ·rw [if_pos g] at hk ⊢
     rw [if_pos g]
     obtain ⟨r0, r1⟩ := may_rd (F.x d) (F.k d)
     rw [r1] at hk
     rw [r0, gd hk]
    ·rw [if_neg g] at hk ⊢
     rw [if_neg g]; exact z.rm j j0 j1 hk
   ·rw [qKd, qKd]; exact z.rm A (by omega) (by omega) h
  rw [oc]
  by_cases hB : 1024 ≤ A
  ·rw [if_pos hB, if_pos hB]; exact key _
  ·rw [if_neg hB, if_neg hB]; exact key _
 refine qXr Iff.rfl (fun o => tq_branch z n (by rw [gd (tda (by omega)).1, ga (tda (by omega)).2])) fun _ => ?_
 refine qXr Iff.rfl (fun o => tq_branch z n (by rw [gd (tda (by omega)).1, ga (tda (by omega)).2])) fun _ => ?_
 refine qXr Iff.rfl (fun o => tq_branch z n (by rw [gd (tda (by omega)).1, ga (tda (by omega)).2])) fun _ => ?_
 refine qXr Iff.rfl (fun o => by rw [show opCo op = 3 by subst o; decide]; exact tq_goes (may_put z d0 fun _ => rfl) _ _ _) fun _ => ?_
 refine qXr Iff.rfl (fun o => by rw [show opCo op = 3 by subst o; decide]; exact tq_goes z _ _ _) fun _ => ?_
 refine qXr Iff.rfl (fun o => by rw [show opCo op = 3 by subst o; decide, ga (ta (by omega))]; exact tq_goes z _ _ _) fun _ => ?_
 refine qXr Iff.rfl (fun o => by rw [show opCo op = 1 by subst o; decide]; exact tq_st (tq_goes z _ _ _) 1) fun _ => ?_
 rw [show opCo op = 1 by rw [show op = 42 by omega]; decide]; exact tq_on z _
end
section
variable {w nr : Int} {nc : Nat}
theorem tq_on1 {F F' : Fm} {M : Mac} (z : Tq nr F M) (hs : F.st = 0) (h : Fm.on1 w nc nr (F, 0) = (F', 0)) : Tq nr F' (M.step (decC w nc) nc nr) := by
 obtain ⟨Mrg, Mrm, Mpc, Mst, Mco, Mmq, Mnm⟩ := M
 have hpc : Mpc = F.pc := z.pc
 have hst : Mst = 0 := z.st.trans hs
 subst hpc
 by_cases g : F.pc < 0 ∨ (nc : Int) ≤ F.pc
 ·rw [on1_fetch hs g] at h
  obtain ⟨rfl, -⟩ := Prod.mk.inj h
  have : Mac.step (decC w nc) nc nr ⟨Mrg, Mrm, F.pc, Mst, Mco, Mmq, Mnm⟩ = ⟨Mrg, Mrm, F.pc, 2, Mco, Mmq, Mnm⟩ := by
   unfold Mac.step
   rw [if_neg (by simp [hst]), if_pos g]
  rw [this]
  exact ⟨z.rg, z.rm, rfl, rfl, z.mq, z.nm⟩
 have g0 : 0 ≤ F.pc := by omega
 have g1 : F.pc < nc := by omega
 have hx := x_dec (w := w) (k := nc) (pc := F.pc) (st := Mst) (rg := Mrg) (rm := Mrm) (co := Mco) (mq := Mmq) (nm := Mnm) hst g0 g1 nr
 rw [hx]
 by_cases e5 : decZ (IntKind.wrap .u32 (rdZ w F.pc)) 5 = 0
 ·rw [if_pos e5]
  have hop := dec_op0 e5
  obtain ⟨⟨q1, q2⟩, ⟨q3, q4⟩, ⟨q5, q6⟩, ⟨q7, q8⟩, q9, q10⟩ := dec_in (rdZ w F.pc) e5
  by_cases t : ftoZ (decZ (IntKind.wrap .u32 (rdZ w F.pc)) 0) (decZ (IntKind.wrap .u32 (rdZ w F.pc)) 1) (qQq (decZ (IntKind.wrap .u32 (rdZ w F.pc)) 2) (qQq (decZ (IntKind.wrap .u32 (rdZ w F.pc)) 3) (qQq F.rg 0))) = 0
  ·rw [on1_stop hs g0 g1 hop t] at h
   have := (Prod.mk.inj h).2
   exact absurd this (by decide)
  ·rw [on1_does hs g0 g1 hop t] at h
   obtain ⟨rfl, -⟩ := Prod.mk.inj h
   rw [fto_told, Classical.not_not] at t
   exact tq_does z q1 q2 q3 q4 q5 q6 q7 q8 q9 q10 t
 ·rw [if_neg e5]
  have hno := dec_no e5
  rw [on1_form hs g0 g1 hno] at h
  obtain ⟨rfl, -⟩ := Prod.mk.inj h
  exact ⟨z.rg, z.rm, rfl, rfl, z.mq, z.nm⟩
theorem tq_runs {F : Fm} {M : Mac} (z : Tq nr F M) : ∀ k : Nat, (Fm.tell w nc nr F k).2 = 0 → Tq nr (Fm.tell w nc nr F k).1 (Mac.runs (decC w nc) nc nr k M).1
 | 0, _ => z
 | k + 1, h => by
  have hE : Fm.tell w nc nr F (k + 1) = Fm.on1 w nc nr (Fm.tell w nc nr F k) := rfl
  by_cases e : (Fm.tell w nc nr F k).2 = 0
  ·have ih := tq_runs z k e
   rw [qKg]
   by_cases s : (Fm.tell w nc nr F k).1.st = 0
   ·rw [if_pos (by rw [ih.st]; exact s)]
    refine tq_on1 ih s ?_
    rw [hE] at h
    rw [hE]
    have : Fm.tell w nc nr F k = ((Fm.tell w nc nr F k).1, 0) := by rw [← e]
    rw [this] at h ⊢
    exact Prod.ext rfl h
   ·rw [if_neg (by rw [ih.st]; exact s)]
    have := qXs (w := w) (nc := nc) (nr := nr) (m0 := F) (i := k) (.inr s) 1
    rw [this]; exact ih
  ·have := qXs (w := w) (nc := nc) (nr := nr) (m0 := F) (i := k) (.inl e) 1
   rw [this] at h
   exact absurd h e
theorem tell_why {F : Fm} : ∀ k : Nat, (Fm.tell w nc nr F k).2 ≠ 0 → (Fm.tell w nc nr F k).2 = 12 ∧ (Fm.tell w nc nr F k).1.st = 0 ∧ ∃ j, j ≤ k ∧ (Fm.tell w nc nr F j).2 = 0 ∧ (Fm.tell w nc nr F j).1 = (Fm.tell w nc nr F k).1
 | 0, h => absurd rfl h
 | k + 1, h => by
  by_cases e : (Fm.tell w nc nr F k).2 = 0
  ·have hE : Fm.tell w nc nr F (k + 1) = Fm.on1 w nc nr (Fm.tell w nc nr F k) := rfl
   rw [hE] at h ⊢
   have hp : Fm.tell w nc nr F k = ((Fm.tell w nc nr F k).1, 0) := by rw [← e]
   rw [hp] at h ⊢
   generalize hF : (Fm.tell w nc nr F k).1 = G at *
   have : (Fm.on1 w nc nr (G, 0)).2 = 12 ∧ (Fm.on1 w nc nr (G, 0)).1 = G ∧ G.st = 0 := by
    unfold Fm.on1 at h ⊢
    simp only at h ⊢
    split at h
    ·exact absurd rfl h
    rename_i h1
    rw [if_neg h1]
    split at h
    ·exact absurd rfl h
    rename_i h2
    rw [if_neg h2]
    split at h
    ·exact absurd rfl h
    rename_i h3
    rw [if_neg h3]
    split at h
    ·rename_i h4
     rw [if_pos h4]
     refine ⟨rfl, rfl, ?_⟩
     simpa using h1
    ·exact absurd rfl h
   refine ⟨this.1, by rw [this.2.1]; exact this.2.2, k, by omega, e, by rw [this.2.1, hF]⟩
  ·obtain ⟨h1, h2, j, h3, h4, h5⟩ := tell_why k e
   have := qXs (w := w) (nc := nc) (nr := nr) (m0 := F) (i := k) (.inl e) 1
   rw [this]
   exact ⟨h1, h2, j, by omega, h4, h5⟩
end
end Go.Eng
end
