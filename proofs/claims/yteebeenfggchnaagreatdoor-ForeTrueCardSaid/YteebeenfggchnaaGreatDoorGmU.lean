/-
  Parts of the engine, a program's symbolic run, proved sound; and of plain laws.
-/
import Derived.Test.YteebeenfggchnaaGreatDoorGmS
set_option linter.unusedVariables false
set_option linter.unusedSimpArgs false

/-!  -/
noncomputable section
namespace Go.Eng
def Gw (m a : Mac) : Prop := (a.mq = m.mq ∧ a.nm = m.nm) ∨ ∃ r, a.mq = updZ m.mq m.nm r ∧ a.nm = m.nm + 1
theorem qJg {c : Prop} [Decidable c] {m a b : Mac} (h1 : c → Gw m a) (h2 : ¬ c → Gw m b) : Gw m (if c then a else b) := by
 by_cases h : c
 ·rw [if_pos h]; exact h1 h
 ·rw [if_neg h]; exact h2 h
theorem gw_goes {m m' : Mac} (h1 : m'.mq = m.mq) (h2 : m'.nm = m.nm) (next addr cost : Int) : Gw m (m'.goes next addr cost) :=
 .inr ⟨qQq m'.pc (qQq addr (qQq cost 0)), by show updZ m'.mq m'.nm _ = _; rw [h1, h2], by show m'.nm + 1 = _; rw [h2]⟩
theorem gw_put (m : Mac) (i x next addr cost : Int) : Gw m ((m.put i x).goes next addr cost) := by
 obtain ⟨_, _, _, h4, h5⟩ := put5 m i x
 exact gw_goes h5 h4 _ _ _
theorem gw_on (m : Mac) (i x cost : Int) : Gw m ((m.put i x).on cost) := gw_put m i x _ _ _
theorem gw_on0 (m : Mac) (cost : Int) : Gw m (m.on cost) := gw_goes rfl rfl _ _ _
theorem gw_st (m : Mac) (s : Int) : Gw m { m with st := s } := .inl ⟨rfl, rfl⟩
theorem gw_does (m : Mac) (nr op d a b n : Int) : Gw m (m.does nr op d a b n) := by
 unfold Mac.does
 refine qJg (fun _ => qJg (fun _ => gw_st m 5) fun _ => gw_on m _ _ _) fun _ => ?_
 refine qJg (fun _ => gw_on m _ _ _) fun _ => ?_
 refine qJg (fun _ => gw_on m _ _ _) fun _ => ?_
 refine qJg (fun _ => gw_on m _ _ _) fun _ => ?_
 refine qJg (fun _ => ?_) fun _ => ?_
 ·unfold Mac.mem Mac.memA
  have key : ∀ A cost, Gw m (m.memo op d A cost) := fun A cost => by
   unfold Mac.memo
   exact qJg (fun _ => gw_goes rfl rfl _ _ _) fun _ => gw_put m _ _ _ _ _
  exact qJg (fun _ => gw_st m 4) fun _ => qJg (fun _ => key _ _) fun _ => key _ _
 have hb : ∀ (p : Prop) [Decidable p], Gw m (m.branch n p) := fun p _ => qJg (fun _ => gw_goes rfl rfl _ _ _) fun _ => gw_on0 m _
 refine qJg (fun _ => hb _) fun _ => ?_
 refine qJg (fun _ => hb _) fun _ => ?_
 refine qJg (fun _ => hb _) fun _ => ?_
 refine qJg (fun _ => gw_put m _ _ _ _ _) fun _ => ?_
 refine qJg (fun _ => gw_goes rfl rfl _ _ _) fun _ => ?_
 refine qJg (fun _ => gw_goes rfl rfl _ _ _) fun _ => ?_
 refine qJg (fun _ => ?_) fun _ => gw_on0 m _
 rcases gw_goes (m := m) (m' := m) rfl rfl m.pc (-1) (opCo op) with h | h
 ·exact .inl h
 ·exact .inr h
theorem gw_step (m : Mac) (cq nc nr : Int) : Gw m (m.step cq nc nr) := by
 unfold Mac.step
 exact qJg (fun _ => .inl ⟨rfl, rfl⟩) fun _ => qJg (fun _ => gw_st m 2) fun _ => qJg (fun _ => gw_st m 3) fun _ => gw_does m _ _ _ _ _ _
theorem runs_mk {cq nc nr : Int} {m : Mac} (h : m.ok) (k : Nat) : ∀ d : Nat, (Mac.runs cq nc nr k m).1.nm ≤ (Mac.runs cq nc nr (k + d) m).1.nm ∧ ∀ (i : Nat) (f : Int), (i : Int) < (Mac.runs cq nc nr k m).1.nm → mk (Mac.runs cq nc nr (k + d) m).1.mq i f = mk (Mac.runs cq nc nr k m).1.mq i f
 | 0 => ⟨Int.le_refl _, fun _ _ _ => rfl⟩
 | d + 1 => by
  obtain ⟨h1, h2⟩ := runs_mk (cq := cq) (nc := nc) (nr := nr) h k d
  rw [← Nat.add_assoc, qKg]
  split
  ·have ok := (runs_ok h cq nc nr (k + d)).1
   have n0 : 0 ≤ (Mac.runs cq nc nr (k + d) m).1.nm := ok.2.2.2
   rcases gw_step (Mac.runs cq nc nr (k + d) m).1 cq nc nr with ⟨e1, e2⟩ | ⟨r, e1, e2⟩
   ·exact ⟨by show _ ≤ (Mac.step _ _ _ _).nm; omega, fun i f hi => by show mk (Mac.step _ _ _ _).mq _ _ = _; rw [e1]; exact h2 i f hi⟩
   ·refine ⟨by show _ ≤ (Mac.step _ _ _ _).nm; omega, fun i f hi => ?_⟩
    show mk (Mac.step _ _ _ _).mq _ _ = _
    rw [e1, show (Mac.runs cq nc nr (k + d) m).1.nm = (((Mac.runs cq nc nr (k + d) m).1.nm.toNat : Nat) : Int) by omega, mk_upd, if_neg (by omega)]
    exact h2 i f hi
  ·exact ⟨h1, h2⟩
section
variable {w nc nr fuel cD cS L T R : Int}
theorem fore_start (hL : ∀ j : Int, 0 ≤ j → j < nr → rdZ cS j = 0 → IntKind.wrap .i32 (rdZ L j) = IntKind.wrap .i32 (rdZ cD j)) : Tq nr ⟨frgZ 32, frmZ cD cS nr, 0, 0, 0, 0⟩ (macM (nuP L)) := by
 rw [macM_nu]
 refine ⟨fun i i0 i1 _ => ?_, fun j j0 j1 hk => ?_, rfl, rfl, rfl, rfl⟩
 ·have h := frg_at 32 i.toNat (by omega)
  rw [show ((i.toNat : Nat) : Int) = i by omega] at h
  unfold Mac.reg Fm.x
  simp only [h, (may_rd 0 1).1, zero_rd i i0]
 ·have h := frm_at cD cS nr.toNat j.toNat (by omega)
  rw [show ((j.toNat : Nat) : Int) = j by omega] at h
  have h : rdZ (frmZ cD cS nr) j = _ := h
  simp only [h] at hk ⊢
  by_cases e : rdZ cS j = 0
  ·rw [if_neg (fun g => g e), (may_rd _ _).1, qKd]; exact hL j j0 j1 e
  ·rw [if_pos e, (may_rd _ _).2] at hk; exact absurd rfl hk
theorem fore_true (hn : 0 ≤ nc) (hf : fuel ≤ 900000) (hT : T = ftlZ w nc (qQq nr (qQq fuel (qQq cD (qQq cS 0))))) (hR : R = runP (decW w nc) nc (qQq nr (qQq fuel (qQq (nuP L) 0))))
  (hL : ∀ j : Int, 0 ≤ j → j < nr → rdZ cS j = 0 → IntKind.wrap .i32 (rdZ L j) = IntKind.wrap .i32 (rdZ cD j)) :
  (rdZ T 4 = 0 ∧ mkN R = rdZ T 1 ∧ rdZ R 5 = rdZ T 0 ∧ rdZ R 3 = rdZ T 2 ∧ rdZ R 2 = rdZ T 3) ∨
  (rdZ T 4 = 12 ∧ rdZ T 2 = 0 ∧ rdZ T 1 ≤ mkN R ∧ qKf (rdZ R 5) (rdZ T 0) (rdZ T 1) = 1) := by
 have z := fore_start hL
 have hd : decW w nc = decC w nc.toNat := rfl
 have hc : ((nc.toNat : Nat) : Int) = nc := by omega
 rw [hd, runP_code] at hR
 have mok := macM_ok (nuP L)
 have hz := fun k => tq_runs (w := w) (nc := nc.toNat) z k
 rw [hc] at hz
 have hr := runs_ok mok (decC w nc.toNat) nc nr fuel.toNat
 have hm0 : (macM (nuP L)).nm = 0 := by rw [macM_nu]
 have hcount : ∀ k : Nat, (Mac.runs (decC w nc.toNat) nc nr k (macM (nuP L))).2 ≤ k := by
  intro k
  induction k with
  | zero => exact Nat.le_refl _
  | succ k ih => rw [qKg]; split <;> (first | (show _ + 1 ≤ _; omega) | omega)
 have hnm : (Mac.runs (decC w nc.toNat) nc nr fuel.toNat (macM (nuP L))).1.nm ≤ 999999 := by
  have := hcount fuel.toNat; have := hr.2.2.1; omega
 have hN := mkN_code (m := (Mac.runs (decC w nc.toNat) nc nr fuel.toNat (macM (nuP L))).1) hr.1 hnm ((Mac.runs (decC w nc.toNat) nc nr fuel.toNat (macM (nuP L))).2 : Int)
 obtain ⟨q0, q1, q2, q3, q4, q5, q6, q7⟩ := codeM_rd (Mac.runs (decC w nc.toNat) nc nr fuel.toNat (macM (nuP L))).1 ((Mac.runs (decC w nc.toNat) nc nr fuel.toNat (macM (nuP L))).2 : Int)
 rw [← hR] at hN q2 q3 q5
 obtain ⟨r0, r1, r2, r3, r4⟩ := ftl_rd hT (m := (Fm.tell w nc nr ⟨frgZ 32, frmZ cD cS nr, 0, 0, 0, 0⟩ fuel.toNat).1) (e := (Fm.tell w nc nr ⟨frgZ 32, frmZ cD cS nr, 0, 0, 0, 0⟩ fuel.toNat).2) rfl
 by_cases e : (Fm.tell w nc nr ⟨frgZ 32, frmZ cD cS nr, 0, 0, 0, 0⟩ fuel.toNat).2 = 0
 ·have t := hz fuel.toNat e
  exact .inl ⟨r4.trans e, hN.trans (t.nm.trans r1.symm), q5.trans (t.mq.trans r0.symm), q3.trans (t.st.trans r2.symm), q2.trans (t.pc.trans r3.symm)⟩
 ·have hw := tell_why (w := w) (nr := nr) (nc := nc.toNat) (F := ⟨frgZ 32, frmZ cD cS nr, 0, 0, 0, 0⟩) fuel.toNat
  rw [hc] at hw
  obtain ⟨h1, h2, j, h3, h4, h5⟩ := hw e
  have t := hz j h4
  obtain ⟨g1, g2⟩ := runs_mk (cq := decC w nc.toNat) (nc := nc) (nr := nr) mok j (fuel.toNat - j)
  rw [show j + (fuel.toNat - j) = fuel.toNat by omega] at g1 g2
  rw [t.nm, h5] at g1
  refine .inr ⟨r4.trans h1, r2.trans h2, by rw [r1, hN]; exact g1, ?_⟩
  have hs : ∀ i : Nat, (i : Int) < rdZ T 1 → ∀ f, mk (rdZ R 5) i f = mk (rdZ T 0) i f := fun i hi f => by
   have := g2 i f (by rw [t.nm, h5, ← r1]; exact hi)
   rw [q5, this, t.mq, h5, r0]
  unfold qKf
  rw [if_pos fun i hi => ⟨hs i hi 0, hs i hi 1, hs i hi 2⟩]
end
end Go.Eng
end
