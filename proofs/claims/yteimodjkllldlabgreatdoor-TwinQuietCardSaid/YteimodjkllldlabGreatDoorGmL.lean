/-
  Parts of the engine, a program's symbolic run, proved sound; and of plain laws.
-/
import Derived.Test.YteimodjkllldlabGreatDoorGmI
set_option linter.unusedVariables false
set_option linter.unusedSimpArgs false

/-!  -/
noncomputable section
namespace Go.Eng
section
def twK : Int := qQq 2283798528 (qQq 2418016258 (qQq 2818572288 (qQq 2885681152 0)))
theorem twK_rd : rdZ twK 0 = 2283798528 ∧ rdZ twK 1 = 2418016258 ∧ rdZ twK 2 = 2818572288 ∧ rdZ twK 3 = 2885681152 := by
 have h := qXh [2283798528, 2418016258, 2818572288, 2885681152]
 exact ⟨h 0, h 1, h 2, h 3⟩
theorem dcA : decZ (IntKind.wrap .u32 2283798528) 0 = 34 ∧ decZ (IntKind.wrap .u32 2283798528) 1 = 1 ∧ decZ (IntKind.wrap .u32 2283798528) 2 = 0 ∧ decZ (IntKind.wrap .u32 2283798528) 3 = 0 ∧ decZ (IntKind.wrap .u32 2283798528) 4 = 0 ∧ decZ (IntKind.wrap .u32 2283798528) 5 = 0 := by decide
theorem dcB : decZ (IntKind.wrap .u32 2418016258) 0 = 36 ∧ decZ (IntKind.wrap .u32 2418016258) 1 = 1 ∧ decZ (IntKind.wrap .u32 2418016258) 2 = 0 ∧ decZ (IntKind.wrap .u32 2418016258) 3 = 0 ∧ decZ (IntKind.wrap .u32 2418016258) 4 = 2 ∧ decZ (IntKind.wrap .u32 2418016258) 5 = 0 := by decide
theorem dcC : decZ (IntKind.wrap .u32 2818572288) 0 = 42 ∧ decZ (IntKind.wrap .u32 2818572288) 1 = 0 ∧ decZ (IntKind.wrap .u32 2818572288) 2 = 0 ∧ decZ (IntKind.wrap .u32 2818572288) 3 = 0 ∧ decZ (IntKind.wrap .u32 2818572288) 4 = 0 ∧ decZ (IntKind.wrap .u32 2818572288) 5 = 0 := by decide
theorem dcD : decZ (IntKind.wrap .u32 2885681152) 0 = 43 ∧ decZ (IntKind.wrap .u32 2885681152) 1 = 0 ∧ decZ (IntKind.wrap .u32 2885681152) 2 = 0 ∧ decZ (IntKind.wrap .u32 2885681152) 3 = 0 ∧ decZ (IntKind.wrap .u32 2885681152) 4 = 0 ∧ decZ (IntKind.wrap .u32 2885681152) 5 = 0 := by decide
theorem run_to {cq nc nr : Int} {k : Nat} {m m0 m' : Mac} (h : (Mac.runs cq nc nr k m0).1 = m) (hs : m.st = 0) (hm : m.step cq nc nr = m') : (Mac.runs cq nc nr (k + 1) m0).1 = m' := by
 rw [qXu, h, if_pos hs]; exact hm
theorem zero_rd (i : Int) (h0 : 0 ≤ i) : rdZ (qKf 32) i = 0 := by
 have : ∀ (n : Nat) (i : Nat), rdZ (qKf n) i = 0 := by
  intro n
  induction n with
  | zero => intro i; exact qXx _
  | succ n ih =>
   intro i
   cases i with
   | zero => exact qQk _ _
   | succ i =>
    show rdZ (qQq 0 (qKf n)) _ = 0
    rw [qQn _ _ (by omega), show ((i + 1 : Nat) : Int) - 1 = i by omega]; exact ih i
 have := this 32 i.toNat
 rwa [show ((i.toNat : Nat) : Int) = i by omega] at this
variable {M v c : Int}
theorem tw_1 (hv : IntKind.wrap .i32 (rdZ M 0) = v) : Mac.step (decC twK 4) 4 1 ⟨qKf 32, M, 0, 0, 0, 0, 0⟩ = ⟨updZ (qKf 32) 1 v, M, 1, 0, 2, updZ 0 0 (qQq 0 (qQq 0 (qQq 2 0))), 1⟩ := by
 have hd := x_dec (w := twK) (k := 4) (pc := 0) (st := 0) (rg := qKf 32) (rm := M) (co := 0) (mq := 0) (nm := 0) rfl (by decide) (by decide) 1
 obtain ⟨a0, a1, a2, a3, a4, a5⟩ := dcA
 rw [twK_rd.1, a0, a1, a2, a3, a4, a5, if_pos rfl] at hd
 refine hd.trans ?_
 have hr : Mac.reg ⟨qKf 32, M, 0, 0, 0, 0, 0⟩ 0 = 0 := by unfold Mac.reg; rw [zero_rd 0 (by decide)]; decide
 rw [does_34, does_mem' (by decide), hr]
 have ha : IntKind.wrap .i32 (0 + 0) = 0 := by decide
 rw [ha]
 unfold Mac.memA Mac.memo
 rw [if_neg (by decide), if_neg (by decide), if_neg (by decide)]
 unfold Mac.put
 simp only [hv]
 rw [if_pos (by decide)]
 unfold Mac.goes
 simp only [oc34]
 rfl
theorem tw_rg (hv : IntKind.wrap .i32 v = v) {co mq nm : Int} : Mac.reg ⟨updZ (qKf 32) 1 v, M, 1, 0, co, mq, nm⟩ 1 = v ∧ Mac.reg ⟨updZ (qKf 32) 1 v, M, 1, 0, co, mq, nm⟩ 0 = 0 := by
 unfold Mac.reg
 simp only [qQh]
 rw [if_pos trivial, if_neg (by decide), zero_rd 0 (by decide)]
 exact ⟨hv, by decide⟩
theorem tw_2 (hv : IntKind.wrap .i32 v = v) (hc : c = if v = 0 then 3 else 1) : Mac.step (decC twK 4) 4 1 ⟨updZ (qKf 32) 1 v, M, 1, 0, 2, updZ 0 0 (qQq 0 (qQq 0 (qQq 2 0))), 1⟩ =
  ⟨updZ (qKf 32) 1 v, M, 2, 0, 2 + c, updZ (updZ 0 0 (qQq 0 (qQq 0 (qQq 2 0)))) 1 (qQq 1 (qQq (-1) (qQq c 0))), 2⟩ := by
 have hd := x_dec (w := twK) (k := 4) (pc := 1) (st := 0) (rg := updZ (qKf 32) 1 v) (rm := M) (co := 2) (mq := updZ 0 0 (qQq 0 (qQq 0 (qQq 2 0)))) (nm := 1) rfl (by decide) (by decide) 1
 obtain ⟨a0, a1, a2, a3, a4, a5⟩ := dcB
 rw [twK_rd.2.1, a0, a1, a2, a3, a4, a5, if_pos rfl] at hd
 refine hd.trans ?_
 obtain ⟨r1, r0⟩ := tw_rg (M := M) hv (co := 2) (mq := updZ 0 0 (qQq 0 (qQq 0 (qQq 2 0)))) (nm := 1)
 rw [does_36, r1, r0]
 unfold Mac.branch
 by_cases h : v = 0
 ·rw [if_pos h] at hc ⊢; subst hc; rfl
 ·rw [if_neg h] at hc ⊢; subst hc; rfl
theorem tw_3 {rg co mq : Int} : Mac.step (decC twK 4) 4 1 ⟨rg, M, 2, 0, co, mq, 2⟩ = ⟨rg, M, 3, 0, IntKind.wrap .i64 (co + 1), updZ mq 2 (qQq 2 (qQq (-1) (qQq 1 0))), 3⟩ := by
 have hd := x_dec (w := twK) (k := 4) (pc := 2) (st := 0) (rg := rg) (rm := M) (co := co) (mq := mq) (nm := 2) rfl (by decide) (by decide) 1
 obtain ⟨a0, a1, a2, a3, a4, a5⟩ := dcC
 rw [twK_rd.2.2.1, a0, a1, a2, a3, a4, a5, if_pos rfl] at hd
 refine hd.trans ?_
 rw [does_42, oc42]; rfl
theorem tw_4 {rg co mq : Int} : Mac.step (decC twK 4) 4 1 ⟨rg, M, 3, 0, co, mq, 3⟩ = ⟨rg, M, 3, 1, IntKind.wrap .i64 (co + 1), updZ mq 3 (qQq 3 (qQq (-1) (qQq 1 0))), 4⟩ := by
 have hd := x_dec (w := twK) (k := 4) (pc := 3) (st := 0) (rg := rg) (rm := M) (co := co) (mq := mq) (nm := 3) rfl (by decide) (by decide) 1
 obtain ⟨a0, a1, a2, a3, a4, a5⟩ := dcD
 rw [twK_rd.2.2.2, a0, a1, a2, a3, a4, a5, if_pos rfl] at hd
 refine hd.trans ?_
 rw [does_43, oc43]; rfl
def twQ (c : Int) : Int := updZ (updZ (updZ (updZ 0 0 (qQq 0 (qQq 0 (qQq 2 0)))) 1 (qQq 1 (qQq (-1) (qQq c 0)))) 2 (qQq 2 (qQq (-1) (qQq 1 0)))) 3 (qQq 3 (qQq (-1) (qQq 1 0)))
theorem tw_run (hv : IntKind.wrap .i32 (rdZ M 0) = v) (hc : c = if v = 0 then 3 else 1) : ∃ co, (Mac.runs (decC twK 4) 4 1 9 (macM (nuP M))).1 = ⟨updZ (qKf 32) 1 v, M, 3, 1, co, twQ c, 4⟩ := by
 have hw : IntKind.wrap .i32 v = v := by rw [← hv]; exact wi32_wrap _
 have h0 : (Mac.runs (decC twK 4) 4 1 0 (macM (nuP M))).1 = ⟨qKf 32, M, 0, 0, 0, 0, 0⟩ := macM_nu M
 have h1 := run_to h0 rfl (tw_1 hv)
 have h2 := run_to h1 rfl (tw_2 hw hc)
 have h3 := run_to h2 rfl tw_3
 have h4 := run_to h3 rfl tw_4
 have h9 := runs_stay (cq := decC twK 4) (nc := 4) (nr := 1) (m := macM (nuP M)) (i := 4) (by rw [h4]; show (1 : Int) ≠ 0; decide) 5
 have e9 := congrArg Prod.fst h9
 exact ⟨_, e9.trans h4⟩
theorem tw_R {D A : Int} (hv : IntKind.wrap .i32 (rdZ (pokZ (qQq 0 0) 1 (qQq A (qQq D 0))) 0) = v) (hc : c = if v = 0 then 3 else 1) {R : Int} (hR : R = runP (decW twK 4) 4 (qQq 1 (qQq 9 (qQq (nuP (pokZ (qQq 0 0) 1 (qQq A (qQq D 0)))) 0)))) :
  mkN R = 4 ∧ rdZ R 5 = twQ c ∧ rdZ R 1 = pokZ (qQq 0 0) 1 (qQq A (qQq D 0)) ∧ IntKind.wrap .i64 (rdZ R 3) = 1 := by
 have hd : decW twK 4 = decC twK 4 := rfl
 rw [hd, runP_code] at hR
 obtain ⟨co, h⟩ := tw_run hv hc
 have h9 : (9 : Int).toNat = 9 := rfl
 rw [h9, h] at hR
 subst hR
 obtain ⟨q0, q1, q2, q3, q4, q5, q6, q7⟩ := codeM_rd ⟨updZ (qKf 32) 1 v, pokZ (qQq 0 0) 1 (qQq A (qQq D 0)), 3, 1, co, twQ c, 4⟩ ((Mac.runs (decC twK 4) 4 1 9 (macM (nuP (pokZ (qQq 0 0) 1 (qQq A (qQq D 0)))))).2 : Int)
 refine ⟨?_, q5, q1, by rw [q3]; show IntKind.wrap .i64 1 = 1; decide⟩
 unfold mkN
 rw [q6]; show mkN0 4 = 4; decide
theorem tw_mk (c : Int) (i : Nat) (f : Int) : mk (twQ c) i f = if i = 3 then IntKind.wrap .i64 (rdZ (qQq 3 (qQq (-1) (qQq 1 0))) f) else if i = 2 then IntKind.wrap .i64 (rdZ (qQq 2 (qQq (-1) (qQq 1 0))) f) else if i = 1 then IntKind.wrap .i64 (rdZ (qQq 1 (qQq (-1) (qQq c 0))) f) else if i = 0 then IntKind.wrap .i64 (rdZ (qQq 0 (qQq 0 (qQq 2 0))) f) else mk 0 i f := by
 unfold twQ
 rw [show (3 : Int) = ((3 : Nat) : Int) from rfl, mk_upd, show (2 : Int) = ((2 : Nat) : Int) from rfl, mk_upd, show (1 : Int) = ((1 : Nat) : Int) from rfl, mk_upd, show (0 : Int) = ((0 : Nat) : Int) from rfl, mk_upd]
theorem tw_first : qZu (twQ 3) (twQ 1) (qQq 4 (qQq 4 0)) = 1 := by
 have r : rdZ (qQq 4 (qQq 4 0)) 0 = 4 ∧ rdZ (qQq 4 (qQq 4 0)) 1 = 4 := by
  have h := qXh [4, 4]
  exact ⟨h 0, h 1⟩
 have d0 : ¬ qJu (twQ 3) (twQ 1) 4 4 0 := by
  unfold qJu
  simp only [tw_mk]
  simp
 have d1 : qJu (twQ 3) (twQ 1) 4 4 1 := by
  refine .inr (.inr (.inr (.inr ?_)))
  simp only [tw_mk]
  have e1 := (mark_rd 1 (-1) 3).2.2
  have e2 := (mark_rd 1 (-1) 1).2.2
  simp [e1, e2]
  decide
 unfold qZu firstF
 rw [r.1, r.2]
 have hr : List.range (if (4 : Int) < 4 then (4 : Int) else 4).toNat = [0, 1, 2, 3] := by decide
 rw [hr]
 simp only [List.find?, d0, d1, decide_false, decide_true]
 rfl
theorem tw_pok {v : Int} (hv : IntKind.wrap .i32 v = v) : IntKind.wrap .i32 (rdZ (pokZ (qQq 0 0) 1 (qQq (qQq v 0) (qQq (qQq 5 0) 0))) 0) = v := by
 rw [pokZ_ev, show (1 : Int).toNat = 0 + 1 from rfl, pokF, show ((0 : Nat) : Int) = 0 from rfl, qQk, qQk, qQh, if_pos (by decide), hv, hv]
theorem tw_out {M : Int} (h : IntKind.wrap .i32 (rdZ M 0) = 1) : IntKind.wrap .i32 (rdZ (outZ (qQq 0 0) 1 M) 0) = 1 := by
 unfold outZ
 rw [show (1 : Int).toNat = 0 + 1 from rfl, outF, show ((0 : Nat) : Int) = 0 from rfl, qQk, qQh, if_pos rfl, show IntKind.wrap .i64 0 = 0 by decide, h]
 decide
theorem tw_chk : chk7 4 1 1 1 1 (qQq 0 0) (qQq 0 0) = 0 := by
 have ha : adP (qQq 0 0) 1 1 := fun i hi => by
  have : (i : Int) = 0 := by omega
  unfold inR
  rw [this, qQk]; decide
 unfold chk7
 rw [if_neg (by decide), if_neg (by simp [ha]), if_neg]
 rintro ⟨i, k, h1, h2, h3⟩
 omega
end
end Go.Eng
end
