/-
  Parts of the engine, a program's symbolic run, proved sound; and of plain laws.
-/
import Derived.Test.YtppkkgicidagmabGreatDoorGp4
import Derived.Test.YtppkkgicidagmabGreatDoorGp1
set_option linter.unusedVariables false
set_option linter.unusedSimpArgs false
/-!  -/
noncomputable section
namespace Go.Eng
open Go.RowKit
theorem mfold_ge {f : Int → Int} : ∀ (l : List (Int × Int × Int)) (a : Int), a ≤ l.foldl (mstU f) a ∧ ∀ e ∈ l, e.2.1 + f e.1 ≤ l.foldl (mstU f) a
 | [], _ => ⟨Int.le_refl _, fun e he => by cases he⟩
 | e :: l, a => by
  obtain ⟨h1, h2⟩ := mfold_ge (f := f) l (mstU f a e)
  rw [List.foldl_cons]
  have h3 : a ≤ mstU f a e ∧ e.2.1 + f e.1 ≤ mstU f a e := by unfold mstU; split <;> omega
  refine ⟨by omega, fun x hx => ?_⟩
  rcases List.mem_cons.1 hx with rfl | hx
  ·omega
  ·exact h2 x hx
theorem lfold_le {f : Int → Int} : ∀ (l : List (Int × Int × Int)) (a : Int), (∀ e ∈ l, 0 ≤ e.2.2) → (0 ≤ a → 0 ≤ l.foldl (lstU f) a ∧ l.foldl (lstU f) a ≤ a) ∧ ∀ e ∈ l, 0 ≤ f e.1 → 0 ≤ l.foldl (lstU f) a ∧ l.foldl (lstU f) a ≤ f e.1 + e.2.2
 | [], _, _ => ⟨fun h => ⟨h, Int.le_refl _⟩, fun e he => by cases he⟩
 | e :: l, a, hp => by
  obtain ⟨h1, h2⟩ := lfold_le (f := f) l (lstU f a e) fun x hx => hp x (List.mem_cons_of_mem _ hx)
  have he := hp e (List.mem_cons_self ..)
  rw [List.foldl_cons]
  refine ⟨fun h => ?_, fun x hx hf => ?_⟩
  ·have h3 : 0 ≤ lstU f a e ∧ lstU f a e ≤ a := by unfold lstU; split <;> omega
   have := h1 h3.1
   omega
  ·rcases List.mem_cons.1 hx with rfl | hx
   ·have h3 : 0 ≤ lstU f a x ∧ lstU f a x ≤ f x.1 + x.2.2 := by unfold lstU; split <;> omega
    have := h1 h3.1
    omega
   ·exact h2 x hx hf
def Bd (op n p : Int) (m a : Mac) : Prop := (a.st ≠ 0 ∧ a.st ≠ 1 ∧ a.co = m.co) ∨ (op = 43 ∧ a.st = 1 ∧ a.co = IntKind.wrap .i64 (m.co + 1)) ∨
 (a.st = 0 ∧ ∃ x y cost, (a.pc, x, y) ∈ edgL op n p ∧ y ≤ cost ∧ cost ≤ x ∧ a.co = IntKind.wrap .i64 (m.co + cost))
section
variable {m : Mac} {op n : Int} {p : Nat}
theorem qXh {c : Prop} [Decidable c] {a b : Mac} (h1 : c → Bd op n p m a) (h2 : ¬ c → Bd op n p m b) : Bd op n p m (if c then a else b) := by
 by_cases h : c
 ·rw [if_pos h]; exact h1 h
 ·rw [if_neg h]; exact h2 h
theorem bd_st {s : Int} (h : s ≠ 0) (h' : s ≠ 1) : Bd op n p m { m with st := s } := .inl ⟨h, h', rfl⟩
theorem bd_goes (hs : m.st = 0) {m' : Mac} {next addr cost x y : Int} (e : m'.st = m.st ∧ m'.co = m.co) (ht : (next, x, y) ∈ edgL op n p) (h1 : y ≤ cost) (h2 : cost ≤ x) : Bd op n p m (m'.goes next addr cost) := by
 refine .inr (.inr ⟨?_, x, y, cost, ht, h1, h2, ?_⟩)
 ·show m'.st = 0; rw [e.1]; exact hs
 ·show IntKind.wrap .i64 (m'.co + cost) = _; rw [e.2]
theorem edg_jump (h : op = 39 ∨ op = 40) : edgL op n p = [(n, opCo op, opCo op)] := by unfold edgL; rw [if_neg (by omega), if_pos h]
theorem edg_two (h : op = 36 ∨ op = 37 ∨ op = 38) : edgL op n p = [(n, 3, 3), ((p : Int) + 1, opCo op, opCo op)] := by unfold edgL; rw [if_neg (by omega), if_neg (by omega), if_pos h]
theorem edg_div (h : op = 22 ∨ op = 23) : edgL op n p = [((p : Int) + 1, 34, opCo op)] := by unfold edgL; rw [if_neg (by omega), if_neg (by omega), if_neg (by omega), if_pos h]
theorem edg_mem (h : op = 34 ∨ op = 35) : edgL op n p = [((p : Int) + 1, 3, opCo op)] := by unfold edgL; rw [if_neg (by omega), if_neg (by omega), if_neg (by omega), if_neg (by omega), if_pos h]
theorem edg_one (h : ¬(op = 43 ∨ op = 41) ∧ ¬(op = 39 ∨ op = 40) ∧ ¬(op = 36 ∨ op = 37 ∨ op = 38) ∧ ¬(op = 22 ∨ op = 23) ∧ ¬(op = 34 ∨ op = 35)) : edgL op n p = [((p : Int) + 1, opCo op, opCo op)] := by
 unfold edgL; rw [if_neg h.1, if_neg h.2.1, if_neg h.2.2.1, if_neg h.2.2.2.1, if_neg h.2.2.2.2]
theorem put2 (m : Mac) (i x : Int) : (m.put i x).st = m.st ∧ (m.put i x).co = m.co := ⟨(qJu m i x).2.1, (qJu m i x).2.2.1⟩
theorem bd_on (hs : m.st = 0) (hp : m.pc = p) (hN : p ≤ 1000000) {i v cost x y : Int} (ht : ((p : Int) + 1, x, y) ∈ edgL op n p) (h1 : y ≤ cost) (h2 : cost ≤ x) : Bd op n p m ((m.put i v).on cost) := by
 refine bd_goes hs (put2 m i v) ?_ h1 h2
 rw [(qJu m i v).1, hp, w64 (by omega) (by omega)]
 exact ht
theorem bd_on0 (hs : m.st = 0) (hp : m.pc = p) (hN : p ≤ 1000000) {cost x y : Int} (ht : ((p : Int) + 1, x, y) ∈ edgL op n p) (h1 : y ≤ cost) (h2 : cost ≤ x) : Bd op n p m (m.on cost) := by
 refine bd_goes hs ⟨rfl, rfl⟩ ?_ h1 h2
 rw [hp, w64 (by omega) (by omega)]
 exact ht
theorem bd_does {nr d a b : Int} (hs : m.st = 0) (hp : m.pc = p) (hN : p ≤ 1000000) (h1 : 1 ≤ op) (h43 : op ≤ 43) (hj : op ≠ 41) : Bd op n p m (m.does nr op d a b n) := by
 have one : ∀ h, ((p : Int) + 1, opCo op, opCo op) ∈ edgL op n p := fun h => by rw [edg_one (n := n) (p := p) h]; exact List.mem_singleton.2 rfl
 unfold Mac.does
 refine qXh (fun h30 => qXh (fun _ => bd_st (by omega) (by omega)) (fun _ => ?_)) (fun h30 => ?_)
 ·by_cases hd : op = 22 ∨ op = 23
  ·have ha := aluC_34 (op := op) h1 h43 (qXm .i32 (rdZ m.rg a)).1 (qXm .i32 (rdZ m.rg a)).2
   have hl := (aluL_bd (m.reg a)).1
   have ec : aluC op (m.reg a) = opCo op + aluL (m.reg a) := by unfold aluC; rw [if_pos hd]
   refine bd_on hs hp hN (x := 34) (y := opCo op) (by rw [edg_div hd]; exact List.mem_singleton.2 rfl) (by omega) ha.2
  ·have ec : aluC op (m.reg a) = opCo op := by unfold aluC; rw [if_neg hd]; omega
   rw [ec]
   exact bd_on hs hp hN (one ⟨by omega, by omega, by omega, hd, by omega⟩) (Int.le_refl _) (Int.le_refl _)
 refine qXh (fun h => ?_) (fun h31 => ?_)
 ·have e : (1 : Int) = opCo op := by rw [h]; decide
  rw [e]; exact bd_on hs hp hN (one (by omega)) (Int.le_refl _) (Int.le_refl _)
 refine qXh (fun h => ?_) (fun h32 => ?_)
 ·have e : (1 : Int) = opCo op := by rw [h]; decide
  rw [e]; exact bd_on hs hp hN (one (by omega)) (Int.le_refl _) (Int.le_refl _)
 refine qXh (fun h => ?_) (fun h33 => ?_)
 ·have e : (1 : Int) = opCo op := by rw [h]; decide
  rw [e]; exact bd_on hs hp hN (one (by omega)) (Int.le_refl _) (Int.le_refl _)
 refine qXh (fun hop => ?_) (fun hm => ?_)
 ·have hc : opCo op = 2 := by rcases hop with h | h <;> (rw [h]; decide)
  have hmem : ((p : Int) + 1, 3, opCo op) ∈ edgL op n p := by rw [edg_mem hop]; exact List.mem_singleton.2 rfl
  have epc : IntKind.wrap .i64 (m.pc + 1) = (p : Int) + 1 := by rw [hp]; exact w64 (by omega) (by omega)
  unfold Mac.mem Mac.memA Mac.memo
  have memo : ∀ addr cost : Int, 2 ≤ cost → cost ≤ 3 → Bd op n p m (if op = 35 then ({ m with rm := updZ m.rm addr (m.reg d) } : Mac).goes (IntKind.wrap .i64 (m.pc + 1)) addr cost
    else (m.put d (IntKind.wrap .i32 (rdZ m.rm addr))).goes (IntKind.wrap .i64 (m.pc + 1)) addr cost) := by
   intro addr cost c1 c2
   rw [epc]
   exact qXh (fun e => bd_goes (m' := { m with rm := updZ m.rm addr (m.reg d) }) hs ⟨rfl, rfl⟩ hmem (by omega) c2) (fun _ => bd_goes hs (put2 m _ _) hmem (by omega) c2)
  exact qXh (fun _ => bd_st (by omega) (by omega)) (fun g => qXh (fun _ => memo _ _ (by omega) (by omega)) (fun _ => memo _ _ (by omega) (by omega)))
 have br : ∀ (h : op = 36 ∨ op = 37 ∨ op = 38) {c : Prop} [Decidable c], Bd op n p m (m.branch n c) := fun h c _ => by
  have e1 : opCo op = 1 := by rcases h with h | h | h <;> (rw [h]; decide)
  unfold Mac.branch
  refine qXh (fun _ => bd_goes hs ⟨rfl, rfl⟩ (x := 3) (y := 3) (by rw [edg_two h]; exact List.mem_cons_self ..) (Int.le_refl _) (Int.le_refl _)) (fun _ => bd_on0 hs hp hN (x := opCo op) (y := opCo op) (by rw [edg_two h]; exact List.mem_cons_of_mem _ (List.mem_singleton.2 rfl)) (by omega) (by omega))
 refine qXh (fun h => br (.inl h)) (fun h36 => ?_)
 refine qXh (fun h => br (.inr (.inl h))) (fun h37 => ?_)
 refine qXh (fun h => br (.inr (.inr h))) (fun h38 => ?_)
 refine qXh (fun h => bd_goes hs (put2 m _ _) (by rw [edg_jump (.inr h)]; exact List.mem_singleton.2 rfl) (Int.le_refl _) (Int.le_refl _)) (fun h40 => ?_)
 refine qXh (fun h => bd_goes hs ⟨rfl, rfl⟩ (by rw [edg_jump (.inl h)]; exact List.mem_singleton.2 rfl) (Int.le_refl _) (Int.le_refl _)) (fun h39 => ?_)
 refine qXh (fun h => absurd h hj) (fun _ => ?_)
 refine qXh (fun h => .inr (.inl ⟨h, rfl, by show IntKind.wrap .i64 (m.co + opCo op) = _; rw [h]; rfl⟩)) (fun h43' => ?_)
 exact bd_on0 hs hp hN (one ⟨by omega, by omega, by omega, by omega, by omega⟩) (Int.le_refl _) (Int.le_refl _)
end
structure Bn (c : Int) (N k : Nat) (m : Mac) : Prop where
 co : 0 ≤ m.co ∧ m.co ≤ mstZ c N 0
 run : m.st = 0 → ∃ p : Nat, m.pc = p ∧ p ≤ 1000000 ∧ OkP c N p ∧ m.co + mstZ c N p ≤ mstZ c N 0 ∧ (0 ≤ lstZ c N p → 0 ≤ lstZ c N 0 ∧ lstZ c N 0 ≤ m.co + lstZ c N p) ∧ rk c N p + k ≤ 64
 halt : m.st = 1 → 0 ≤ lstZ c N 0 ∧ lstZ c N 0 ≤ m.co
theorem bn_step {c : Int} {N k : Nat} {n1 : Int} {m : Mac} (hN : N ≤ 64) (hf : frP c N) (h : Bn c N k m) (hs : m.st = 0) : Bn c N (k + 1) (m.step (decC c N) N n1) := by
 obtain ⟨p, hp, hp1, hO, hc, hl, hr⟩ := h.run hs
 have hco := h.co
 have keep : ∀ s : Int, s ≠ 0 → s ≠ 1 → Bn c N (k + 1) { m with st := s } := fun s h0 h1 => ⟨hco, fun e => absurd e h0, fun e => absurd e h1⟩
 unfold Mac.step
 rw [if_neg (by omega)]
 by_cases g1 : m.pc < 0 ∨ (N : Int) ≤ m.pc
 ·rw [if_pos g1]; exact keep 2 (by omega) (by omega)
 rw [if_neg g1]
 by_cases g2 : rdZ (rdZ (decC c N) m.pc) 5 = 0
 ·rw [if_pos g2]; exact keep 3 (by omega) (by omega)
 rw [if_neg g2]
 have hpN : p < N := by omega
 have hd := decC_rd c N p hpN
 rw [hp, hd] at g2 ⊢
 obtain ⟨r0, r1, r2, r3, r4, r5⟩ := decR_rd (IntKind.wrap .u32 (rdZ c p))
 rw [r5] at g2
 have h5 : decZ (IntKind.wrap .u32 (rdZ c p)) 5 = 0 := by
  by_cases e : decZ (IntKind.wrap .u32 (rdZ c p)) 5 = 0
  ·exact e
  ·simp [qQj, e] at g2
 have hdi := dec_in (rdZ c p) h5
 have hw := hO.resolve_left (by omega)
 have hj : opP c p ≠ 41 := hf.2 p (by omega) hw
 have hop : opP c p ≠ 0 := by unfold opP; omega
 have z0 : IntKind.wrap .i64 (rdZ (decR (IntKind.wrap .u32 (rdZ c p))) 0) = decZ (IntKind.wrap .u32 (rdZ c p)) 0 := by rw [r0]; exact w64 (by omega) (by omega)
 have z4 : IntKind.wrap .i64 (rdZ (decR (IntKind.wrap .u32 (rdZ c p))) 4) = decZ (IntKind.wrap .u32 (rdZ c p)) 4 := by rw [r4]; exact w64 (by omega) (by omega)
 rw [z0, z4]
 have hR := bd_does (m := m) (nr := n1) (d := IntKind.wrap .i64 (rdZ (decR (IntKind.wrap .u32 (rdZ c p))) 1)) (a := IntKind.wrap .i64 (rdZ (decR (IntKind.wrap .u32 (rdZ c p))) 2)) (b := IntKind.wrap .i64 (rdZ (decR (IntKind.wrap .u32 (rdZ c p))) 3)) (n := decZ (IntKind.wrap .u32 (rdZ c p)) 4) hs hp hp1 hdi.1.1 hdi.1.2 hj
 generalize m.does n1 _ _ _ _ _ = a at hR
 obtain ⟨me, le⟩ := mst_eq hN hf hpN hO hop
 have hb0 := mstZ_bd c N 0
 have hbp := mstZ_bd c N p
 rcases hR with ⟨e1, e2, e3⟩ | ⟨e1, e2, e3⟩ | ⟨e1, x, y, cost, e2, e3, e4, e5⟩
 ·exact ⟨by rw [e3]; exact hco, fun e => absurd e e1, fun e => absurd e e2⟩
 ·have eo : opP c p = 43 := e1
  have ee : edgB c p = [] := by unfold edgB; rw [eo]; rfl
  rw [ee, eo, List.foldl_nil] at me le
  have m1 : mstZ c N p = 1 := me.trans (by decide)
  have l1 : lstZ c N p = 1 := le.trans (by decide)
  rw [w64 (by omega) (by omega)] at e3
  have := hl (by omega)
  exact ⟨by omega, fun e => by omega, fun _ => by omega⟩
 ·have he : (a.pc, x, y) ∈ edgB c p := e2
  obtain ⟨t, t1, t2, t3, t4⟩ := ok_next hN hf hpN hO hop he
  have hge := (mfold_ge (f := mstZ c N) (edgB c p) (mstI (opP c p))).2 _ he
  have hle := (lfold_le (f := lstZ c N) (edgB c p) (lstI (opP c p)) (fun e he => (edgL_bd e he).2.1)).2 _ he
  rw [← me] at hge
  rw [← le] at hle
  have hxy := edgL_bd _ e2
  dsimp only at hge hle t1 hxy
  rw [t1] at hge hle
  have hbt := mstZ_bd c N t
  rw [w64 (by omega) (by omega)] at e5
  refine ⟨by omega, fun _ => ⟨t, t1, t2, t3, by omega, fun h0 => ?_, by omega⟩, fun e => by omega⟩
  have h1 := hle h0
  have h2 := hl h1.1
  omega
theorem bn_runs {c : Int} {N : Nat} {n1 : Int} {m : Mac} (hN : N ≤ 64) (hf : frP c N) (h : Bn c N 0 m) : ∀ k, ∃ j, Bn c N j (Mac.runs (decC c N) N n1 k m).1 ∧ ((Mac.runs (decC c N) N n1 k m).1.st = 0 → j = k)
 | 0 => ⟨0, h, fun _ => rfl⟩
 | k + 1 => by
  obtain ⟨j, ih, hj⟩ := bn_runs (n1 := n1) hN hf h k
  rw [runs_succ]
  by_cases g : (Mac.runs (decC c N) N n1 k m).1.st = 0
  ·rw [if_pos g]
   refine ⟨j + 1, bn_step hN hf ih g, fun _ => by rw [hj g]⟩
  ·rw [if_neg g]
   exact ⟨j, ih, fun e => absurd e g⟩
theorem bn_end {c : Int} {N : Nat} {nr rm : Int} (hN : N ≤ 64) (hf : frZ c N = 1) :
  IntKind.wrap .i64 (rdZ (runP (decW c N) N (qQq nr (qQq 1000 (qQq (nuP rm) 0)))) 4) ≤ mstZ c N 0 ∧ IntKind.wrap .i64 (rdZ (runP (decW c N) N (qQq nr (qQq 1000 (qQq (nuP rm) 0)))) 3) ≠ 0 ∧
   (IntKind.wrap .i64 (rdZ (runP (decW c N) N (qQq nr (qQq 1000 (qQq (nuP rm) 0)))) 3) = 1 → 0 ≤ lstZ c N 0 ∧ lstZ c N 0 ≤ IntKind.wrap .i64 (rdZ (runP (decW c N) N (qQq nr (qQq 1000 (qQq (nuP rm) 0)))) 4)) := by
 have hf : frP c N := Classical.byContradiction fun g => by
  unfold frZ at hf
  rw [if_neg g] at hf
  omega
 have e0 : decW c N = decC c N := by unfold decW; rw [Int.toNat_natCast]
 have e1 := runP_code (decC c N) N nr 1000 (nuP rm)
 rw [macM_nu] at e1
 have hb := mstZ_bd c N 0
 have hr := rk_le c N 0
 have hok : Mac.ok ⟨zeroZ 32, rm, 0, 0, 0, 0, 0⟩ := ⟨by unfold I64; simp, by unfold I64; simp, by unfold I64; simp, Int.le_refl _⟩
 have hS : Bn c N 0 ⟨zeroZ 32, rm, 0, 0, 0, 0, 0⟩ := ⟨⟨Int.le_refl _, hb.1⟩, fun _ => ⟨0, rfl, by omega, .inr (.here id), by show (0 : Int) + mstZ c N 0 ≤ _; omega, fun h => ⟨h, by show _ ≤ (0 : Int) + lstZ c N 0; omega⟩, by omega⟩, fun e => by cases e⟩
 obtain ⟨j, hB, hj⟩ := bn_runs (n1 := nr) hN hf hS (1000 : Int).toNat
 have hk := runs_ok hok (decC c N) N nr (1000 : Int).toNat
 rw [e0, e1]
 generalize Mac.runs (decC c N) N nr (1000 : Int).toNat ⟨zeroZ 32, rm, 0, 0, 0, 0, 0⟩ = r at *
 obtain ⟨q0, q1, q2, q3, q4, _⟩ := codeM_rd r.1 r.2
 obtain ⟨_, i2, i3, _⟩ := hk.1
 rw [q3, q4, w64 i2.1 i2.2, w64 i3.1 i3.2]
 refine ⟨hB.co.2, fun e => ?_, fun e => hB.halt e⟩
 obtain ⟨p, _, _, _, _, _, hrk⟩ := hB.run e
 have := hj e
 have : (1000 : Int).toNat = 1000 := rfl
 omega
end Go.Eng
end
/-!  -/
noncomputable section
namespace Go.Eng
section chk
variable {nC nD nS nI nO cI cO : Int}
end chk
end Go.Eng
end
