/-
  Parts of the engine, a program's symbolic run, proved sound; and of plain laws.
-/
import Derived.Test.YthfckifhnaoopabGreatDoorGp3
import Derived.Test.YthfckifhnaoopabGreatDoorGp1
set_option linter.unusedVariables false
set_option linter.unusedSimpArgs false
/-!  -/
noncomputable section
namespace Go.Eng
section
variable {w : Int} {N : Nat} {n1 : Int} {m : Mac}
def Tg (op n pc t : Int) : Prop := (t = IntKind.wrap .i64 (pc + 1) ∧ op ≠ 39 ∧ op ≠ 40 ∧ op ≠ 43) ∨ (t = n ∧ 36 ≤ op ∧ op ≤ 40)
def Went (op n : Int) (m a : Mac) : Prop := (a.st ≠ 0 ∧ a.nm = m.nm ∧ a.mq = m.mq) ∨
 (a.nm = m.nm + 1 ∧ (∃ addr cost, a.mq = updZ m.mq m.nm (qQq m.pc (qQq addr (qQq cost 0)))) ∧ (a.st ≠ 0 ∨ (a.st = 0 ∧ Tg op n m.pc a.pc)))
theorem qZr {op n : Int} {c : Prop} [Decidable c] {a b : Mac} (h1 : c → Went op n m a) (h2 : ¬ c → Went op n m b) : Went op n m (if c then a else b) := by
 by_cases h : c
 ·rw [if_pos h]; exact h1 h
 ·rw [if_neg h]; exact h2 h
theorem res_st {op n s : Int} (h : s ≠ 0) : Went op n m { m with st := s } := .inl ⟨h, rfl, rfl⟩
theorem qKj {op n : Int} (hs : m.st = 0) {m' : Mac} {next addr cost : Int} (e : m'.pc = m.pc ∧ m'.st = m.st ∧ m'.co = m.co ∧ m'.nm = m.nm ∧ m'.mq = m.mq) (ht : Tg op n m.pc next) : Went op n m (m'.goes next addr cost) := by
 obtain ⟨e1, e2, e3, e4, e5⟩ := e
 refine .inr ⟨?_, ⟨addr, cost, ?_⟩, .inr ⟨?_, ht⟩⟩
 ·show m'.nm + 1 = _; rw [e4]
 ·show updZ m'.mq m'.nm (qQq m'.pc _) = _; rw [e1, e4, e5]
 ·show m'.st = 0; rw [e2]; exact hs
theorem res_on {op n : Int} (hs : m.st = 0) (h : op ≠ 39 ∧ op ≠ 40 ∧ op ≠ 43) {i x cost : Int} : Went op n m ((m.put i x).on cost) := by
 have e := put5 m i x
 refine qKj hs e (.inl ⟨?_, h⟩)
 rw [e.1]
theorem res_on0 {op n : Int} (hs : m.st = 0) (h : op ≠ 39 ∧ op ≠ 40 ∧ op ≠ 43) {cost : Int} : Went op n m (m.on cost) := qKj hs ⟨rfl, rfl, rfl, rfl, rfl⟩ (.inl ⟨rfl, h⟩)
theorem res_does {nr op d a b n : Int} (hs : m.st = 0) (hj : op ≠ 41) : Went op n m (m.does nr op d a b n) := by
 unfold Mac.does
 refine qZr (fun _ => qZr (fun _ => res_st (by omega)) (fun _ => res_on hs (by omega))) (fun _ => ?_)
 refine qZr (fun _ => res_on hs (by omega)) (fun _ => ?_)
 refine qZr (fun _ => res_on hs (by omega)) (fun _ => ?_)
 refine qZr (fun _ => res_on hs (by omega)) (fun _ => ?_)
 refine qZr (fun hop => ?_) (fun _ => ?_)
 ·unfold Mac.mem Mac.memA Mac.memo
  have memo : ∀ addr cost : Int, Went op n m (if op = 35 then ({ m with rm := updZ m.rm addr (m.reg d) } : Mac).goes (IntKind.wrap .i64 (m.pc + 1)) addr cost
    else (m.put d (IntKind.wrap .i32 (rdZ m.rm addr))).goes (IntKind.wrap .i64 (m.pc + 1)) addr cost) := by
   intro addr cost
   exact qZr (fun e => qKj (m' := { m with rm := updZ m.rm addr (m.reg d) }) hs ⟨rfl, rfl, rfl, rfl, rfl⟩ (.inl ⟨rfl, by omega⟩)) (fun _ => qKj hs (put5 m _ _) (.inl ⟨rfl, by omega⟩))
  exact qZr (fun _ => res_st (by omega)) (fun g => qZr (fun _ => memo _ _) (fun _ => memo _ _))
 unfold Mac.branch
 refine qZr (fun h => qZr (fun _ => qKj hs ⟨rfl, rfl, rfl, rfl, rfl⟩ (.inr ⟨rfl, by omega⟩)) (fun _ => res_on0 hs (by omega))) (fun _ => ?_)
 refine qZr (fun h => qZr (fun _ => qKj hs ⟨rfl, rfl, rfl, rfl, rfl⟩ (.inr ⟨rfl, by omega⟩)) (fun _ => res_on0 hs (by omega))) (fun _ => ?_)
 refine qZr (fun h => qZr (fun _ => qKj hs ⟨rfl, rfl, rfl, rfl, rfl⟩ (.inr ⟨rfl, by omega⟩)) (fun _ => res_on0 hs (by omega))) (fun _ => ?_)
 refine qZr (fun h => qKj hs (put5 m _ _) (.inr ⟨rfl, by omega⟩)) (fun h40 => ?_)
 refine qZr (fun h => qKj hs ⟨rfl, rfl, rfl, rfl, rfl⟩ (.inr ⟨rfl, by omega⟩)) (fun h39 => ?_)
 refine qZr (fun h => absurd h hj) (fun _ => ?_)
 refine qZr (fun h => .inr ⟨rfl, ⟨_, _, rfl⟩, .inl (by show (1 : Int) ≠ 0; omega)⟩) (fun h43 => ?_)
 exact res_on0 hs ⟨h39, h40, h43⟩
def NoJr (w : Int) (N : Nat) : Prop := ∀ p : Nat, p < N → decZ (IntKind.wrap .u32 (rdZ w p)) 5 = 0 → decZ (IntKind.wrap .u32 (rdZ w p)) 0 ≠ 41
theorem tg_next {c : Int} {N p : Nat} {t : Int} (hN : N ≤ 1000000) (hp : p < N) (h5 : decZ (IntKind.wrap .u32 (rdZ c p)) 5 = 0) (hj : decZ (IntKind.wrap .u32 (rdZ c p)) 0 ≠ 41)
  (ht : Tg (decZ (IntKind.wrap .u32 (rdZ c p)) 0) (decZ (IntKind.wrap .u32 (rdZ c p)) 4) p t) (h0 : 0 ≤ t) (h1 : t < N) : t.toNat ∈ nxf c N p := by
 have hL := nxL_in (q := c) (n := N) (p := p) (by omega) (by omega) rfl rfl
 have hop := (dec_in (rdZ c p) h5).1
 generalize decZ (IntKind.wrap .u32 (rdZ c p)) 0 = y0 at *
 generalize decZ (IntKind.wrap .u32 (rdZ c p)) 4 = y4 at *
 have ew : IntKind.wrap .i64 ((p : Int) + 1) = p + 1 := w64 (by omega) (by omega)
 unfold Tg at ht
 rw [ew] at ht
 unfold nxf
 rw [hL]
 refine List.mem_map.2 ⟨t, ?_, rfl⟩
 by_cases g1 : y0 = 39 ∨ y0 = 40
 ·rw [nxC_1 g1]
  have : t = y4 := by omega
  rw [if_pos (by omega), this]
  simp
 ·by_cases g2 : y0 = 36 ∨ y0 = 37 ∨ y0 = 38
  ·rw [nxC_2 g2, List.mem_filter]
   refine ⟨?_, by simpa using h1⟩
   unfold go2
   have : t = y4 ∨ t = p + 1 := by omega
   split
   ·simp; omega
   ·split <;> (simp; omega)
  ·rw [nxC_3 (by omega) g1 g2]
   have : t = p + 1 := by omega
   rw [if_pos (by omega), this]
   simp
structure Rn (w : Int) (N : Nat) (m : Mac) : Prop where
 nm0 : 0 ≤ m.nm
 rng : ∀ i : Nat, (i : Int) < m.nm → 0 ≤ mk m.mq i 0 ∧ mk m.mq i 0 < N
 fst : 0 < m.nm → mk m.mq ((0 : Nat) : Int) 0 = 0
 nxt : ∀ i : Nat, (i : Int) + 1 < m.nm → (mk m.mq ((i + 1 : Nat) : Int) 0).toNat ∈ nxf w N (mk m.mq i 0).toNat
 cur : m.st = 0 → (m.nm = 0 → m.pc = 0) ∧ (∀ k : Nat, (k : Int) + 1 = m.nm → 0 ≤ m.pc → m.pc < N → m.pc.toNat ∈ nxf w N (mk m.mq k 0).toNat)
theorem rn_step (hN : N ≤ 1000000) (h : Rn w N m) (hs : m.st = 0) (hj : NoJr w N) : Rn w N (m.step (decC w N) N n1) := by
 obtain ⟨K, hK⟩ := Int.eq_ofNat_of_zero_le h.nm0
 have keep : ∀ s : Int, s ≠ 0 → Rn w N { m with st := s } := fun s hs' => ⟨h.nm0, h.rng, h.fst, h.nxt, fun e => absurd e hs'⟩
 unfold Mac.step
 rw [if_neg (by omega)]
 by_cases g1 : m.pc < 0 ∨ (N : Int) ≤ m.pc
 ·rw [if_pos g1]; exact keep 2 (by omega)
 rw [if_neg g1]
 by_cases g2 : rdZ (rdZ (decC w N) m.pc) 5 = 0
 ·rw [if_pos g2]; exact keep 3 (by omega)
 rw [if_neg g2]
 obtain ⟨p, hp⟩ := Int.eq_ofNat_of_zero_le (by omega : 0 ≤ m.pc)
 have hpN : p < N := by omega
 have hd := decC_rd w N p hpN
 rw [hp, hd] at g2 ⊢
 obtain ⟨r0, r1, r2, r3, r4, r5⟩ := decR_rd (IntKind.wrap .u32 (rdZ w p))
 rw [r5] at g2
 have h5 : decZ (IntKind.wrap .u32 (rdZ w p)) 5 = 0 := by
  by_cases e : decZ (IntKind.wrap .u32 (rdZ w p)) 5 = 0
  ·exact e
  ·simp [qQj, e] at g2
 have hdi := dec_in (rdZ w p) h5
 have hj' := hj p hpN h5
 have z0 : IntKind.wrap .i64 (rdZ (decR (IntKind.wrap .u32 (rdZ w p))) 0) = decZ (IntKind.wrap .u32 (rdZ w p)) 0 := by rw [r0]; exact w64 (by omega) (by omega)
 have z4 : IntKind.wrap .i64 (rdZ (decR (IntKind.wrap .u32 (rdZ w p))) 4) = decZ (IntKind.wrap .u32 (rdZ w p)) 4 := by rw [r4]; exact w64 (by omega) (by omega)
 rw [z0, z4]
 have hR := res_does (m := m) (nr := n1) (d := IntKind.wrap .i64 (rdZ (decR (IntKind.wrap .u32 (rdZ w p))) 1)) (a := IntKind.wrap .i64 (rdZ (decR (IntKind.wrap .u32 (rdZ w p))) 2)) (b := IntKind.wrap .i64 (rdZ (decR (IntKind.wrap .u32 (rdZ w p))) 3)) (n := decZ (IntKind.wrap .u32 (rdZ w p)) 4) hs hj'
 generalize m.does n1 _ _ _ _ _ = a at hR
 rcases hR with ⟨e1, e2, e3⟩ | ⟨e1, ⟨addr, cost, e2⟩, e3⟩
 ·refine ⟨by rw [e2]; exact h.nm0, ?_, ?_, ?_, fun e => absurd e e1⟩
  ·rw [e2, e3]; exact h.rng
  ·rw [e2, e3]; exact h.fst
  ·rw [e2, e3]; exact h.nxt
 ·have q0 : mk a.mq K 0 = p := by rw [e2, hK, mk_upd, if_pos rfl, (mark_rd m.pc addr cost).1, hp, w64 (by omega) (by omega)]
  have qo : ∀ (i : Nat) (f : Int), i < K → mk a.mq i f = mk m.mq i f := fun i f hi => by rw [e2, hK, mk_upd, if_neg (by omega)]
  refine ⟨by rw [e1]; have := h.nm0; omega, fun i hi => ?_, fun _ => ?_, fun i hi => ?_, fun e => ⟨fun e0 => by rw [e1] at e0; have := h.nm0; omega, fun k hk k0 k1 => ?_⟩⟩
  ·rw [e1, hK] at hi
   by_cases g : i < K
   ·rw [qo i 0 g]; exact h.rng i (by omega)
   ·have : i = K := by omega
    subst this
    rw [q0]; omega
  ·by_cases g : 0 < K
   ·rw [qo 0 0 g]; exact h.fst (by omega)
   ·have : K = 0 := by omega
    subst this
    have := (h.cur hs).1 (by omega)
    rw [q0]; omega
  ·rw [e1, hK] at hi
   by_cases g : i + 1 < K
   ·rw [qo i 0 (by omega), qo (i + 1) 0 g]
    exact h.nxt i (by omega)
   ·have : K = i + 1 := by omega
    subst this
    rw [qo i 0 (by omega), q0]
    have := (h.cur hs).2 i (by omega) (by omega) (by omega)
    rw [hp] at this
    exact this
  ·rw [e1, hK] at hk
   have : k = K := by omega
   subst this
   rcases e3 with e3 | ⟨_, e3⟩
   ·exact absurd e e3
   ·rw [q0, Int.toNat_natCast]
    rw [hp] at e3
    exact tg_next hN hpN h5 hj' e3 k0 k1
theorem rn_runs (hN : N ≤ 1000000) (h : Rn w N m) (hj : NoJr w N) : ∀ k, Rn w N (Mac.runs (decC w N) N n1 k m).1
 | 0 => h
 | k + 1 => by
  have ih := rn_runs hN h hj k
  rw [qKs]
  by_cases g : (Mac.runs (decC w N) N n1 k m).1.st = 0
  ·rw [if_pos g]; exact rn_step hN ih g hj
  ·rw [if_neg g]; exact ih
theorem rn_reach (h : Rn w N m) : ∀ i : Nat, (i : Int) < m.nm → Way (nxf w N) (fun _ => False) 0 (mk m.mq i 0).toNat
 | 0, hi => by rw [h.fst (by omega)]; exact .here id
 | i + 1, hi => (rn_reach h i (by omega)).on (h.nxt i (by omega)) id
theorem rn_way (h : Rn w N m) {i : Nat} : ∀ d : Nat, ((i + d : Nat) : Int) < m.nm → Way (nxf w N) (fun _ => False) (mk m.mq i 0).toNat (mk m.mq ((i + d : Nat) : Int) 0).toNat
 | 0, _ => .here id
 | d + 1, hi => (rn_way h d (by omega)).on (h.nxt (i + d) (by omega)) id
theorem rn_once (h : Rn w N m) (hc : ¬Cyc (nxf w N)) {i j : Nat} (hij : i < j) (hj : (j : Int) < m.nm) : mk m.mq i 0 ≠ mk m.mq j 0 := fun e => by
 refine hc ⟨_, rn_reach h i (by omega), _, h.nxt i (by omega), ?_⟩
 have := rn_way h (i := i + 1) (j - (i + 1)) (by omega)
 rw [show i + 1 + (j - (i + 1)) = j by omega, ← e] at this
 exact this
theorem rn_len (h : Rn w N m) (hc : ¬Cyc (nxf w N)) : m.nm ≤ N := by
 obtain ⟨K, hK⟩ := Int.eq_ofNat_of_zero_le h.nm0
 have hn : ((List.range K).map fun i : Nat => (mk m.mq i 0).toNat).Nodup := by
  refine List.pairwise_map.2 ?_
  refine (List.pairwise_lt_range (n := K)).imp_of_mem ?_
  intro a b ha hb hab e
  have ha := List.mem_range.1 ha
  have hb := List.mem_range.1 hb
  have r1 := h.rng a (by omega)
  have r2 := h.rng b (by omega)
  exact rn_once h hc hab (by omega) (by omega)
 have hs := hn.length_le_of_subset (l₂ := List.range N) fun x hx => by
  obtain ⟨i, hi, rfl⟩ := List.mem_map.1 hx
  have := h.rng i (by have := List.mem_range.1 hi; omega)
  exact List.mem_range.2 (by omega)
 simp at hs
 omega
theorem cost_ge {c : Int} : ∀ {k : Nat}, k ≤ 1000000 → (∀ i : Nat, i < k → 1 ≤ mk c i 2 ∧ mk c i 2 ≤ 34) → (k : Int) ≤ costF c k ∧ costF c k ≤ 34 * k
 | 0, _, _ => by simp [costF]
 | k + 1, hk, h => by
  have ih := cost_ge (k := k) (by omega) fun i hi => h i (by omega)
  have := h k (by omega)
  rw [costF, w64 (by omega) (by omega)]
  omega
theorem run_rn {nr fuel rm : Int} (hN : N ≤ 1000000) (hj : NoJr w N) (n0 : 0 ≤ nr) (n1 : nr ≤ 1000000) (hf : fuel ≤ 400000) :
  ∃ a : Mac, Rn w N a ∧ rdZ (runP (decW w N) N (qQq nr (qQq fuel (qQq (nuP rm) 0)))) 5 = a.mq ∧ mkN (runP (decW w N) N (qQq nr (qQq fuel (qQq (nuP rm) 0)))) = a.nm ∧
   a.nm ≤ 400000 ∧ (∀ i : Nat, (i : Int) < a.nm → 1 ≤ mk a.mq i 2 ∧ mk a.mq i 2 ≤ 34) := by
 have e0 : decW w N = decC w N := by unfold decW; rw [Int.toNat_natCast]
 have e1 := runP_code (decC w N) N nr fuel (nuP rm)
 rw [macM_nu] at e1
 have hI : Inv w rm N nr ⟨zeroZ 32, rm, 0, 0, 0, 0, 0⟩ := ⟨⟨by unfold I64; simp, by unfold I64; simp, by unfold I64; simp, Int.le_refl _⟩, rfl, fun i hi => by simp at hi; omega, fun i _ _ => .inr rfl⟩
 have hS : Rn w N ⟨zeroZ 32, rm, 0, 0, 0, 0, 0⟩ := ⟨Int.le_refl _, fun i hi => by simp at hi; omega, fun h => by simp at h, fun i hi => by simp at hi; omega, fun _ => ⟨fun _ => rfl, fun k hk => by simp at hk; omega⟩⟩
 obtain ⟨hI2, hc⟩ := nx_runs hI rfl n0 n1 fuel.toNat
 have hR := rn_runs (n1 := nr) hN hS hj fuel.toNat
 have hst : (Mac.runs (decC w N) N nr fuel.toNat ⟨zeroZ 32, rm, 0, 0, 0, 0, 0⟩).2 ≤ fuel.toNat := by
  generalize fuel.toNat = k
  induction k with
  | zero => exact Nat.le_refl _
  | succ k ih =>
   rw [qKs]
   split
   ·show (Mac.runs (decC w N) N nr k _).2 + 1 ≤ k + 1
    omega
   ·omega
 rw [e0, e1]
 generalize Mac.runs (decC w N) N nr fuel.toNat ⟨zeroZ 32, rm, 0, 0, 0, 0, 0⟩ = r at *
 have hnm : r.1.nm ≤ 400000 := by
  have : 0 ≤ trap r.1.st := by unfold trap; split <;> omega
  simp only at hc
  omega
 refine ⟨r.1, hR, ?_, mkN_code hI2.ok (by omega) _, hnm, fun i hi => (hI2.mks i hi).2.2⟩
 exact (codeM_rd r.1 r.2).2.2.2.2.2.1
end
end Go.Eng
end
/-!  -/
noncomputable section
namespace Go.Eng
section chk
variable {nC nD nS nI nO cI cO : Int}
end chk
end Go.Eng
end
