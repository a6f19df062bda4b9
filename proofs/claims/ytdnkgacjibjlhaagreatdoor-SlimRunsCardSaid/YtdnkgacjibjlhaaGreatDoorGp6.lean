/-
  Parts of the engine, a program's symbolic run, proved sound; and of plain laws.
-/
import Derived.Test.YtdnkgacjibjlhaaGreatDoorGp5
import Derived.Test.YtdnkgacjibjlhaaGreatDoorGp4
set_option linter.unusedVariables false
set_option linter.unusedSimpArgs false
/-!  -/
noncomputable section
namespace Go.Eng
def Two (op n n' : Int) (A B A' B' : Mac) : Prop :=
 B'.rg = A'.rg ∧ B'.rm = A'.rm ∧ B'.st = A'.st ∧
 ((A'.st ≠ 0 ∧ A'.st ≠ 1 ∧ A'.nm = A.nm ∧ A'.mq = A.mq ∧ B'.nm = B.nm ∧ B'.mq = B.mq) ∨
  (∃ addr cost, A'.nm = A.nm + 1 ∧ A'.mq = updZ A.mq A.nm (qQq A.pc (qQq addr (qQq cost 0))) ∧ B'.nm = B.nm + 1 ∧ B'.mq = updZ B.mq B.nm (qQq B.pc (qQq addr (qQq cost 0))) ∧
   (A'.st = 1 ∨ (A'.st = 0 ∧ ((A'.pc = IntKind.wrap .i64 (A.pc + 1) ∧ B'.pc = IntKind.wrap .i64 (B.pc + 1) ∧ op ≠ 39 ∧ op ≠ 43) ∨ (A'.pc = n ∧ B'.pc = n' ∧ 36 ≤ op ∧ op ≤ 39))))))
section
variable {A B : Mac} {op n n' : Int}
theorem qJb {p q : Prop} [Decidable p] [Decidable q] {X Y X' Y' : Mac} (h : q ↔ p) (h1 : p → Two op n n' A B X X') (h2 : ¬p → Two op n n' A B Y Y') : Two op n n' A B (if p then X else Y) (if q then X' else Y') := by
 by_cases g : p
 ·rw [if_pos g, if_pos (h.2 g)]; exact h1 g
 ·rw [if_neg g, if_neg fun k => g (h.1 k)]; exact h2 g
theorem two_st (hg : B.rg = A.rg) (hm : B.rm = A.rm) {s : Int} (h : s ≠ 0) (h1 : s ≠ 1) : Two op n n' A B { A with st := s } { B with st := s } :=
 ⟨hg, hm, rfl, .inl ⟨h, h1, rfl, rfl, rfl, rfl⟩⟩
def Same5 (A X : Mac) : Prop := X.pc = A.pc ∧ X.st = A.st ∧ X.co = A.co ∧ X.nm = A.nm ∧ X.mq = A.mq
theorem two_goes (hs : A.st = 0) (hs' : B.st = 0) {X Y : Mac} (e : Same5 A X) (f : Same5 B Y) (hg : Y.rg = X.rg) (hm : Y.rm = X.rm) {t t' addr cost : Int}
  (ht : (t = IntKind.wrap .i64 (A.pc + 1) ∧ t' = IntKind.wrap .i64 (B.pc + 1) ∧ op ≠ 39 ∧ op ≠ 43) ∨ (t = n ∧ t' = n' ∧ 36 ≤ op ∧ op ≤ 39)) : Two op n n' A B (X.goes t addr cost) (Y.goes t' addr cost) := by
 obtain ⟨e1, e2, e3, e4, e5⟩ := e
 obtain ⟨f1, f2, f3, f4, f5⟩ := f
 refine ⟨hg, hm, ?_, .inr ⟨addr, cost, ?_, ?_, ?_, ?_, .inr ⟨?_, ht⟩⟩⟩
 ·show Y.st = X.st; rw [f2, e2, hs, hs']
 ·show X.nm + 1 = _; rw [e4]
 ·show updZ X.mq X.nm (qQq X.pc _) = _; rw [e1, e4, e5]
 ·show Y.nm + 1 = _; rw [f4]
 ·show updZ Y.mq Y.nm (qQq Y.pc _) = _; rw [f1, f4, f5]
 ·show X.st = 0; rw [e2]; exact hs
theorem two_on (hs : A.st = 0) (hs' : B.st = 0) {X Y : Mac} (e : Same5 A X) (f : Same5 B Y) (hg : Y.rg = X.rg) (hm : Y.rm = X.rm) {cost : Int} (h : op ≠ 39 ∧ op ≠ 43) : Two op n n' A B (X.on cost) (Y.on cost) := by
 refine two_goes hs hs' e f hg hm (.inl ⟨?_, ?_, h⟩)
 ·rw [e.1]
 ·rw [f.1]
theorem put_rgs (hg : B.rg = A.rg) (i x : Int) : (B.put i x).rg = (A.put i x).rg := by unfold Mac.put; split <;> simp [hg]
theorem two_put (hs : A.st = 0) (hs' : B.st = 0) (hg : B.rg = A.rg) (hm : B.rm = A.rm) {i x cost : Int} (h : op ≠ 39 ∧ op ≠ 43) : Two op n n' A B ((A.put i x).on cost) ((B.put i x).on cost) :=
 two_on hs hs' (put5 A i x) (put5 B i x) (put_rgs hg i x) (by rw [put_rm, put_rm]; exact hm) h
theorem two_does (hs : A.st = 0) (hs' : B.st = 0) (hg : B.rg = A.rg) (hm : B.rm = A.rm) {nr d a b : Int} (h40 : op ≠ 40) (h41 : op ≠ 41) (hn : (36 ≤ op ∧ op ≤ 39) ∨ n' = n) : Two op n n' A B (A.does nr op d a b n) (B.does nr op d a b n') := by
 have hr : ∀ i, B.reg i = A.reg i := fun i => by unfold Mac.reg; rw [hg]
 unfold Mac.does
 simp only [hr]
 refine qJb Iff.rfl (fun h => qJb Iff.rfl (fun _ => two_st hg hm (by omega) (by omega)) (fun _ => two_put hs hs' hg hm (by omega))) (fun h30 => ?_)
 refine qJb Iff.rfl (fun h => ?_) (fun h31 => ?_)
 ·have : n' = n := by omega
  subst this
  exact two_put hs hs' hg hm (by omega)
 refine qJb Iff.rfl (fun h => ?_) (fun h32 => ?_)
 ·have : n' = n := by omega
  subst this
  exact two_put hs hs' hg hm (by omega)
 refine qJb Iff.rfl (fun h => ?_) (fun h33 => ?_)
 ·have : n' = n := by omega
  subst this
  exact two_put hs hs' hg hm (by omega)
 refine qJb Iff.rfl (fun hop => ?_) (fun h35 => ?_)
 ·have : n' = n := by omega
  subst this
  unfold Mac.mem Mac.memA Mac.memo
  simp only [hr, hm]
  have memo : ∀ addr cost : Int, Two op n' n' A B (if op = 35 then ({ A with rm := updZ A.rm addr (A.reg d) } : Mac).goes (IntKind.wrap .i64 (A.pc + 1)) addr cost
    else (A.put d (IntKind.wrap .i32 (rdZ A.rm addr))).goes (IntKind.wrap .i64 (A.pc + 1)) addr cost)
    (if op = 35 then ({ B with rm := updZ A.rm addr (A.reg d) } : Mac).goes (IntKind.wrap .i64 (B.pc + 1)) addr cost
    else (B.put d (IntKind.wrap .i32 (rdZ A.rm addr))).goes (IntKind.wrap .i64 (B.pc + 1)) addr cost) := fun addr cost =>
   qJb Iff.rfl (fun _ => two_goes (X := { A with rm := updZ A.rm addr (A.reg d) }) (Y := { B with rm := updZ A.rm addr (A.reg d) }) hs hs' ⟨rfl, rfl, rfl, rfl, rfl⟩ ⟨rfl, rfl, rfl, rfl, rfl⟩ hg rfl (.inl ⟨rfl, rfl, by omega⟩))
    (fun _ => two_goes hs hs' (put5 A _ _) (put5 B _ _) (put_rgs hg _ _) (by rw [put_rm, put_rm]; exact hm) (.inl ⟨rfl, rfl, by omega⟩))
  have trap : Two op n' n' A B { A with st := 4 } { B with st := 4 } := two_st (s := 4) hg hm (by decide) (by decide)
  rw [hm] at trap
  exact qJb Iff.rfl (fun _ => trap) (fun _ => qJb Iff.rfl (fun _ => memo _ _) (fun _ => memo _ _))
 unfold Mac.branch
 have br : 36 ≤ op ∧ op ≤ 38 → ∀ (P : Prop) [Decidable P], Two op n n' A B (if P then A.goes n (-1) 3 else A.on 1) (if P then B.goes n' (-1) 3 else B.on 1) := fun h P _ =>
  qJb Iff.rfl (fun _ => two_goes hs hs' ⟨rfl, rfl, rfl, rfl, rfl⟩ ⟨rfl, rfl, rfl, rfl, rfl⟩ hg hm (.inr ⟨rfl, rfl, by omega⟩)) (fun _ => two_on hs hs' ⟨rfl, rfl, rfl, rfl, rfl⟩ ⟨rfl, rfl, rfl, rfl, rfl⟩ hg hm (by omega))
 refine qJb Iff.rfl (fun h => br (by omega) _) (fun h36 => ?_)
 refine qJb Iff.rfl (fun h => br (by omega) _) (fun h37 => ?_)
 refine qJb Iff.rfl (fun h => br (by omega) _) (fun h38 => ?_)
 refine qJb Iff.rfl (fun h => absurd h h40) (fun _ => ?_)
 refine qJb Iff.rfl (fun h => two_goes hs hs' ⟨rfl, rfl, rfl, rfl, rfl⟩ ⟨rfl, rfl, rfl, rfl, rfl⟩ hg hm (.inr ⟨rfl, rfl, by omega⟩)) (fun h39 => ?_)
 refine qJb Iff.rfl (fun h => absurd h h41) (fun _ => ?_)
 refine qJb Iff.rfl (fun h => ?_) (fun h43 => two_on hs hs' ⟨rfl, rfl, rfl, rfl, rfl⟩ ⟨rfl, rfl, rfl, rfl, rfl⟩ hg hm (by omega))
 exact ⟨hg, hm, rfl, .inr ⟨_, _, rfl, rfl, rfl, rfl, .inl rfl⟩⟩
end
theorem clt_plc {c : Int} {N : Nat} (hN : N ≤ 1000) {p : Nat} (hp : p ≤ N) : cltZ (plcZ c N) (plcN c N) p = (plcF c N p).length := by
 have hb := qKd c N
 have e2 : min ((N : Int)).toNat 1000 = N := by omega
 have hK : plcN c N = (plcF c N N).length := by unfold plcN; rw [e2]
 -- the places below p come first
 have hpre : ∀ d : Nat, p + d ≤ N → ∃ R, plcF c N (p + d) = plcF c N p ++ R := fun d => by
  induction d with
  | zero => intro _; exact ⟨[], by simp⟩
  | succ d ih =>
   intro h
   obtain ⟨R, hR⟩ := ih (by omega)
   have := qKq (c := c) (n := N) (p := p + d)
   rw [hR, List.append_assoc] at this
   exact ⟨_, this⟩
 obtain ⟨R, hR⟩ := hpre (N - p) (by omega)
 rw [show p + (N - p) = N by omega] at hR
 have hle : (plcF c N p).length ≤ (plcF c N N).length := by rw [hR, List.length_append]; omega
 refine clt_split (by omega) (by omega) (by omega) (fun j hj => ?_) (fun j h1 h2 => ?_)
 ·obtain ⟨x, hx, e, _, _⟩ := plc_at (c := c) (n := N) (by omega) (Int.natCast_nonneg j) (by omega)
  rw [Int.toNat_natCast, Int.toNat_natCast, hR, List.getElem?_append_left (by omega)] at hx
  obtain ⟨y, ey, hy, _⟩ := plcF_mem (List.mem_of_getElem? hx)
  rw [e]; omega
 ·obtain ⟨x, hx, e, _, _⟩ := plc_at (c := c) (n := N) (by omega) (Int.natCast_nonneg j) h2
  rw [Int.toNat_natCast, Int.toNat_natCast, hR] at hx
  have hrise := plcF_rise c N N
  rw [e]
  intro hlt
  -- x is below p and qXy: it stands among the first
  obtain ⟨y, ey, hy, hs⟩ := plcF_mem (k := N) (by rw [hR]; exact List.mem_of_getElem? hx)
  have hm : (y : Int) ∈ plcF c N p := by
   unfold plcF
   exact List.mem_map.2 ⟨y, List.mem_filter.2 ⟨List.mem_range.2 (by omega), by simpa using hs⟩, rfl⟩
  obtain ⟨i, hi⟩ := List.getElem?_of_mem hm
  have hil := (List.getElem?_eq_some_iff.1 hi).1
  have hi2 : (plcF c N N)[i]? = some (y : Int) := by rw [hR, List.getElem?_append_left hil]; exact hi
  have hx2 : (plcF c N N)[j]? = some (x : Int) := by rw [hR]; exact hx
  obtain ⟨g1, g2⟩ := List.getElem?_eq_some_iff.1 hi2
  obtain ⟨g3, g4⟩ := List.getElem?_eq_some_iff.1 hx2
  have := List.pairwise_iff_getElem.1 hrise i j g1 g3 (by omega)
  rw [g2, g4] at this
  omega
theorem clt_far {c : Int} {N : Nat} (hN : N ≤ 1000) {t : Int} (h : (N : Int) ≤ t) : cltZ (plcZ c N) (plcN c N) t = plcN c N := by
 have hb := qKd c N
 refine clt_split (by omega) hb.1 (Int.le_refl _) (fun j hj => ?_) (fun j h1 h2 => by omega)
 obtain ⟨x, hx, e, hx2, _⟩ := plc_at (c := c) (n := N) (by omega) (Int.natCast_nonneg j) hj
 rw [e]; omega
theorem plc_num {c : Int} {N : Nat} (hN : N ≤ 1000) {p : Nat} (hp : p < N) (hs : styP c N p) : cltZ (plcZ c N) (plcN c N) p < plcN c N ∧ cltZ (plcZ c N) (plcN c N) (p + 1 : Nat) = cltZ (plcZ c N) (plcN c N) p + 1 ∧
  (plcF c N N)[(plcF c N p).length]? = some (p : Int) := by
 have e2 : min ((N : Int)).toNat 1000 = N := by omega
 have hK : plcN c N = (plcF c N N).length := by unfold plcN; rw [e2]
 have hnx := qKq (c := c) (n := N) (p := p)
 rw [if_pos hs] at hnx
 have hpre : ∀ d : Nat, p + 1 + d ≤ N → ∃ R, plcF c N (p + 1 + d) = plcF c N (p + 1) ++ R := fun d => by
  induction d with
  | zero => intro _; exact ⟨[], by simp⟩
  | succ d ih =>
   intro h
   obtain ⟨R, hR⟩ := ih (by omega)
   have := qKq (c := c) (n := N) (p := p + 1 + d)
   rw [hR, List.append_assoc] at this
   exact ⟨_, this⟩
 obtain ⟨R, hR⟩ := hpre (N - (p + 1)) (by omega)
 rw [show p + 1 + (N - (p + 1)) = N by omega, hnx] at hR
 have hl : (plcF c N p).length < (plcF c N N).length := by rw [hR]; simp
 rw [clt_plc hN (by omega), clt_plc hN (by omega), hnx, hK]
 refine ⟨by omega, by simp, ?_⟩
 rw [hR]
 simp
theorem plc_skip {c : Int} {N : Nat} (hN : N ≤ 1000) {p : Nat} (hp : p < N) (hs : ¬styP c N p) : cltZ (plcZ c N) (plcN c N) (p + 1 : Nat) = cltZ (plcZ c N) (plcN c N) p := by
 have hnx := qKq (c := c) (n := N) (p := p)
 rw [if_neg hs, List.append_nil] at hnx
 rw [clt_plc hN (by omega), clt_plc hN (by omega), hnx]
def nwN (c n t : Int) : Int := if cltZ (plcZ c n) (plcN c n) t < plcN c n then cltZ (plcZ c n) (plcN c n) t else 65535
theorem dec_word {op d a n : Int} (h : 36 ≤ op ∧ op ≤ 39) (hd : 0 ≤ d ∧ d < 32) (ha : 0 ≤ a ∧ a < 32) (hn : 0 ≤ n ∧ n ≤ 65535) (h39 : op = 39 → d = 0 ∧ a = 0) :
  decZ (op * 67108864 + d * 2097152 + a * 65536 + n) 0 = op ∧ decZ (op * 67108864 + d * 2097152 + a * 65536 + n) 1 = d ∧ decZ (op * 67108864 + d * 2097152 + a * 65536 + n) 2 = a ∧
  decZ (op * 67108864 + d * 2097152 + a * 65536 + n) 3 = 0 ∧ decZ (op * 67108864 + d * 2097152 + a * 65536 + n) 4 = n ∧ decZ (op * 67108864 + d * 2097152 + a * 65536 + n) 5 = 0 := by
 generalize hw : op * 67108864 + d * 2097152 + a * 65536 + n = w
 have e2 : w % 4294967296 = w := by omega
 have q0 : w / 67108864 = op := by omega
 have q1 : w / 2097152 % 32 = d := by omega
 have q2 : w / 65536 % 32 = a := by omega
 have hP : decP w := by
  unfold decP
  simp only [q0, q1, q2]
  omega
 have h0 : decZ w 0 = w / 67108864 := by unfold decZ; simp [e2, hP]
 have h1 : decZ w 1 = w / 2097152 % 32 := by unfold decZ; simp [e2, hP]
 have h2 : decZ w 2 = w / 65536 % 32 := by unfold decZ; simp [e2, hP]
 have h3 : decZ w 3 = if w / 67108864 ≤ 23 then w / 2048 % 32 else 0 := by unfold decZ; simp [e2, hP]
 have h4 : decZ w 4 = decN w := by unfold decZ; simp [e2, hP]
 have h5 : decZ w 5 = 0 := by unfold decZ; simp [e2, hP]
 have hN : decN w = w % 65536 := by
  unfold decN
  simp only
  rw [if_neg (by omega), if_neg (by omega)]
 rw [h0, h1, h2, h3, h4, h5, hN, q0, q1, q2, if_neg (by omega)]
 refine ⟨rfl, rfl, rfl, rfl, by omega, rfl⟩
theorem dec_slm (c n p : Int) :
  decZ (slmW c n p) 0 = decZ (IntKind.wrap .u32 (rdZ c p)) 0 ∧ decZ (slmW c n p) 1 = decZ (IntKind.wrap .u32 (rdZ c p)) 1 ∧ decZ (slmW c n p) 2 = decZ (IntKind.wrap .u32 (rdZ c p)) 2 ∧
  decZ (slmW c n p) 3 = decZ (IntKind.wrap .u32 (rdZ c p)) 3 ∧ decZ (slmW c n p) 5 = decZ (IntKind.wrap .u32 (rdZ c p)) 5 ∧
  (36 ≤ decZ (IntKind.wrap .u32 (rdZ c p)) 0 ∧ decZ (IntKind.wrap .u32 (rdZ c p)) 0 ≤ 39 → decZ (slmW c n p) 4 = nwN c n (decZ (IntKind.wrap .u32 (rdZ c p)) 4)) ∧
  (¬(36 ≤ decZ (IntKind.wrap .u32 (rdZ c p)) 0 ∧ decZ (IntKind.wrap .u32 (rdZ c p)) 0 ≤ 39) → decZ (slmW c n p) 4 = decZ (IntKind.wrap .u32 (rdZ c p)) 4) := by
 by_cases h : 36 ≤ decZ (IntKind.wrap .u32 (rdZ c p)) 0 ∧ decZ (IntKind.wrap .u32 (rdZ c p)) 0 ≤ 39
 ·obtain ⟨f5, f3, fw, f1, f2, f4, f39⟩ := dec_br h
  have hb := qKd c n
  have hk := clt_le (c := plcZ c n) (t := decZ (IntKind.wrap .u32 (rdZ c p)) 4) hb.1 (by omega : plcN c n ≤ 1000000)
  have hN : 0 ≤ nwN c n (decZ (IntKind.wrap .u32 (rdZ c p)) 4) ∧ nwN c n (decZ (IntKind.wrap .u32 (rdZ c p)) 4) ≤ 65535 := by unfold nwN; split <;> omega
  have hW : slmW c n p = decZ (IntKind.wrap .u32 (rdZ c p)) 0 * 67108864 + decZ (IntKind.wrap .u32 (rdZ c p)) 1 * 2097152 + decZ (IntKind.wrap .u32 (rdZ c p)) 2 * 65536 + nwN c n (decZ (IntKind.wrap .u32 (rdZ c p)) 4) := by
   unfold slmW nwpZ nwN
   rw [if_pos (by omega), fw]
  obtain ⟨g0, g1, g2, g3, g4, g5⟩ := dec_word h f1 f2 hN f39
  rw [hW, g0, g1, g2, g3, g4, g5, f3, f5]
  exact ⟨rfl, rfl, rfl, rfl, rfl, fun _ => rfl, fun g => absurd h g⟩
 ·rw [slm_no rfl (by omega)]
  exact ⟨rfl, rfl, rfl, rfl, rfl, fun g => absurd g h, fun _ => rfl⟩
theorem slm_at {c : Int} {N : Nat} (hN : N ≤ 1000) {j : Nat} {p : Int} (h : (plcF c N N)[j]? = some p) : rdZ (slmZ c N) j = slmW c N p := by
 have e2 : min ((N : Int)).toNat 1000 = N := by omega
 unfold slmZ rdZ
 rw [e2, qKw, Int.toNat_natCast, List.getD_eq_getElem?_getD, List.getElem?_map, h]
 rfl
def opA (c p : Int) : Int := decZ (IntKind.wrap .u32 (rdZ c p)) 0
def cntM (c q : Int) : Nat → Nat
 | 0 => 0
 | k + 1 => cntM c q k + if opA c (mk q k 0) = 42 then 0 else 1
theorem cntM_s (c q : Int) (k : Nat) : cntM c q (k + 1) = cntM c q k + if opA c (mk q k 0) = 42 then 0 else 1 := rfl
theorem cntM_le (c q : Int) : ∀ k, cntM c q k ≤ k
 | 0 => Nat.le_refl _
 | k + 1 => by have := cntM_le c q k; rw [cntM_s]; split <;> omega
theorem cntM_congr {c q q' : Int} : ∀ {k : Nat}, (∀ j : Nat, j < k → mk q j 0 = mk q' j 0) → cntM c q k = cntM c q' k
 | 0, _ => rfl
 | k + 1, h => by rw [cntM_s, cntM_s, cntM_congr fun j hj => h j (by omega), h k (by omega)]
theorem cntM_lt {c q : Int} {i k : Nat} (h : i < k) (ho : opA c (mk q i 0) ≠ 42) : cntM c q i < cntM c q k := by
 induction k with
 | zero => omega
 | succ k ih =>
  rw [cntM_s]
  by_cases e : i = k
  ·subst e; rw [if_neg ho]; omega
  ·have := ih (by omega); omega
def nuA (c : Int) (N : Nat) (t : Int) : Int := cltZ (plcZ c N) (plcN c N) t
structure Sl (c : Int) (N : Nat) (A B : Mac) : Prop where
 rg : B.rg = A.rg
 rm : B.rm = A.rm
 st : B.st = A.st
 nmA : 0 ≤ A.nm
 nmB : B.nm = cntM c A.mq A.nm.toNat
 rng : ∀ i : Nat, (i : Int) < A.nm → 0 ≤ mk A.mq i 0 ∧ mk A.mq i 0 < N ∧ decZ (IntKind.wrap .u32 (rdZ c (mk A.mq i 0))) 5 = 0
 mks : ∀ i : Nat, (i : Int) < A.nm → opA c (mk A.mq i 0) ≠ 42 → mk B.mq (cntM c A.mq i) 0 = nuA c N (mk A.mq i 0) ∧ mk B.mq (cntM c A.mq i) 1 = mk A.mq i 1 ∧ mk B.mq (cntM c A.mq i) 2 = mk A.mq i 2
 run : A.st = 0 → 0 ≤ A.pc ∧ (A.pc < N → Way (nxf c N) (fun _ => False) 0 A.pc.toNat) ∧ (B.pc = nuA c N A.pc ∨ (nuA c N A.pc = plcN c N ∧ plcN c N ≤ B.pc))
theorem sl_start {c : Int} {N : Nat} (hN : N ≤ 1000) (rg rm : Int) : Sl c N ⟨rg, rm, 0, 0, 0, 0, 0⟩ ⟨rg, rm, 0, 0, 0, 0, 0⟩ := by
 refine ⟨rfl, rfl, rfl, Int.le_refl _, rfl, fun i hi => by simp at hi; omega, fun i hi => by simp at hi; omega, fun _ => ⟨Int.le_refl _, fun _ => .here id, .inl ?_⟩⟩
 have := clt_plc (c := c) hN (Nat.zero_le N)
 unfold nuA
 rw [show (0 : Int) = ((0 : Nat) : Int) from rfl, this]
 rfl
theorem sl_more {c : Int} {N : Nat} {A B A' B' : Mac} (h : Sl c N A B) {p : Nat} (hN : N ≤ 1000) (hp : p < N) (h5 : decZ (IntKind.wrap .u32 (rdZ c p)) 5 = 0) (ho : opA c p ≠ 42) (epc : A.pc = p) (eB : B.pc = nuA c N p) (hrg : B'.rg = A'.rg) (hrm : B'.rm = A'.rm) (hst : B'.st = A'.st) {addr cost : Int}
  (a1 : A'.nm = A.nm + 1) (a2 : A'.mq = updZ A.mq A.nm (qQq A.pc (qQq addr (qQq cost 0)))) (b1 : B'.nm = B.nm + 1) (b2 : B'.mq = updZ B.mq B.nm (qQq B.pc (qQq addr (qQq cost 0))))
  (hrun : A'.st = 0 → 0 ≤ A'.pc ∧ (A'.pc < N → Way (nxf c N) (fun _ => False) 0 A'.pc.toNat) ∧ (B'.pc = nuA c N A'.pc ∨ (nuA c N A'.pc = plcN c N ∧ plcN c N ≤ B'.pc))) : Sl c N A' B' := by
 obtain ⟨K, hK⟩ := Int.eq_ofNat_of_zero_le h.nmA
 have hb := qKd c N
 have hnu := clt_le (c := plcZ c N) (t := (p : Int)) hb.1 (by omega : plcN c N ≤ 1000000)
 have q0 : mk A'.mq K 0 = p := by rw [a2, hK, qKe, if_pos rfl, (mark_rd _ addr cost).1, epc, w64 (by omega) (by omega)]
 have q1 : mk A'.mq K 1 = IntKind.wrap .i64 addr := by rw [a2, hK, qKe, if_pos rfl, (mark_rd _ addr cost).2.1]
 have q2 : mk A'.mq K 2 = IntKind.wrap .i64 cost := by rw [a2, hK, qKe, if_pos rfl, (mark_rd _ addr cost).2.2]
 have qo : ∀ (i : Nat) (f : Int), i < K → mk A'.mq i f = mk A.mq i f := fun i f hi => by rw [a2, hK, qKe, if_neg (by omega)]
 have hnB := h.nmB
 rw [hK, Int.toNat_natCast] at hnB
 have cc : ∀ k : Nat, k ≤ K → cntM c A'.mq k = cntM c A.mq k := fun k hk => cntM_congr fun j hj => qo j 0 (by omega)
 have r0 : mk B'.mq (cntM c A.mq K) 0 = nuA c N p := by rw [b2, hnB, qKe, if_pos rfl, (mark_rd _ addr cost).1, eB, w64 (by unfold nuA; omega) (by unfold nuA; omega)]
 have r1 : mk B'.mq (cntM c A.mq K) 1 = IntKind.wrap .i64 addr := by rw [b2, hnB, qKe, if_pos rfl, (mark_rd _ addr cost).2.1]
 have r2 : mk B'.mq (cntM c A.mq K) 2 = IntKind.wrap .i64 cost := by rw [b2, hnB, qKe, if_pos rfl, (mark_rd _ addr cost).2.2]
 have ro : ∀ (i : Nat) (f : Int), i < cntM c A.mq K → mk B'.mq i f = mk B.mq i f := fun i f hi => by rw [b2, hnB, qKe, if_neg (by omega)]
 refine ⟨hrg, hrm, hst, by rw [a1]; have := h.nmA; omega, ?_, fun i hi => ?_, fun i hi hoi => ?_, hrun⟩
 ·rw [b1, a1, hnB, hK, show ((K : Int) + 1).toNat = K + 1 by omega]
  rw [cntM_s, cc K (Nat.le_refl K), q0, if_neg ho]
  rfl
 ·rw [a1, hK] at hi
  by_cases g : i < K
  ·rw [qo i 0 g]; exact h.rng i (by omega)
  ·have : i = K := by omega
   subst this
   rw [q0]; exact ⟨by omega, by omega, h5⟩
 ·rw [a1, hK] at hi
  by_cases g : i < K
  ·rw [qo i 0 g] at hoi ⊢
   rw [qo i 1 g, qo i 2 g, cc i (by omega)]
   have hlt := cntM_lt g hoi
   rw [ro _ 0 hlt, ro _ 1 hlt, ro _ 2 hlt]
   exact h.mks i (by omega) hoi
  ·have : i = K := by omega
   subst this
   rw [q0, q1, q2, cc _ (Nat.le_refl _)]
   exact ⟨r0, r1, r2⟩
theorem sl_nop {c : Int} {N : Nat} {A B A' : Mac} (h : Sl c N A B) {p : Nat} (hN : N ≤ 1000) (hp : p < N) (h5 : decZ (IntKind.wrap .u32 (rdZ c p)) 5 = 0) (ho : opA c p = 42) (epc : A.pc = p) (hrg : B.rg = A'.rg) (hrm : B.rm = A'.rm) (hst : B.st = A'.st) {addr cost : Int}
  (a1 : A'.nm = A.nm + 1) (a2 : A'.mq = updZ A.mq A.nm (qQq A.pc (qQq addr (qQq cost 0))))
  (hrun : A'.st = 0 → 0 ≤ A'.pc ∧ (A'.pc < N → Way (nxf c N) (fun _ => False) 0 A'.pc.toNat) ∧ (B.pc = nuA c N A'.pc ∨ (nuA c N A'.pc = plcN c N ∧ plcN c N ≤ B.pc))) : Sl c N A' B := by
 obtain ⟨K, hK⟩ := Int.eq_ofNat_of_zero_le h.nmA
 have q0 : mk A'.mq K 0 = p := by rw [a2, hK, qKe, if_pos rfl, (mark_rd _ addr cost).1, epc, w64 (by omega) (by omega)]
 have qo : ∀ (i : Nat) (f : Int), i < K → mk A'.mq i f = mk A.mq i f := fun i f hi => by rw [a2, hK, qKe, if_neg (by omega)]
 have hnB := h.nmB
 rw [hK, Int.toNat_natCast] at hnB
 have cc : ∀ k : Nat, k ≤ K → cntM c A'.mq k = cntM c A.mq k := fun k hk => cntM_congr fun j hj => qo j 0 (by omega)
 refine ⟨hrg, hrm, hst, by rw [a1]; have := h.nmA; omega, ?_, fun i hi => ?_, fun i hi hoi => ?_, hrun⟩
 ·rw [a1, hnB, hK, show ((K : Int) + 1).toNat = K + 1 by omega]
  rw [cntM_s, cc K (Nat.le_refl K), q0, if_pos ho]
  rfl
 ·rw [a1, hK] at hi
  by_cases g : i < K
  ·rw [qo i 0 g]; exact h.rng i (by omega)
  ·have : i = K := by omega
   subst this
   rw [q0]; exact ⟨by omega, by omega, h5⟩
 ·rw [a1, hK] at hi
  by_cases g : i < K
  ·rw [qo i 0 g] at hoi ⊢
   rw [qo i 1 g, qo i 2 g, cc i (by omega)]
   exact h.mks i (by omega) hoi
  ·have : i = K := by omega
   subst this
   rw [q0] at hoi
   exact absurd ho hoi
theorem sl_keep {c : Int} {N : Nat} {A B A' B' : Mac} (h : Sl c N A B) (hrg : B'.rg = A'.rg) (hrm : B'.rm = A'.rm) (hst : B'.st = A'.st) (hs : A'.st ≠ 0) (a1 : A'.nm = A.nm) (a2 : A'.mq = A.mq) (b1 : B'.nm = B.nm) (b2 : B'.mq = B.mq) : Sl c N A' B' :=
 ⟨hrg, hrm, hst, by rw [a1]; exact h.nmA, by rw [b1, a1, a2]; exact h.nmB, by rw [a1, a2]; exact h.rng, by rw [a1, a2, b2]; exact h.mks, fun g => absurd g hs⟩
theorem step_out {M : Mac} {cq nc nr : Int} (hs : M.st = 0) (h : M.pc < 0 ∨ nc ≤ M.pc) : M.step cq nc nr = { M with st := 2 } := by
 unfold Mac.step
 rw [if_neg (by omega), if_pos h]
theorem step_at {M : Mac} {w nr : Int} {n p : Nat} (hs : M.st = 0) (hp : p < n) (e : M.pc = p) : M.step (decC w n) n nr =
  if decZ (IntKind.wrap .u32 (rdZ w p)) 5 ≠ 0 then { M with st := 3 } else
  M.does nr (decZ (IntKind.wrap .u32 (rdZ w p)) 0) (IntKind.wrap .i64 (decZ (IntKind.wrap .u32 (rdZ w p)) 1)) (IntKind.wrap .i64 (decZ (IntKind.wrap .u32 (rdZ w p)) 2)) (IntKind.wrap .i64 (decZ (IntKind.wrap .u32 (rdZ w p)) 3)) (decZ (IntKind.wrap .u32 (rdZ w p)) 4) := by
 unfold Mac.step
 rw [if_neg (by omega), if_neg (by omega), e, decC_rd w n p hp]
 obtain ⟨r0, r1, r2, r3, r4, r5⟩ := decR_rd (IntKind.wrap .u32 (rdZ w p))
 rw [r0, r1, r2, r3, r4, r5]
 by_cases h : decZ (IntKind.wrap .u32 (rdZ w p)) 5 = 0
 ·have hd := dec_in (rdZ w p) h
  rw [if_neg (by simp [qQz, h]), if_neg (by omega), w64 (by omega) (by omega), w64 (x := decZ (IntKind.wrap .u32 (rdZ w p)) 4) (by omega) (by omega)]
 ·rw [if_pos (by simp [qQz, h]), if_pos h]
theorem sl_step {c : Int} {N : Nat} {nr : Int} {A B : Mac} (hN : N ≤ 1000) (hE : slmE c N = 0) (h : Sl c N A B) (hs : A.st = 0) :
  (Sl c N (A.step (decC c N) N nr) B ∧ (A.step (decC c N) N nr).st = 0) ∨ Sl c N (A.step (decC c N) N nr) (B.step (decC (slmZ c N) (plcN c N).toNat) ((plcN c N).toNat : Nat) nr) := by
 obtain ⟨r0, r1, r2⟩ := h.run hs
 have hsB : B.st = 0 := h.st.trans hs
 have hb := qKd c N
 have hK : (((plcN c N).toNat : Nat) : Int) = plcN c N := Int.toNat_of_nonneg hb.1
 by_cases g1 : (N : Int) ≤ A.pc
 ·right
  have hf := clt_far (c := c) hN g1
  have hfB : plcN c N ≤ B.pc := by
   rcases r2 with e | e
   ·rw [e]; unfold nuA; rw [hf]; exact Int.le_refl _
   ·exact e.2
  rw [step_out hs (.inr g1), step_out hsB (.inr (by rw [hK]; exact hfB))]
  exact sl_keep h h.rg h.rm rfl (by show (2 : Int) ≠ 0; decide) rfl rfl rfl rfl
 obtain ⟨p, hp⟩ := Int.eq_ofNat_of_zero_le r0
 have hpN : p < N := by omega
 have hw := r1 (by omega)
 rw [hp, Int.toNat_natCast] at hw
 have h2 := dec_two (rdZ c p)
 have no : decZ (IntKind.wrap .u32 (rdZ c p)) 0 ≠ 40 ∧ decZ (IntKind.wrap .u32 (rdZ c p)) 0 ≠ 41 := by
  refine ⟨fun e => ?_, fun e => ?_⟩
  ·exact slmE_ne.2 ⟨p, by omega, hw, .inl e⟩ hE
  ·exact slmE_ne.2 ⟨p, by omega, hw, .inr e⟩ hE
 have eA := step_at (nr := nr) (w := c) hs hpN hp
 have e1 : IntKind.wrap .i64 ((p : Int) + 1) = (p : Int) + 1 := w64 (by omega) (by omega)
 -- where the next place is come to
 have reach : decZ (IntKind.wrap .u32 (rdZ c p)) 5 = 0 → ∀ t : Int, Tg (decZ (IntKind.wrap .u32 (rdZ c p)) 0) (decZ (IntKind.wrap .u32 (rdZ c p)) 4) p t → 0 ≤ t → t < N → Way (nxf c N) (fun _ => False) 0 t.toNat := fun h5 t ht t0 t1 =>
  hw.on (tg_next (by omega) hpN h5 no.2 ht t0 t1) id
 by_cases hst : styP c N p
 ·right
  obtain ⟨n1, n2, n3⟩ := plc_num hN hpN hst
  have hj := clt_plc (c := c) hN (by omega : p ≤ N)
  have hpB : B.pc = nuA c N p := by
   rcases r2 with e | e
   ·rw [e, hp]
   ·rw [hp] at e
    have := e.1
    unfold nuA at this
    omega
  have hpB2 : B.pc = ((plcF c N p).length : Nat) := by rw [hpB]; exact hj
  have hjK : (plcF c N p).length < (plcN c N).toNat := by omega
  have eB := step_at (nr := nr) (w := slmZ c N) hsB hjK hpB2
  have hsl := slm_at hN n3
  rw [hsl, slmW_w] at eB
  obtain ⟨d0, d1, d2, d3, d5, d4, d4'⟩ := dec_slm c N p
  rw [d0, d1, d2, d3, d5] at eB
  by_cases h5 : decZ (IntKind.wrap .u32 (rdZ c p)) 5 = 0
  ·rw [if_neg (by omega)] at eA eB
   have hdi := dec_in (rdZ c p) h5
   have hT := two_does (A := A) (B := B) (op := decZ (IntKind.wrap .u32 (rdZ c p)) 0) (n := decZ (IntKind.wrap .u32 (rdZ c p)) 4) (n' := decZ (slmW c N p) 4) (nr := nr) (d := IntKind.wrap .i64 (decZ (IntKind.wrap .u32 (rdZ c p)) 1)) (a := IntKind.wrap .i64 (decZ (IntKind.wrap .u32 (rdZ c p)) 2)) (b := IntKind.wrap .i64 (decZ (IntKind.wrap .u32 (rdZ c p)) 3)) hs hsB h.rg h.rm no.1 no.2 (by
    by_cases g : 36 ≤ decZ (IntKind.wrap .u32 (rdZ c p)) 0 ∧ decZ (IntKind.wrap .u32 (rdZ c p)) 0 ≤ 39
    ·exact .inl g
    ·exact .inr (d4' g))
   rw [← eA, ← eB] at hT
   obtain ⟨t1, t2, t3, t4⟩ := hT
   rcases t4 with ⟨s0, s1, u1, u2, u3, u4⟩ | ⟨addr, cost, u1, u2, u3, u4, u5⟩
   ·exact sl_keep h t1 t2 t3 s0 u1 u2 u3 u4
   ·refine sl_more h hN hpN h5 hst.2 hp hpB t1 t2 t3 u1 u2 u3 u4 fun hz => ?_
    rcases u5 with u5 | ⟨_, ⟨v1, v2, v3, v4⟩ | ⟨v1, v2, v3, v4⟩⟩
    ·omega
    ·rw [hp, e1] at v1
     rw [hpB2, w64 (by omega) (by omega)] at v2
     rw [v1, v2]
     refine ⟨by omega, fun hlt => reach h5 _ (.inl ⟨e1.symm, v3, no.1, v4⟩) (by omega) hlt, .inl ?_⟩
     unfold nuA
     have := n2
     rw [hj] at this
     rw [← this]
     rfl
    ·have hbr := dec_br (x := rdZ c p) ⟨v3, v4⟩
     have hn4 := hbr.2.2.2.2.2.1
     rw [v1, v2, d4 ⟨v3, v4⟩]
     refine ⟨hn4.1, fun hlt => reach h5 _ (.inr ⟨rfl, v3, by omega⟩) hn4.1 hlt, ?_⟩
     have hle := clt_le (c := plcZ c N) (t := decZ (IntKind.wrap .u32 (rdZ c p)) 4) hb.1 (by omega : plcN c N ≤ 1000000)
     unfold nwN nuA
     split
     ·exact .inl rfl
     ·exact .inr ⟨by omega, by omega⟩
  ·rw [if_pos h5] at eA eB
   rw [eA, eB]
   exact sl_keep h h.rg h.rm rfl (by show (3 : Int) ≠ 0; decide) rfl rfl rfl rfl
 ·left
  have h42 : decZ (IntKind.wrap .u32 (rdZ c p)) 0 = 42 := Classical.byContradiction fun g => hst ⟨hw, g⟩
  have h5 : decZ (IntKind.wrap .u32 (rdZ c p)) 5 = 0 := by omega
  rw [if_neg (by omega), h42, does_42] at eA
  have hsk := plc_skip hN hpN hst
  have epc : (A.step (decC c N) N nr).pc = (p : Int) + 1 := by rw [eA]; show IntKind.wrap .i64 (A.pc + 1) = _; rw [hp, e1]
  have est : (A.step (decC c N) N nr).st = 0 := by rw [eA]; exact hs
  refine ⟨sl_nop (addr := -1) (cost := opCo 42) h hN hpN h5 h42 hp (by rw [eA]; exact h.rg) (by rw [eA]; exact h.rm) (by rw [eA]; exact h.st) (by rw [eA]; rfl) (by rw [eA]; rfl) fun _ => ?_, est⟩
  rw [epc]
  refine ⟨by omega, fun hlt => reach h5 _ (.inl ⟨e1.symm, by omega, by omega, by omega⟩) (by omega) hlt, ?_⟩
  have : nuA c N ((p : Int) + 1) = nuA c N p := hsk
  rw [this]
  rw [hp] at r2
  exact r2
theorem sl_runs {c : Int} {N : Nat} {nr : Int} (hN : N ≤ 1000) (hE : slmE c N = 0) {A0 B0 : Mac} (h : Sl c N A0 B0) : ∀ k : Nat, ∃ j : Nat, j ≤ k ∧
  Sl c N (Mac.runs (decC c N) N nr k A0).1 (Mac.runs (decC (slmZ c N) (plcN c N).toNat) ((plcN c N).toNat : Nat) nr j B0).1 ∧ (Mac.runs (decC (slmZ c N) (plcN c N).toNat) ((plcN c N).toNat : Nat) nr j B0).2 = j
 | 0 => ⟨0, Nat.le_refl 0, h, rfl⟩
 | k + 1 => by
  obtain ⟨j, hj, hS, h2⟩ := sl_runs hN hE h k
  rw [qXu]
  by_cases g : (Mac.runs (decC c N) N nr k A0).1.st = 0
  ·rw [if_pos g]
   rcases sl_step (nr := nr) hN hE hS g with ⟨q, _⟩ | q
   ·exact ⟨j, by omega, q, h2⟩
   ·refine ⟨j + 1, by omega, ?_, ?_⟩
    ·rw [qXu, if_pos (hS.st.trans g)]
     exact q
    ·rw [qXu, if_pos (hS.st.trans g)]
     show _ + 1 = j + 1
     rw [h2]
  ·rw [if_neg g]
   exact ⟨j, by omega, hS, h2⟩
structure RunIs (R : Int) (A : Mac) : Prop where
 rg : rdZ R 0 = A.rg
 rm : rdZ R 1 = A.rm
 st : IntKind.wrap .i64 (rdZ R 3) = A.st
 mq : rdZ R 5 = A.mq
 nm : mkN R = A.nm
theorem run_is {w : Int} {N : Nat} {nr fuel rm : Int} (n0 : 0 ≤ nr) (n1 : nr ≤ 1000000) (hf : fuel ≤ 400000) :
  RunIs (runP (decW w N) N (qQq nr (qQq fuel (qQq (nuP rm) 0)))) (Mac.runs (decC w N) N nr fuel.toNat ⟨zeroZ 32, rm, 0, 0, 0, 0, 0⟩).1 ∧
  (Mac.runs (decC w N) N nr fuel.toNat ⟨zeroZ 32, rm, 0, 0, 0, 0, 0⟩).1.nm + trap (Mac.runs (decC w N) N nr fuel.toNat ⟨zeroZ 32, rm, 0, 0, 0, 0, 0⟩).1.st = (Mac.runs (decC w N) N nr fuel.toNat ⟨zeroZ 32, rm, 0, 0, 0, 0, 0⟩).2 ∧
  (Mac.runs (decC w N) N nr fuel.toNat ⟨zeroZ 32, rm, 0, 0, 0, 0, 0⟩).1.nm ≤ 400000 ∧ 0 ≤ (Mac.runs (decC w N) N nr fuel.toNat ⟨zeroZ 32, rm, 0, 0, 0, 0, 0⟩).1.nm := by
 have e0 : decW w N = decC w N := by unfold decW; rw [Int.toNat_natCast]
 have e1 := runP_code (decC w N) N nr fuel (nuP rm)
 rw [macM_nu] at e1
 have hI : Inv w rm N nr ⟨zeroZ 32, rm, 0, 0, 0, 0, 0⟩ := ⟨⟨by unfold I64; simp, by unfold I64; simp, by unfold I64; simp, Int.le_refl _⟩, rfl, fun i hi => by simp at hi; omega, fun i _ _ => .inr rfl⟩
 obtain ⟨hI2, hc⟩ := nx_runs hI rfl n0 n1 fuel.toNat
 have hst : (Mac.runs (decC w N) N nr fuel.toNat ⟨zeroZ 32, rm, 0, 0, 0, 0, 0⟩).2 ≤ fuel.toNat := by
  generalize fuel.toNat = k
  induction k with
  | zero => exact Nat.le_refl _
  | succ k ih =>
   rw [qXu]
   split
   ·show (Mac.runs (decC w N) N nr k _).2 + 1 ≤ k + 1
    omega
   ·omega
 rw [e0, e1]
 generalize Mac.runs (decC w N) N nr fuel.toNat ⟨zeroZ 32, rm, 0, 0, 0, 0, 0⟩ = r at *
 simp only at hc
 have hnm : r.1.nm ≤ 400000 := by
  have : 0 ≤ trap r.1.st := by unfold trap; split <;> omega
  omega
 obtain ⟨k0, k1, k2, k3, k4, k5, _⟩ := codeM_rd r.1 r.2
 refine ⟨⟨k0, k1, by rw [k3]; exact w64 hI2.ok.2.1.1 hI2.ok.2.1.2, k5, mkN_code hI2.ok (by omega) _⟩, by omega, hnm, hI2.ok.2.2.2⟩
theorem slim_runs {c : Int} {N : Nat} {nr S rm : Int} (hN : N ≤ 1000) (hE : slmE c N = 0) (n0 : 0 ≤ nr) (n1 : nr ≤ 1000000) (s0 : 0 ≤ S) (s1 : S ≤ 400000) :
  ∃ A B : Mac, Sl c N A B ∧ RunIs (runP (decW c N) N (qQq nr (qQq S (qQq (nuP rm) 0)))) A ∧ A.nm ≤ 400000 ∧ B.nm ≤ 400000 ∧
   ∀ F : Int, (A.st = 0 → F = B.nm) → (A.st ≠ 0 → F = S) → RunIs (runP (decW (slmZ c N) (plcN c N)) (plcN c N) (qQq nr (qQq F (qQq (nuP rm) 0)))) B := by
 have hb := qKd c N
 have hK : (((plcN c N).toNat : Nat) : Int) = plcN c N := Int.toNat_of_nonneg hb.1
 obtain ⟨j, hj, hS, h2⟩ := sl_runs (nr := nr) hN hE (sl_start (c := c) hN (zeroZ 32) rm) S.toNat
 obtain ⟨a1, a2, a3, a4⟩ := run_is (w := c) (N := N) (rm := rm) n0 n1 s1
 obtain ⟨b1, b2, b3, b4⟩ := run_is (w := slmZ c N) (N := (plcN c N).toNat) (nr := nr) (fuel := (j : Int)) (rm := rm) n0 n1 (by omega)
 rw [Int.toNat_natCast] at b1 b2 b3 b4
 rw [hK] at b1
 refine ⟨_, _, hS, a1, a3, b3, fun F f1 f2 => ?_⟩
 by_cases g : (Mac.runs (decC c N) N nr S.toNat ⟨zeroZ 32, rm, 0, 0, 0, 0, 0⟩).1.st = 0
 ·have hF := f1 g
  have hB := hS.st.trans g
  rw [hB] at b2
  have ht : trap 0 = 0 := rfl
  rw [ht, h2] at b2
  have : F = (j : Int) := by omega
  rw [this]
  exact b1
 ·have hF := f2 g
  have hB : (Mac.runs (decC (slmZ c N) (plcN c N).toNat) ((plcN c N).toNat : Nat) nr j ⟨zeroZ 32, rm, 0, 0, 0, 0, 0⟩).1.st ≠ 0 := by rw [hS.st]; exact g
  have hstop := runs_stop hB (S.toNat - j)
  obtain ⟨c1, _⟩ := run_is (w := slmZ c N) (N := (plcN c N).toNat) (nr := nr) (fuel := S) (rm := rm) n0 n1 s1
  rw [show j + (S.toNat - j) = S.toNat by omega] at hstop
  rw [hstop, hK] at c1
  rw [hF]
  exact c1
end Go.Eng
end
