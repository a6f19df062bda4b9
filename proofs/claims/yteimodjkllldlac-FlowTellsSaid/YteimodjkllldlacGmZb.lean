/-
  Parts of the engine, a program's symbolic run, proved sound; and of plain laws.
-/
import Derived.Test.YteimodjkllldlacGmZa
set_option linter.unusedVariables false
set_option linter.unusedSimpArgs false

/-!  -/
noncomputable section
namespace Go.Eng
theorem bo1 (x k : Int) : qQz (x == k) = if x = k then 1 else 0 := by
 unfold qQz
 by_cases e : x = k
 ·rw [if_pos e]; simp [e]
 ·rw [if_neg e]; simp [e]
theorem bo2 (x k : Int) : qQz (decide (x ≤ k)) = if x ≤ k then 1 else 0 := by
 unfold qQz
 by_cases e : x ≤ k
 ·rw [if_pos e]; simp [e]
 ·rw [if_neg e]; simp [e]
theorem nx_list {nr op a n pc nn R : Int} (p0 : 0 ≤ pc) (p1 : pc ≤ 20000) (n0 : -32768 ≤ n) (n1 : n ≤ 65535)
  (hn : nn = if ¬ qQz (op == 41) + qQz (op == 43) + (qQz (op == 34) + qQz (op == 35)) * qQz (a == 0) * qQz (decide (nr ≤ n)) = 0 then 0 else if ¬ qQz (op == 36) + qQz (op == 37) + qQz (op == 38) = 0 then 2 else 1)
  (hR : R = if ¬ qQz (op == 36) + qQz (op == 37) + qQz (op == 38) = 0 then qQq n (qQq (IntKind.wrap .i64 (pc + 1)) 0) else if ¬ qQz (op == 39) + qQz (op == 40) = 0 then qQq n 0 else qQq (IntKind.wrap .i64 (pc + 1)) 0) :
  (0 ≤ nn ∧ nn ≤ 2) ∧ (∀ j : Int, 0 ≤ j → j < nn → nxtP nr op a n pc (IntKind.wrap .i64 (rdZ R j))) ∧ (∀ t, nxtP nr op a n pc t → ∃ j : Int, 0 ≤ j ∧ j < nn ∧ IntKind.wrap .i64 (rdZ R j) = t) := by
 have hw : IntKind.wrap .i64 (pc + 1) = pc + 1 := w64 (by omega) (by omega)
 have hwn : IntKind.wrap .i64 n = n := w64 (by omega) (by omega)
 rw [hw] at hR
 have rd2 : ∀ x y : Int, rdZ (qQq x (qQq y 0)) 0 = x ∧ rdZ (qQq x (qQq y 0)) 1 = y := fun x y => by have h := qXt [x, y]; exact ⟨h 0, h 1⟩
 have rd1 : ∀ x : Int, rdZ (qQq x 0) 0 = x := fun x => qQb _ _
 have he : qQz (op == 41) + qQz (op == 43) + (qQz (op == 34) + qQz (op == 35)) * qQz (a == 0) * qQz (decide (nr ≤ n)) = 0 ↔ ¬ endsP nr op a n := by
  simp only [bo1, bo2]
  unfold endsP
  by_cases c1 : a = 0
  ·by_cases c2 : nr ≤ n
   ·simp only [if_pos c1, if_pos c2, Int.mul_one]
    (repeat' split) <;> omega
   ·simp only [if_neg c2, Int.mul_zero, Int.add_zero]
    (repeat' split) <;> omega
  ·simp only [if_neg c1, Int.mul_zero, Int.zero_mul, Int.add_zero]
   (repeat' split) <;> omega
 have hb : qQz (op == 36) + qQz (op == 37) + qQz (op == 38) = 0 ↔ ¬ (op = 36 ∨ op = 37 ∨ op = 38) := by
  simp only [bo1]
  (repeat' split) <;> omega
 have hj : qQz (op == 39) + qQz (op == 40) = 0 ↔ ¬ (op = 39 ∨ op = 40) := by
  simp only [bo1]
  (repeat' split) <;> omega
 simp only [hb, Classical.not_not] at hn
 simp only [hb, hj, Classical.not_not] at hR
 by_cases e : endsP nr op a n
 ·rw [if_pos fun k => (he.1 k) e] at hn
  subst hn
  exact ⟨by omega, fun j j0 j1 => by omega, fun t ht => absurd e ht.1⟩
 rw [if_neg fun k => k (he.2 e)] at hn
 by_cases c : op = 36 ∨ op = 37 ∨ op = 38
 ·rw [if_pos c] at hn hR
  subst hn hR
  obtain ⟨r0, r1⟩ := rd2 n (pc + 1)
  refine ⟨by omega, fun j j0 j1 => ?_, fun t ht => ?_⟩
  ·rcases (by omega : j = 0 ∨ j = 1) with rfl | rfl
   ·rw [r0, hwn]; exact ⟨e, .inl ⟨c, .inl rfl⟩⟩
   ·rw [r1, hw]; exact ⟨e, .inl ⟨c, .inr rfl⟩⟩
  ·rcases ht.2 with ⟨_, h | h⟩ | ⟨h, _⟩ | ⟨h, _⟩
   ·exact ⟨0, by omega, by omega, by rw [r0, hwn, h]⟩
   ·exact ⟨1, by omega, by omega, by rw [r1, hw, h]⟩
   ·omega
   ·omega
 rw [if_neg c] at hn hR
 by_cases g : op = 39 ∨ op = 40
 ·rw [if_pos g] at hR
  subst hn hR
  refine ⟨by omega, fun j j0 j1 => ?_, fun t ht => ?_⟩
  ·obtain rfl : j = 0 := by omega
   rw [rd1, hwn]; exact ⟨e, .inr (.inl ⟨g, rfl⟩)⟩
  ·rcases ht.2 with ⟨h, _⟩ | ⟨_, h⟩ | ⟨h, _⟩
   ·omega
   ·exact ⟨0, by omega, by omega, by rw [rd1, hwn, h]⟩
   ·omega
 ·rw [if_neg g] at hR
  subst hn hR
  refine ⟨by omega, fun j j0 j1 => ?_, fun t ht => ?_⟩
  ·obtain rfl : j = 0 := by omega
   rw [rd1, hw]; exact ⟨e, .inr (.inr ⟨by omega, rfl⟩)⟩
  ·rcases ht.2 with ⟨h, _⟩ | ⟨h, _⟩ | ⟨_, h⟩
   ·omega
   ·omega
   ·exact ⟨0, by omega, by omega, by rw [rd1, hw, h]⟩
structure UpS (q q' t : Int) (V : Int → Prop) (k : Int) : Prop where
 oth : ∀ p f, 0 ≤ p → p ≠ t → 0 ≤ f → f < 33 → (bT q' p f ↔ bT q p f)
 re : bT q' t 0
 lo : ∀ r, 0 ≤ r → r < k → (bT q' t (1 + r) ↔ V r)
 hi : ∀ r, k ≤ r → r < 32 → (bT q' t (1 + r) ↔ bT q t (1 + r))
theorem bT_upd {q t x p f : Int} : bT (updZ q t x) p f ↔ if p.toNat = t.toNat then rdZ x f ≠ 0 else bT q p f := by
 unfold bT
 rw [qQh]
 by_cases e : p.toNat = t.toNat
 ·rw [if_pos e, if_pos e]
 ·rw [if_neg e, if_neg e]
theorem ups_start {q t v : Int} {V : Int → Prop} (t0 : 0 ≤ t) (hv : v ≠ 0) : UpS q (updZ q t (updZ (rdZ q t) 0 v)) t V 0 := by
 refine ⟨fun p f p0 hp f0 f1 => ?_, ?_, fun r r0 r1 => by omega, fun r r0 r1 => ?_⟩
 ·rw [bT_upd, if_neg (by omega)]
 ·rw [bT_upd, if_pos rfl, qQh, if_pos rfl]; exact hv
 ·rw [bT_upd, if_pos rfl, qQh, if_neg (by omega)]; exact Iff.rfl
theorem ups_step {q q' t v k : Int} {V : Int → Prop} (h : UpS q q' t V k) (t0 : 0 ≤ t) (k0 : 0 ≤ k) (hv : v ≠ 0 ↔ V k) : UpS q (updZ q' t (updZ (rdZ q' t) (1 + k) v)) t V (k + 1) := by
 refine ⟨fun p f p0 hp f0 f1 => ?_, ?_, fun r r0 r1 => ?_, fun r r0 r1 => ?_⟩
 ·rw [bT_upd, if_neg (by omega)]; exact h.oth p f p0 hp f0 f1
 ·rw [bT_upd, if_pos rfl, qQh, if_neg (by omega)]; exact h.re
 ·rw [bT_upd, if_pos rfl, qQh]
  by_cases e : r = k
  ·subst e; rw [if_pos rfl]; exact hv
  ·rw [if_neg (by omega)]; exact h.lo r r0 (by omega)
 ·rw [bT_upd, if_pos rfl, qQh, if_neg (by omega)]; exact h.hi r (by omega) r1
theorem ups_end {q q' t : Int} {V Y : Int → Prop} (h : UpS q q' t V 32) (hv : ∀ r, 0 ≤ r → r < 32 → (V r ↔ bT q t (1 + r) ∨ Y r)) : UpQ q q' t Y :=
 ⟨h.oth, h.re, fun r r0 r1 => (h.lo r r0 r1).trans (hv r r0 r1)⟩
end Go.Eng
end
