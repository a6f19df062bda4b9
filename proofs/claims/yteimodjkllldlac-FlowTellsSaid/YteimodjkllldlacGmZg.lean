/-
  Parts of the engine, a program's symbolic run, proved sound; and of plain laws.
-/
import Derived.Test.YteimodjkllldlacGmZf
set_option linter.unusedVariables false
set_option linter.unusedSimpArgs false

/-!  -/
noncomputable section
namespace Go.Eng
def c32 (X : Int) : Int := (qQq (rdZ X 1) (qQq (rdZ X 2) (qQq (rdZ X 3) (qQq (rdZ X 4) (qQq (rdZ X 5) (qQq (rdZ X 6) (qQq (rdZ X 7) (qQq (rdZ X 8) (qQq (rdZ X 9) (qQq (rdZ X 10) (qQq (rdZ X 11) (qQq (rdZ X 12) (qQq (rdZ X 13) (qQq (rdZ X 14) (qQq (rdZ X 15) (qQq (rdZ X 16) (qQq (rdZ X 17) (qQq (rdZ X 18) (qQq (rdZ X 19) (qQq (rdZ X 20) (qQq (rdZ X 21) (qQq (rdZ X 22) (qQq (rdZ X 23) (qQq (rdZ X 24) (qQq (rdZ X 25) (qQq (rdZ X 26) (qQq (rdZ X 27) (qQq (rdZ X 28) (qQq (rdZ X 29) (qQq (rdZ X 30) (qQq (rdZ X 31) (qQq (rdZ X 32) 0))))))))))))))))))))))))))))))))
def r33 (x U : Int) : Int := (qQq x (qQq (rdZ U 0) (qQq (rdZ U 1) (qQq (rdZ U 2) (qQq (rdZ U 3) (qQq (rdZ U 4) (qQq (rdZ U 5) (qQq (rdZ U 6) (qQq (rdZ U 7) (qQq (rdZ U 8) (qQq (rdZ U 9) (qQq (rdZ U 10) (qQq (rdZ U 11) (qQq (rdZ U 12) (qQq (rdZ U 13) (qQq (rdZ U 14) (qQq (rdZ U 15) (qQq (rdZ U 16) (qQq (rdZ U 17) (qQq (rdZ U 18) (qQq (rdZ U 19) (qQq (rdZ U 20) (qQq (rdZ U 21) (qQq (rdZ U 22) (qQq (rdZ U 23) (qQq (rdZ U 24) (qQq (rdZ U 25) (qQq (rdZ U 26) (qQq (rdZ U 27) (qQq (rdZ U 28) (qQq (rdZ U 29) (qQq (rdZ U 30) (qQq (rdZ U 31) 0)))))))))))))))))))))))))))))))))
def f33 (X : Int) : Int := (qQq (rdZ X 0) (qQq (rdZ X 1) (qQq (rdZ X 2) (qQq (rdZ X 3) (qQq (rdZ X 4) (qQq (rdZ X 5) (qQq (rdZ X 6) (qQq (rdZ X 7) (qQq (rdZ X 8) (qQq (rdZ X 9) (qQq (rdZ X 10) (qQq (rdZ X 11) (qQq (rdZ X 12) (qQq (rdZ X 13) (qQq (rdZ X 14) (qQq (rdZ X 15) (qQq (rdZ X 16) (qQq (rdZ X 17) (qQq (rdZ X 18) (qQq (rdZ X 19) (qQq (rdZ X 20) (qQq (rdZ X 21) (qQq (rdZ X 22) (qQq (rdZ X 23) (qQq (rdZ X 24) (qQq (rdZ X 25) (qQq (rdZ X 26) (qQq (rdZ X 27) (qQq (rdZ X 28) (qQq (rdZ X 29) (qQq (rdZ X 30) (qQq (rdZ X 31) (qQq (rdZ X 32) 0)))))))))))))))))))))))))))))))))
theorem c32_def (X : Int) : (qQq (rdZ X 1) (qQq (rdZ X 2) (qQq (rdZ X 3) (qQq (rdZ X 4) (qQq (rdZ X 5) (qQq (rdZ X 6) (qQq (rdZ X 7) (qQq (rdZ X 8) (qQq (rdZ X 9) (qQq (rdZ X 10) (qQq (rdZ X 11) (qQq (rdZ X 12) (qQq (rdZ X 13) (qQq (rdZ X 14) (qQq (rdZ X 15) (qQq (rdZ X 16) (qQq (rdZ X 17) (qQq (rdZ X 18) (qQq (rdZ X 19) (qQq (rdZ X 20) (qQq (rdZ X 21) (qQq (rdZ X 22) (qQq (rdZ X 23) (qQq (rdZ X 24) (qQq (rdZ X 25) (qQq (rdZ X 26) (qQq (rdZ X 27) (qQq (rdZ X 28) (qQq (rdZ X 29) (qQq (rdZ X 30) (qQq (rdZ X 31) (qQq (rdZ X 32) 0)))))))))))))))))))))))))))))))) = c32 X := rfl
theorem r33_def (x U : Int) : (qQq x (qQq (rdZ U 0) (qQq (rdZ U 1) (qQq (rdZ U 2) (qQq (rdZ U 3) (qQq (rdZ U 4) (qQq (rdZ U 5) (qQq (rdZ U 6) (qQq (rdZ U 7) (qQq (rdZ U 8) (qQq (rdZ U 9) (qQq (rdZ U 10) (qQq (rdZ U 11) (qQq (rdZ U 12) (qQq (rdZ U 13) (qQq (rdZ U 14) (qQq (rdZ U 15) (qQq (rdZ U 16) (qQq (rdZ U 17) (qQq (rdZ U 18) (qQq (rdZ U 19) (qQq (rdZ U 20) (qQq (rdZ U 21) (qQq (rdZ U 22) (qQq (rdZ U 23) (qQq (rdZ U 24) (qQq (rdZ U 25) (qQq (rdZ U 26) (qQq (rdZ U 27) (qQq (rdZ U 28) (qQq (rdZ U 29) (qQq (rdZ U 30) (qQq (rdZ U 31) 0))))))))))))))))))))))))))))))))) = r33 x U := rfl
theorem f33_def (X : Int) : (qQq (rdZ X 0) (qQq (rdZ X 1) (qQq (rdZ X 2) (qQq (rdZ X 3) (qQq (rdZ X 4) (qQq (rdZ X 5) (qQq (rdZ X 6) (qQq (rdZ X 7) (qQq (rdZ X 8) (qQq (rdZ X 9) (qQq (rdZ X 10) (qQq (rdZ X 11) (qQq (rdZ X 12) (qQq (rdZ X 13) (qQq (rdZ X 14) (qQq (rdZ X 15) (qQq (rdZ X 16) (qQq (rdZ X 17) (qQq (rdZ X 18) (qQq (rdZ X 19) (qQq (rdZ X 20) (qQq (rdZ X 21) (qQq (rdZ X 22) (qQq (rdZ X 23) (qQq (rdZ X 24) (qQq (rdZ X 25) (qQq (rdZ X 26) (qQq (rdZ X 27) (qQq (rdZ X 28) (qQq (rdZ X 29) (qQq (rdZ X 30) (qQq (rdZ X 31) (qQq (rdZ X 32) 0))))))))))))))))))))))))))))))))) = f33 X := rfl
theorem get_map (f : Nat → Int) (n k : Nat) (h : k < n) : ((List.range n).map f).getD k 0 = f k := by
 rw [List.getD_eq_getElem?_getD, List.getElem?_map, List.getElem?_range h]; rfl
theorem c32_rd (X : Int) (k : Nat) (h : k < 32) : rdZ (c32 X) k = rdZ X ((k + 1 : Nat) : Int) := by
 have e : c32 X = chn ((List.range 32).map fun (k : Nat) => rdZ X ((k + 1 : Nat) : Int)) := rfl
 rw [e, qXt, get_map _ _ _ h]
theorem r33_rd (x U : Int) (k : Nat) (h : k < 33) : rdZ (r33 x U) k = if k = 0 then x else rdZ U ((k - 1 : Nat) : Int) := by
 have e : r33 x U = chn ((List.range 33).map fun (k : Nat) => if k = 0 then x else rdZ U ((k - 1 : Nat) : Int)) := rfl
 rw [e, qXt, get_map _ _ _ h]
theorem bhc_rd (op d z : Int) (k : Nat) (h : k < 33) : rdZ (bhcZ op d z) k = bhvZ op d (LZ [rdZ z 0, rdZ z 1, rdZ z 2, rdZ z 3, rdZ z 4, rdZ z 5, (k : Int)]) := by
 unfold bhcZ
 rw [rdZ_LZ, Int.toNat_natCast, get_map _ _ _ h]
theorem ro7 (a b c d e f g : Int) : (rdZ (LZ [a, b, c, d, e, f, g]) 0 = a ∧ rdZ (LZ [a, b, c, d, e, f, g]) 1 = b ∧ rdZ (LZ [a, b, c, d, e, f, g]) 2 = c) ∧ rdZ (LZ [a, b, c, d, e, f, g]) 3 = d ∧ rdZ (LZ [a, b, c, d, e, f, g]) 4 = e ∧ rdZ (LZ [a, b, c, d, e, f, g]) 5 = f ∧ rdZ (LZ [a, b, c, d, e, f, g]) 6 = g := by
 simp only [rdZ_LZ]; exact ⟨⟨rfl, rfl, rfl⟩, rfl, rfl, rfl, rfl⟩
theorem ch6 (a b c d e f : Int) : (rdZ (qQq a (qQq b (qQq c (qQq d (qQq e (qQq f 0)))))) 0 = a ∧ rdZ (qQq a (qQq b (qQq c (qQq d (qQq e (qQq f 0)))))) 1 = b ∧ rdZ (qQq a (qQq b (qQq c (qQq d (qQq e (qQq f 0)))))) 2 = c) ∧
  rdZ (qQq a (qQq b (qQq c (qQq d (qQq e (qQq f 0)))))) 3 = d ∧ rdZ (qQq a (qQq b (qQq c (qQq d (qQq e (qQq f 0)))))) 4 = e ∧ rdZ (qQq a (qQq b (qQq c (qQq d (qQq e (qQq f 0)))))) 5 = f := by
 have h := qXt [a, b, c, d, e, f]
 exact ⟨⟨h 0, h 1, h 2⟩, h 3, h 4, h 5⟩
theorem bh_ne (op d a b n nr cS X : Int) {z : Int} (hz : z = qQq a (qQq b (qQq n (qQq nr (qQq cS (qQq X 0)))))) (k : Nat) (h : k < 33) :
  rdZ (bhcZ op d z) k ≠ 0 ↔ if k = 0 then rdZ X 0 ≠ 0 else behS nr cS op d a b n (fun r => rdZ X (1 + r) ≠ 0) ((k : Int) - 1) := by
 subst hz
 rw [bhc_rd _ _ _ k h]
 obtain ⟨⟨e0, e1, e2⟩, e3, e4, e5⟩ := ch6 a b n nr cS X
 rw [e0, e1, e2, e3, e4, e5]
 obtain ⟨⟨f0, f1, f2⟩, f3, f4, f5, f6⟩ := ro7 a b n nr cS X k
 unfold bhvZ
 rw [f0, f1, f2, f3, f4, f5, f6]
 by_cases e : k = 0
 ·subst e
  rw [if_pos (show ((0 : Nat) : Int) = 0 from rfl), if_pos rfl]
  by_cases g : rdZ X 0 ≠ 0
  ·rw [if_pos g]; exact ⟨fun _ => g, fun _ => by decide⟩
  ·rw [if_neg g]; exact ⟨fun k => absurd rfl k, fun k => absurd k g⟩
 ·rw [if_neg (by omega), if_neg e]
  by_cases g : behS nr cS op d a b n (fun r => rdZ X (1 + r) ≠ 0) ((k : Int) - 1)
  ·rw [if_pos g]; exact ⟨fun _ => g, fun _ => by decide⟩
  ·rw [if_neg g]; exact ⟨fun k => absurd rfl k, fun k => absurd k g⟩
theorem row_b {R Q n : Int} (h : ∀ k : Nat, (k : Int) < n → (rdZ R k ≠ 0 ↔ rdZ Q k ≠ 0)) : qQe [.bool] R Q n := by
 intro i hi
 show [Value.bool (rdZ R i != 0)] = [Value.bool (rdZ Q i != 0)]
 have := h i (by omega)
 by_cases e : rdZ R i = 0
 ·have g : rdZ Q i = 0 := Classical.byContradiction fun k => (this.2 k) e
  rw [e, g]
 ·have g := this.1 e
  have e1 : (rdZ R i != 0) = true := by simpa using e
  have g1 : (rdZ Q i != 0) = true := by simpa using g
  rw [e1, g1]
theorem bh_put {op d a b n nr cS X v : Int} (d0 : 0 ≤ d) (d1 : d ≤ 31) (hp : putsP op) (hv : v ≠ 0 ↔ dsec nr cS op a b n (fun r => rdZ X (1 + r) ≠ 0) ∧ d ≠ 0) :
  qQe [.bool] (r33 (rdZ X 0) (updZ (c32 X) d v)) (bhcZ op d (qQq a (qQq b (qQq n (qQq nr (qQq cS (qQq X 0))))))) 33 := by
 refine row_b fun k hk => ?_
 rw [bh_ne op d a b n nr cS X rfl k (by omega), r33_rd _ _ k (by omega)]
 by_cases e : k = 0
 ·rw [if_pos e, if_pos e]
 ·rw [if_neg e, if_neg e, qQh]
  obtain ⟨j, rfl⟩ : ∃ j, k = j + 1 := ⟨k - 1, by omega⟩
  rw [show j + 1 - 1 = j by omega]
  unfold behS
  by_cases g : (j : Int) = d
  ·rw [if_pos (by omega), hv]
   constructor
   ·rintro ⟨h1, h2⟩; exact .inl ⟨hp, .inl ⟨by omega, h1, h2⟩⟩
   ·rintro (⟨_, ⟨_, h1, h2⟩ | ⟨h1, _⟩⟩ | ⟨h1, _⟩)
    ·exact ⟨h1, h2⟩
    ·exact absurd (by omega) h1
    ·exact absurd hp h1
  ·rw [if_neg (by omega), c32_rd X j (by omega)]
   have e1 : rdZ X (1 + ((j + 1 : Nat) - 1 : Int)) = rdZ X ((j + 1 : Nat) : Int) := by congr 1; omega
   constructor
   ·intro h; exact .inl ⟨hp, .inr ⟨by omega, by show rdZ X (1 + (((j + 1 : Nat) : Int) - 1)) ≠ 0; rw [e1]; exact h⟩⟩
   ·rintro (⟨_, ⟨h1, _⟩ | ⟨_, h1⟩⟩ | ⟨h1, _⟩)
    ·exact absurd h1 (by omega)
    ·have h1 : rdZ X (1 + (((j + 1 : Nat) : Int) - 1)) ≠ 0 := h1
     rw [e1] at h1; exact h1
    ·exact absurd hp h1
theorem bh_notX {op d a b n nr cS X : Int} (hp : ¬ putsP op) : qQe [.bool] X (bhcZ op d (qQq a (qQq b (qQq n (qQq nr (qQq cS (qQq X 0))))))) 33 := by
 refine row_b fun k hk => ?_
 rw [bh_ne op d a b n nr cS X rfl k (by omega)]
 by_cases e : k = 0
 ·rw [if_pos e, e]; rfl
 ·rw [if_neg e]
  have e1 : rdZ X (1 + ((k : Int) - 1)) = rdZ X k := by congr 1; omega
  unfold behS
  constructor
  ·intro h; exact .inr ⟨hp, by show rdZ X (1 + ((k : Int) - 1)) ≠ 0; rw [e1]; exact h⟩
  ·rintro (⟨h1, _⟩ | ⟨_, h1⟩)
   ·exact absurd h1 hp
   ·have h1 : rdZ X (1 + ((k : Int) - 1)) ≠ 0 := h1
    rw [e1] at h1; exact h1
end Go.Eng
end
