/-
  Parts of the engine, a program's symbolic run, proved sound; and of plain laws.
-/
import Derived.Test.YteimodjkllldlacGp3
set_option linter.unusedVariables false
set_option linter.unusedSimpArgs false
/-!  -/
noncomputable section
namespace Go.Eng
def c32 (X : Int) : Int := (qQq (rdZ X 1) (qQq (rdZ X 2) (qQq (rdZ X 3) (qQq (rdZ X 4) (qQq (rdZ X 5) (qQq (rdZ X 6) (qQq (rdZ X 7) (qQq (rdZ X 8) (qQq (rdZ X 9) (qQq (rdZ X 10) (qQq (rdZ X 11) (qQq (rdZ X 12) (qQq (rdZ X 13) (qQq (rdZ X 14) (qQq (rdZ X 15) (qQq (rdZ X 16) (qQq (rdZ X 17) (qQq (rdZ X 18) (qQq (rdZ X 19) (qQq (rdZ X 20) (qQq (rdZ X 21) (qQq (rdZ X 22) (qQq (rdZ X 23) (qQq (rdZ X 24) (qQq (rdZ X 25) (qQq (rdZ X 26) (qQq (rdZ X 27) (qQq (rdZ X 28) (qQq (rdZ X 29) (qQq (rdZ X 30) (qQq (rdZ X 31) (qQq (rdZ X 32) 0))))))))))))))))))))))))))))))))
def r33 (x U : Int) : Int := (qQq x (qQq (rdZ U 0) (qQq (rdZ U 1) (qQq (rdZ U 2) (qQq (rdZ U 3) (qQq (rdZ U 4) (qQq (rdZ U 5) (qQq (rdZ U 6) (qQq (rdZ U 7) (qQq (rdZ U 8) (qQq (rdZ U 9) (qQq (rdZ U 10) (qQq (rdZ U 11) (qQq (rdZ U 12) (qQq (rdZ U 13) (qQq (rdZ U 14) (qQq (rdZ U 15) (qQq (rdZ U 16) (qQq (rdZ U 17) (qQq (rdZ U 18) (qQq (rdZ U 19) (qQq (rdZ U 20) (qQq (rdZ U 21) (qQq (rdZ U 22) (qQq (rdZ U 23) (qQq (rdZ U 24) (qQq (rdZ U 25) (qQq (rdZ U 26) (qQq (rdZ U 27) (qQq (rdZ U 28) (qQq (rdZ U 29) (qQq (rdZ U 30) (qQq (rdZ U 31) 0)))))))))))))))))))))))))))))))))
def f33 (X : Int) : Int := (qQq (rdZ X 0) (qQq (rdZ X 1) (qQq (rdZ X 2) (qQq (rdZ X 3) (qQq (rdZ X 4) (qQq (rdZ X 5) (qQq (rdZ X 6) (qQq (rdZ X 7) (qQq (rdZ X 8) (qQq (rdZ X 9) (qQq (rdZ X 10) (qQq (rdZ X 11) (qQq (rdZ X 12) (qQq (rdZ X 13) (qQq (rdZ X 14) (qQq (rdZ X 15) (qQq (rdZ X 16) (qQq (rdZ X 17) (qQq (rdZ X 18) (qQq (rdZ X 19) (qQq (rdZ X 20) (qQq (rdZ X 21) (qQq (rdZ X 22) (qQq (rdZ X 23) (qQq (rdZ X 24) (qQq (rdZ X 25) (qQq (rdZ X 26) (qQq (rdZ X 27) (qQq (rdZ X 28) (qQq (rdZ X 29) (qQq (rdZ X 30) (qQq (rdZ X 31) (qQq (rdZ X 32) 0)))))))))))))))))))))))))))))))))
theorem c32_def (X : Int) : (qQq (rdZ X 1) (qQq (rdZ X 2) (qQq (rdZ X 3) (qQq (rdZ X 4) (qQq (rdZ X 5) (qQq (rdZ X 6) (qQq (rdZ X 7) (qQq (rdZ X 8) (qQq (rdZ X 9) (qQq (rdZ X 10) (qQq (rdZ X 11) (qQq (rdZ X 12) (qQq (rdZ X 13) (qQq (rdZ X 14) (qQq (rdZ X 15) (qQq (rdZ X 16) (qQq (rdZ X 17) (qQq (rdZ X 18) (qQq (rdZ X 19) (qQq (rdZ X 20) (qQq (rdZ X 21) (qQq (rdZ X 22) (qQq (rdZ X 23) (qQq (rdZ X 24) (qQq (rdZ X 25) (qQq (rdZ X 26) (qQq (rdZ X 27) (qQq (rdZ X 28) (qQq (rdZ X 29) (qQq (rdZ X 30) (qQq (rdZ X 31) (qQq (rdZ X 32) 0)))))))))))))))))))))))))))))))) = c32 X := rfl
theorem r33_def (x U : Int) : (qQq x (qQq (rdZ U 0) (qQq (rdZ U 1) (qQq (rdZ U 2) (qQq (rdZ U 3) (qQq (rdZ U 4) (qQq (rdZ U 5) (qQq (rdZ U 6) (qQq (rdZ U 7) (qQq (rdZ U 8) (qQq (rdZ U 9) (qQq (rdZ U 10) (qQq (rdZ U 11) (qQq (rdZ U 12) (qQq (rdZ U 13) (qQq (rdZ U 14) (qQq (rdZ U 15) (qQq (rdZ U 16) (qQq (rdZ U 17) (qQq (rdZ U 18) (qQq (rdZ U 19) (qQq (rdZ U 20) (qQq (rdZ U 21) (qQq (rdZ U 22) (qQq (rdZ U 23) (qQq (rdZ U 24) (qQq (rdZ U 25) (qQq (rdZ U 26) (qQq (rdZ U 27) (qQq (rdZ U 28) (qQq (rdZ U 29) (qQq (rdZ U 30) (qQq (rdZ U 31) 0))))))))))))))))))))))))))))))))) = r33 x U := rfl
theorem f33_def (X : Int) : (qQq (rdZ X 0) (qQq (rdZ X 1) (qQq (rdZ X 2) (qQq (rdZ X 3) (qQq (rdZ X 4) (qQq (rdZ X 5) (qQq (rdZ X 6) (qQq (rdZ X 7) (qQq (rdZ X 8) (qQq (rdZ X 9) (qQq (rdZ X 10) (qQq (rdZ X 11) (qQq (rdZ X 12) (qQq (rdZ X 13) (qQq (rdZ X 14) (qQq (rdZ X 15) (qQq (rdZ X 16) (qQq (rdZ X 17) (qQq (rdZ X 18) (qQq (rdZ X 19) (qQq (rdZ X 20) (qQq (rdZ X 21) (qQq (rdZ X 22) (qQq (rdZ X 23) (qQq (rdZ X 24) (qQq (rdZ X 25) (qQq (rdZ X 26) (qQq (rdZ X 27) (qQq (rdZ X 28) (qQq (rdZ X 29) (qQq (rdZ X 30) (qQq (rdZ X 31) (qQq (rdZ X 32) 0))))))))))))))))))))))))))))))))) = f33 X := rfl
theorem get_map (f : Nat → Int) (n k : Nat) (h : k < n) : ((List.range n).map f).getD k 0 = f k := by
 rw [List.getD_eq_getElem?_getD, List.getElem?_map, List.getElem?_range h]; rfl
theorem c32_rd (X : Int) (k : Nat) (h : k < 32) : rdZ (c32 X) k = rdZ X ((k + 1 : Nat) : Int) := by
 have e : c32 X = chn ((List.range 32).map fun (k : Nat) => rdZ X ((k + 1 : Nat) : Int)) := rfl
 rw [e, qXp, get_map _ _ _ h]
theorem r33_rd (x U : Int) (k : Nat) (h : k < 33) : rdZ (r33 x U) k = if k = 0 then x else rdZ U ((k - 1 : Nat) : Int) := by
 have e : r33 x U = chn ((List.range 33).map fun (k : Nat) => if k = 0 then x else rdZ U ((k - 1 : Nat) : Int)) := rfl
 rw [e, qXp, get_map _ _ _ h]
theorem bhc_rd (op d z : Int) (k : Nat) (h : k < 33) : rdZ (bhcZ op d z) k = bhvZ op d (LZ [rdZ z 0, rdZ z 1, rdZ z 2, rdZ z 3, rdZ z 4, rdZ z 5, (k : Int)]) := by
 unfold bhcZ
 rw [rdZ_LZ, Int.toNat_natCast, get_map _ _ _ h]
theorem ro7 (a b c d e f g : Int) : (rdZ (LZ [a, b, c, d, e, f, g]) 0 = a ∧ rdZ (LZ [a, b, c, d, e, f, g]) 1 = b ∧ rdZ (LZ [a, b, c, d, e, f, g]) 2 = c) ∧ rdZ (LZ [a, b, c, d, e, f, g]) 3 = d ∧ rdZ (LZ [a, b, c, d, e, f, g]) 4 = e ∧ rdZ (LZ [a, b, c, d, e, f, g]) 5 = f ∧ rdZ (LZ [a, b, c, d, e, f, g]) 6 = g := by
 simp only [rdZ_LZ]; exact ⟨⟨rfl, rfl, rfl⟩, rfl, rfl, rfl, rfl⟩
theorem ch6 (a b c d e f : Int) : (rdZ (qQq a (qQq b (qQq c (qQq d (qQq e (qQq f 0)))))) 0 = a ∧ rdZ (qQq a (qQq b (qQq c (qQq d (qQq e (qQq f 0)))))) 1 = b ∧ rdZ (qQq a (qQq b (qQq c (qQq d (qQq e (qQq f 0)))))) 2 = c) ∧
  rdZ (qQq a (qQq b (qQq c (qQq d (qQq e (qQq f 0)))))) 3 = d ∧ rdZ (qQq a (qQq b (qQq c (qQq d (qQq e (qQq f 0)))))) 4 = e ∧ rdZ (qQq a (qQq b (qQq c (qQq d (qQq e (qQq f 0)))))) 5 = f := by
 have h := qXp [a, b, c, d, e, f]
 exact ⟨⟨h 0, h 1, h 2⟩, h 3, h 4, h 5⟩
theorem bh_ne (op d a b n nr cS X : Int) {z : Int} (hz : z = qQq a (qQq b (qQq n (qQq nr (qQq cS (qQq X 0)))))) (k : Nat) (h : k < 33) :
  rdZ (bhcZ op d z) k ≠ 0 ↔ if k = 0 then rdZ X 0 ≠ 0 else behS nr cS op d a b n (fun r => rdZ X (1 + r) ≠ 0) ((k : Int) - 1) := by
 subst hz
 rw [bhc_rd _ _ _ k h]
 obtain ⟨⟨e0, e1, e2⟩, e3, e4, e5⟩ := ch6 a b n nr cS X
 rw [e0, e1, e2, e3, e4, e5]
 obtain ⟨⟨f0, f1, f2⟩, f3, f4, f5, f6⟩ := ro7 a b n nr cS X k
 unfold bhvZ
 rw [f0, f1, f2, f3, f4, f5, f6]
 by_cases e : k = 0
 ·subst e
  rw [if_pos (show ((0 : Nat) : Int) = 0 from rfl), if_pos rfl]
  by_cases g : rdZ X 0 ≠ 0
  ·rw [if_pos g]; exact ⟨fun _ => g, fun _ => by decide⟩
  ·rw [if_neg g]; exact ⟨fun k => absurd rfl k, fun k => absurd k g⟩
 ·rw [if_neg (by omega), if_neg e]
  by_cases g : behS nr cS op d a b n (fun r => rdZ X (1 + r) ≠ 0) ((k : Int) - 1)
  ·rw [if_pos g]; exact ⟨fun _ => g, fun _ => by decide⟩
  ·rw [if_neg g]; exact ⟨fun k => absurd rfl k, fun k => absurd k g⟩
theorem row_b {R Q n : Int} (h : ∀ k : Nat, (k : Int) < n → (rdZ R k ≠ 0 ↔ rdZ Q k ≠ 0)) : qQf [.bool] R Q n := by
 intro i hi
 show [Value.bool (rdZ R i != 0)] = [Value.bool (rdZ Q i != 0)]
 have := h i (by omega)
 by_cases e : rdZ R i = 0
 ·have g : rdZ Q i = 0 := Classical.byContradiction fun k => (this.2 k) e
  rw [e, g]
 ·have g := this.1 e
  have e1 : (rdZ R i != 0) = true := by simpa using e
  have g1 : (rdZ Q i != 0) = true := by simpa using g
  rw [e1, g1]
theorem bh_put {op d a b n nr cS X v : Int} (d0 : 0 ≤ d) (d1 : d ≤ 31) (hp : putsP op) (hv : v ≠ 0 ↔ dsec nr cS op a b n (fun r => rdZ X (1 + r) ≠ 0) ∧ d ≠ 0) :
  qQf [.bool] (r33 (rdZ X 0) (updZ (c32 X) d v)) (bhcZ op d (qQq a (qQq b (qQq n (qQq nr (qQq cS (qQq X 0))))))) 33 := by
 refine row_b fun k hk => ?_
 rw [bh_ne op d a b n nr cS X rfl k (by omega), r33_rd _ _ k (by omega)]
 by_cases e : k = 0
 ·rw [if_pos e, if_pos e]
 ·rw [if_neg e, if_neg e, qQh]
  obtain ⟨j, rfl⟩ : ∃ j, k = j + 1 := ⟨k - 1, by omega⟩
  rw [show j + 1 - 1 = j by omega]
  unfold behS
  by_cases g : (j : Int) = d
  ·rw [if_pos (by omega), hv]
   constructor
   ·rintro ⟨h1, h2⟩; exact .inl ⟨hp, .inl ⟨by omega, h1, h2⟩⟩
   ·rintro (⟨_, ⟨_, h1, h2⟩ | ⟨h1, _⟩⟩ | ⟨h1, _⟩)
    ·exact ⟨h1, h2⟩
    ·exact absurd (by omega) h1
    ·exact absurd hp h1
  ·rw [if_neg (by omega), c32_rd X j (by omega)]
   have e1 : rdZ X (1 + ((j + 1 : Nat) - 1 : Int)) = rdZ X ((j + 1 : Nat) : Int) := by congr 1; omega
   constructor
   ·intro h; exact .inl ⟨hp, .inr ⟨by omega, by show rdZ X (1 + (((j + 1 : Nat) : Int) - 1)) ≠ 0; rw [e1]; exact h⟩⟩
   ·rintro (⟨_, ⟨h1, _⟩ | ⟨_, h1⟩⟩ | ⟨h1, _⟩)
    ·exact absurd h1 (by omega)
    ·have h1 : rdZ X (1 + (((j + 1 : Nat) : Int) - 1)) ≠ 0 := h1
     rw [e1] at h1; exact h1
    ·exact absurd hp h1
theorem bh_notX {op d a b n nr cS X : Int} (hp : ¬ putsP op) : qQf [.bool] X (bhcZ op d (qQq a (qQq b (qQq n (qQq nr (qQq cS (qQq X 0))))))) 33 := by
 refine row_b fun k hk => ?_
 rw [bh_ne op d a b n nr cS X rfl k (by omega)]
 by_cases e : k = 0
 ·rw [if_pos e, e]; rfl
 ·rw [if_neg e]
  have e1 : rdZ X (1 + ((k : Int) - 1)) = rdZ X k := by congr 1; omega
  unfold behS
  constructor
  ·intro h; exact .inr ⟨hp, by show rdZ X (1 + ((k : Int) - 1)) ≠ 0; rw [e1]; exact h⟩
  ·rintro (⟨h1, _⟩ | ⟨_, h1⟩)
   ·exact absurd h1 hp
   ·have h1 : rdZ X (1 + ((k : Int) - 1)) ≠ 0 := h1
    rw [e1] at h1; exact h1
end Go.Eng
end
/-!  -/
noncomputable section
namespace Go.Eng
def same33 (A B : Int) : Int := (iteZ (qQz ((qQz ((rdZ A 0) == 0)) == (qQz ((rdZ B 0) == 0)))) (iteZ (qQz ((qQz ((rdZ A 1) == 0)) == (qQz ((rdZ B 1) == 0)))) (iteZ (qQz ((qQz ((rdZ A 2) == 0)) == (qQz ((rdZ B 2) == 0)))) (iteZ (qQz ((qQz ((rdZ A 3) == 0)) == (qQz ((rdZ B 3) == 0)))) (iteZ (qQz ((qQz ((rdZ A 4) == 0)) == (qQz ((rdZ B 4) == 0)))) (iteZ (qQz ((qQz ((rdZ A 5) == 0)) == (qQz ((rdZ B 5) == 0)))) (iteZ (qQz ((qQz ((rdZ A 6) == 0)) == (qQz ((rdZ B 6) == 0)))) (iteZ (qQz ((qQz ((rdZ A 7) == 0)) == (qQz ((rdZ B 7) == 0)))) (iteZ (qQz ((qQz ((rdZ A 8) == 0)) == (qQz ((rdZ B 8) == 0)))) (iteZ (qQz ((qQz ((rdZ A 9) == 0)) == (qQz ((rdZ B 9) == 0)))) (iteZ (qQz ((qQz ((rdZ A 10) == 0)) == (qQz ((rdZ B 10) == 0)))) (iteZ (qQz ((qQz ((rdZ A 11) == 0)) == (qQz ((rdZ B 11) == 0)))) (iteZ (qQz ((qQz ((rdZ A 12) == 0)) == (qQz ((rdZ B 12) == 0)))) (iteZ (qQz ((qQz ((rdZ A 13) == 0)) == (qQz ((rdZ B 13) == 0)))) (iteZ (qQz ((qQz ((rdZ A 14) == 0)) == (qQz ((rdZ B 14) == 0)))) (iteZ (qQz ((qQz ((rdZ A 15) == 0)) == (qQz ((rdZ B 15) == 0)))) (iteZ (qQz ((qQz ((rdZ A 16) == 0)) == (qQz ((rdZ B 16) == 0)))) (iteZ (qQz ((qQz ((rdZ A 17) == 0)) == (qQz ((rdZ B 17) == 0)))) (iteZ (qQz ((qQz ((rdZ A 18) == 0)) == (qQz ((rdZ B 18) == 0)))) (iteZ (qQz ((qQz ((rdZ A 19) == 0)) == (qQz ((rdZ B 19) == 0)))) (iteZ (qQz ((qQz ((rdZ A 20) == 0)) == (qQz ((rdZ B 20) == 0)))) (iteZ (qQz ((qQz ((rdZ A 21) == 0)) == (qQz ((rdZ B 21) == 0)))) (iteZ (qQz ((qQz ((rdZ A 22) == 0)) == (qQz ((rdZ B 22) == 0)))) (iteZ (qQz ((qQz ((rdZ A 23) == 0)) == (qQz ((rdZ B 23) == 0)))) (iteZ (qQz ((qQz ((rdZ A 24) == 0)) == (qQz ((rdZ B 24) == 0)))) (iteZ (qQz ((qQz ((rdZ A 25) == 0)) == (qQz ((rdZ B 25) == 0)))) (iteZ (qQz ((qQz ((rdZ A 26) == 0)) == (qQz ((rdZ B 26) == 0)))) (iteZ (qQz ((qQz ((rdZ A 27) == 0)) == (qQz ((rdZ B 27) == 0)))) (iteZ (qQz ((qQz ((rdZ A 28) == 0)) == (qQz ((rdZ B 28) == 0)))) (iteZ (qQz ((qQz ((rdZ A 29) == 0)) == (qQz ((rdZ B 29) == 0)))) (iteZ (qQz ((qQz ((rdZ A 30) == 0)) == (qQz ((rdZ B 30) == 0)))) (iteZ (qQz ((qQz ((rdZ A 31) == 0)) == (qQz ((rdZ B 31) == 0)))) (qQz ((qQz ((rdZ A 32) == 0)) == (qQz ((rdZ B 32) == 0)))) 0) 0) 0) 0) 0) 0) 0) 0) 0) 0) 0) 0) 0) 0) 0) 0) 0) 0) 0) 0) 0) 0) 0) 0) 0) 0) 0) 0) 0) 0) 0) 0)
theorem same33_def (A B : Int) : (iteZ (qQz ((qQz ((rdZ A 0) == 0)) == (qQz ((rdZ B 0) == 0)))) (iteZ (qQz ((qQz ((rdZ A 1) == 0)) == (qQz ((rdZ B 1) == 0)))) (iteZ (qQz ((qQz ((rdZ A 2) == 0)) == (qQz ((rdZ B 2) == 0)))) (iteZ (qQz ((qQz ((rdZ A 3) == 0)) == (qQz ((rdZ B 3) == 0)))) (iteZ (qQz ((qQz ((rdZ A 4) == 0)) == (qQz ((rdZ B 4) == 0)))) (iteZ (qQz ((qQz ((rdZ A 5) == 0)) == (qQz ((rdZ B 5) == 0)))) (iteZ (qQz ((qQz ((rdZ A 6) == 0)) == (qQz ((rdZ B 6) == 0)))) (iteZ (qQz ((qQz ((rdZ A 7) == 0)) == (qQz ((rdZ B 7) == 0)))) (iteZ (qQz ((qQz ((rdZ A 8) == 0)) == (qQz ((rdZ B 8) == 0)))) (iteZ (qQz ((qQz ((rdZ A 9) == 0)) == (qQz ((rdZ B 9) == 0)))) (iteZ (qQz ((qQz ((rdZ A 10) == 0)) == (qQz ((rdZ B 10) == 0)))) (iteZ (qQz ((qQz ((rdZ A 11) == 0)) == (qQz ((rdZ B 11) == 0)))) (iteZ (qQz ((qQz ((rdZ A 12) == 0)) == (qQz ((rdZ B 12) == 0)))) (iteZ (qQz ((qQz ((rdZ A 13) == 0)) == (qQz ((rdZ B 13) == 0)))) (iteZ (qQz ((qQz ((rdZ A 14) == 0)) == (qQz ((rdZ B 14) == 0)))) (iteZ (qQz ((qQz ((rdZ A 15) == 0)) == (qQz ((rdZ B 15) == 0)))) (iteZ (qQz ((qQz ((rdZ A 16) == 0)) == (qQz ((rdZ B 16) == 0)))) (iteZ (qQz ((qQz ((rdZ A 17) == 0)) == (qQz ((rdZ B 17) == 0)))) (iteZ (qQz ((qQz ((rdZ A 18) == 0)) == (qQz ((rdZ B 18) == 0)))) (iteZ (qQz ((qQz ((rdZ A 19) == 0)) == (qQz ((rdZ B 19) == 0)))) (iteZ (qQz ((qQz ((rdZ A 20) == 0)) == (qQz ((rdZ B 20) == 0)))) (iteZ (qQz ((qQz ((rdZ A 21) == 0)) == (qQz ((rdZ B 21) == 0)))) (iteZ (qQz ((qQz ((rdZ A 22) == 0)) == (qQz ((rdZ B 22) == 0)))) (iteZ (qQz ((qQz ((rdZ A 23) == 0)) == (qQz ((rdZ B 23) == 0)))) (iteZ (qQz ((qQz ((rdZ A 24) == 0)) == (qQz ((rdZ B 24) == 0)))) (iteZ (qQz ((qQz ((rdZ A 25) == 0)) == (qQz ((rdZ B 25) == 0)))) (iteZ (qQz ((qQz ((rdZ A 26) == 0)) == (qQz ((rdZ B 26) == 0)))) (iteZ (qQz ((qQz ((rdZ A 27) == 0)) == (qQz ((rdZ B 27) == 0)))) (iteZ (qQz ((qQz ((rdZ A 28) == 0)) == (qQz ((rdZ B 28) == 0)))) (iteZ (qQz ((qQz ((rdZ A 29) == 0)) == (qQz ((rdZ B 29) == 0)))) (iteZ (qQz ((qQz ((rdZ A 30) == 0)) == (qQz ((rdZ B 30) == 0)))) (iteZ (qQz ((qQz ((rdZ A 31) == 0)) == (qQz ((rdZ B 31) == 0)))) (qQz ((qQz ((rdZ A 32) == 0)) == (qQz ((rdZ B 32) == 0)))) 0) 0) 0) 0) 0) 0) 0) 0) 0) 0) 0) 0) 0) 0) 0) 0) 0) 0) 0) 0) 0) 0) 0) 0) 0) 0) 0) 0) 0) 0) 0) 0) = same33 A B := rfl
def smL (A B : Int) : List Nat → Int
 | [] => 1
 | [k] => qQz (qQz (rdZ A k == 0) == qQz (rdZ B k == 0))
 | k :: k2 :: l => iteZ (qQz (qQz (rdZ A k == 0) == qQz (rdZ B k == 0))) (smL A B (k2 :: l)) 0
theorem eqb_ne (x y : Int) : qQz (qQz (x == 0) == qQz (y == 0)) ≠ 0 ↔ (x ≠ 0 ↔ y ≠ 0) := by
 unfold qQz
 by_cases e : x = 0
 ·by_cases g : y = 0 <;> simp [e, g]
 ·by_cases g : y = 0 <;> simp [e, g]
theorem smL_ne (A B : Int) : ∀ l : List Nat, l ≠ [] → (smL A B l ≠ 0 ↔ ∀ k ∈ l, (rdZ A (k : Nat) ≠ 0 ↔ rdZ B (k : Nat) ≠ 0))
 | [], h => absurd rfl h
 | [k], _ => by rw [smL, eqb_ne]; simp
 | k :: k2 :: l, _ => by
  have ih := smL_ne A B (k2 :: l) (by simp)
  rw [smL]
  unfold iteZ
  have he := eqb_ne (rdZ A k) (rdZ B k)
  by_cases g : qQz (qQz (rdZ A k == 0) == qQz (rdZ B k == 0)) ≠ 0
  ·rw [if_pos g, ih]
   constructor
   ·intro h x hx
    rcases List.mem_cons.1 hx with rfl | hx
    ·exact he.1 g
    ·exact h x hx
   ·intro h x hx
    exact h x (List.mem_cons_of_mem _ hx)
  ·rw [if_neg g]
   constructor
   ·intro h; exact absurd rfl h
   ·intro h; exact absurd (he.2 (h k (List.mem_cons_self))) g
theorem same33_ne (A B : Int) : same33 A B ≠ 0 ↔ ∀ k : Int, 0 ≤ k → k < 33 → (rdZ A k ≠ 0 ↔ rdZ B k ≠ 0) := by
 have e : same33 A B = smL A B (List.range 33) := rfl
 rw [e, smL_ne _ _ _ (by decide)]
 constructor
 ·intro h k k0 k1
  have := h k.toNat (by rw [List.mem_range]; omega)
  rwa [show ((k.toNat : Nat) : Int) = k by omega] at this
 ·intro h k hk
  rw [List.mem_range] at hk
  exact h k (by omega) (by omega)
section
variable {w nc nr cS cI nI : Int}
open Classical in
theorem fpc_open (h : openIn cS cI nI) : fpcF w nc nr cS cI nI = -1 := by unfold fpcF; rw [if_pos h]
open Classical in
theorem fpc_found (ho : ¬ openIn cS cI nI) {p : Int} (p0 : 0 ≤ p) (p1 : p < nc) (hw : qZn w nr cS (qQd w nc nr cS) p) (hb : ∀ k, 0 ≤ k → k < p → ¬ qZn w nr cS (qQd w nc nr cS) k) : fpcF w nc nr cS cI nI = p := by
 unfold fpcF
 rw [if_neg ho]
 have h : (List.range nc.toNat).find? (fun (k : Nat) => decide (qZn w nr cS (qQd w nc nr cS) k)) = some p.toNat := by
  rw [List.find?_range_eq_some]
  refine ⟨by simp only [decide_eq_true_eq]; rw [show ((p.toNat : Nat) : Int) = p by omega]; exact hw, by rw [List.mem_range]; omega, fun j hj => ?_⟩
  simp only [Bool.not_eq_true', decide_eq_false_iff_not]
  exact hb j (by omega) (by omega)
 rw [h]
 simp only [Option.map_some, Option.getD_some]; omega
open Classical in
theorem fpc_none (ho : ¬ openIn cS cI nI) (n0 : 0 ≤ nc) (hb : ∀ k, 0 ≤ k → k < nc → ¬ qZn w nr cS (qQd w nc nr cS) k) : fpcF w nc nr cS cI nI = nc := by
 unfold fpcF
 rw [if_neg ho]
 have h : (List.range nc.toNat).find? (fun (k : Nat) => decide (qZn w nr cS (qQd w nc nr cS) k)) = none := by
  rw [List.find?_eq_none]
  intro j hj
  rw [List.mem_range] at hj
  simp only [decide_eq_true_eq]
  exact hb j (by omega) (by omega)
 rw [h]; rfl
theorem fwh_ev {z : Int} (hz : z = qQq nr (qQq cS (qQq cI (qQq nI 0)))) {f : Int} (hf : fpcF w nc nr cS cI nI = f) : fwhZ w nc z = (if f < nc then 12 else 0) ∧ fpcZ w nc z = if f < nc then f else 0 := by
 subst hz
 obtain ⟨⟨e0, e1⟩, e2, e3⟩ := fpc_ev (cS := cS) (cI := cI) (nI := nI) nr
 unfold fwhZ fpcZ
 rw [e0, e1, e2, e3, hf]
 exact ⟨rfl, rfl⟩
end
end Go.Eng
end
/-!  -/
noncomputable section
namespace Go.Eng
theorem dec_n0 {x : Int} (h : decZ x 5 = 0) (h31 : decZ x 0 ≠ 31) : 0 ≤ decZ x 4 := by
 unfold decZ at *
 simp only [if_true] at h
 have hp : decP (x % 4294967296) := Classical.byContradiction fun g => by
  rw [if_neg g] at h
  split at h <;> exact absurd h (by decide)
 simp only [hp, not_true_eq_false, if_false, if_true, show (0 : Int) = 5 ↔ False by decide, show (4 : Int) = 5 ↔ False by decide, show (4 : Int) = 0 ↔ False by decide, show (4 : Int) = 1 ↔ False by decide, show (4 : Int) = 2 ↔ False by decide, show (4 : Int) = 3 ↔ False by decide] at *
 unfold decN
 simp only
 split
 ·exact Int.le_refl _
 ·omega
theorem q0_bT {p f : Int} (p0 : 0 ≤ p) (f0 : 0 ≤ f) : bT (updZ 0 0 (updZ 0 0 1)) p f ↔ p = 0 ∧ f = 0 := by
 rw [bT_upd]
 by_cases e : p = 0
 ·subst e
  rw [if_pos rfl, qQh]
  by_cases g : f = 0
  ·subst g; simp
  ·rw [if_neg (by omega), qZd]; simp [g]
 ·rw [if_neg (by omega)]
  unfold bT
  rw [qZd, qZd]; simp [e]
theorem below_q0 {w nc nr cS : Int} (hn : 0 < nc) : Below w nc nr cS (updZ 0 0 (updZ 0 0 1)) := by
 refine ⟨fun p p0 p1 h => ?_, fun p r p0 p1 r0 r1 h => ?_⟩
 ·rw [((q0_bT p0 (by decide)).1 h).1]; exact qXy.start hn
 ·have := ((q0_bT p0 (by omega)).1 h).2; omega
theorem c32_at (X : Int) {r : Int} (r0 : 0 ≤ r) (r1 : r < 32) : rdZ (c32 X) r = rdZ X (1 + r) := by
 have h := c32_rd X r.toNat (by omega)
 rw [show ((r.toNat : Nat) : Int) = r by omega, show ((r.toNat + 1 : Nat) : Int) = 1 + r by omega] at h
 exact h
theorem bh_at {op d a b n nr cS X r : Int} (r0 : 0 ≤ r) (r1 : r < 32) : rdZ (bhcZ op d (qQq a (qQq b (qQq n (qQq nr (qQq cS (qQq X 0))))))) (1 + r) ≠ 0 ↔ behS nr cS op d a b n (fun r => rdZ X (1 + r) ≠ 0) r := by
 have h := bh_ne op d a b n nr cS X rfl (r.toNat + 1) (by omega)
 rw [show ((r.toNat + 1 : Nat) : Int) = 1 + r by omega, if_neg (by omega), show (1 + r - 1 : Int) = r by omega] at h
 exact h
theorem lev_rd {w nc nr cS p : Int} (p0 : 0 ≤ p) (p1 : p < nc) : (rdZ (rdZ (levZ w nc (qQq nr (qQq cS 0))) p) 0 ≠ 0 ↔ (qQd w nc nr cS).re p) ∧ ∀ r, 0 ≤ r → r < 32 → (rdZ (c32 (rdZ (levZ w nc (qQq nr (qQq cS 0))) p)) r ≠ 0 ↔ (qQd w nc nr cS).se p r) := by
 have e : levZ w nc (qQq nr (qQq cS 0)) = lvF (qQd w nc nr cS) nc.toNat := by
  have h := qXp [nr, cS]
  have h0 : rdZ (qQq nr (qQq cS 0)) 0 = nr := h 0
  have h1 : rdZ (qQq nr (qQq cS 0)) 1 = cS := h 1
  unfold levZ; rw [h0, h1]
 have h := lvF_at (qQd w nc nr cS) nc.toNat p.toNat (by omega)
 rw [show ((p.toNat : Nat) : Int) = p by omega] at h
 obtain ⟨g0, g1⟩ := lvRow_rd (qQd w nc nr cS) p
 refine ⟨?_, fun r r0 r1 => ?_⟩
 ·rw [e, h, g0]
  by_cases k : (qQd w nc nr cS).re p
  ·rw [if_pos k]; exact ⟨fun _ => k, fun _ => by decide⟩
  ·rw [if_neg k]; exact ⟨fun j => absurd rfl j, fun j => absurd j k⟩
 ·rw [e, c32_at _ r0 r1, h, g1 r r0 r1]
  by_cases k : (qQd w nc nr cS).se p r
  ·rw [if_pos k]; exact ⟨fun _ => k, fun _ => by decide⟩
  ·rw [if_neg k]; exact ⟨fun j => absurd rfl j, fun j => absurd j k⟩
theorem any_open {c n : Int} : anyZ c n 0 ≠ 0 ↔ ∃ j : Int, 0 ≤ j ∧ j < n ∧ rdZ c j = 0 := by
 unfold anyZ
 split
 ·rename_i h
  obtain ⟨j, j0, j1, k⟩ := h
  exact ⟨fun _ => ⟨j, j0, j1, Classical.byContradiction fun g => absurd rfl (k.1 g)⟩, fun _ => by decide⟩
 ·rename_i h
  exact ⟨fun k => absurd rfl k, fun ⟨j, j0, j1, k⟩ => absurd ⟨j, j0, j1, ⟨fun g => absurd k g, fun g => absurd rfl g⟩⟩ h⟩
end Go.Eng
end
/-!  -/
noncomputable section
namespace Go.Eng
section
variable {w nr cS cI nI cD : Int}
end
end Go.Eng
end
/-!  -/
noncomputable section
namespace Go.Eng
theorem band_one {s d : Int} (d0 : 0 ≤ d) (d1 : d < 32) : band .u32 s (shlZ .u32 1 d) = 0 ↔ ¬ bitP s d := and_one d0 d1
theorem orW_zero {x y : Int} (hx : IntKind.wrap .u32 x = x) (hy : IntKind.wrap .u32 y = y) : orW x y = 0 ↔ x = 0 ∧ y = 0 := by
 constructor
 ·intro h
  have hb : ∀ r, ¬ bitP x r ∧ ¬ bitP y r := fun r => by
   have := bit_or x y r
   rw [h] at this
   exact ⟨fun g => qKx r (this.2 (.inl g)), fun g => qKx r (this.2 (.inr g))⟩
  have z : IntKind.wrap .u32 0 = 0 := by decide
  have e1 := bits_ext (a := x) (b := 0) fun r _ _ => ⟨fun g => absurd g (hb r).1, fun g => absurd g (qKx r)⟩
  have e2 := bits_ext (a := y) (b := 0) fun r _ _ => ⟨fun g => absurd g (hb r).2, fun g => absurd g (qKx r)⟩
  exact ⟨by rw [← hx, e1, z], by rw [← hy, e2, z]⟩
 ·rintro ⟨rfl, rfl⟩; decide
theorem band_wrap (x y : Int) : IntKind.wrap .u32 (band .u32 x y) = band .u32 x y := by unfold band; exact wrap_wrap .u32 .u32 _ (by decide)
theorem bor_two {s a b : Int} (a0 : 0 ≤ a) (a1 : a < 32) (b0 : 0 ≤ b) (b1 : b < 32) : bor .u32 (band .u32 s (shlZ .u32 1 a)) (band .u32 s (shlZ .u32 1 b)) = 0 ↔ ¬ bitP s a ∧ ¬ bitP s b := by
 have h : bor .u32 (band .u32 s (shlZ .u32 1 a)) (band .u32 s (shlZ .u32 1 b)) = orW (band .u32 s (shlZ .u32 1 a)) (band .u32 s (shlZ .u32 1 b)) := rfl
 rw [h, orW_zero (band_wrap _ _) (band_wrap _ _), band_one a0 a1, band_one b0 b1]
theorem fse_zero {op a b n s nS cS m : Int} : fseZ op a (qQq b (qQq n (qQq s (qQq nS (qQq cS (qQq m 0)))))) = 0 ↔ ¬ ((op ≤ 23 ∧ bitP s b) ∨ (op ≤ 32 ∧ bitP s a) ∨ (op = 34 ∧ a = 0 ∧ rdZ cS n ≠ 0) ∨ (op = 34 ∧ a ≠ 0 ∧ m ≠ 0)) := by
 obtain ⟨⟨e0, e1, e2⟩, e3, e4, e5⟩ := ch6 b n s nS cS m
 unfold fseZ
 rw [e0, e1, e2, e4, e5]
 split
 ·rename_i h; exact ⟨fun k => absurd k (by decide), fun k => absurd h k⟩
 ·rename_i h; exact ⟨fun _ => h, fun _ => rfl⟩
theorem lrc_ev (nc pc s v : Int) : lrcZ nc pc (qQq s (qQq v 0)) = if pc < nc ∧ ¬ (IntKind.wrap .u32 (rdZ (rdZ v pc) 0) = 1 ∧ IntKind.wrap .u32 (rdZ (rdZ v pc) 1) = orW (IntKind.wrap .u32 (rdZ (rdZ v pc) 1)) s) then 1 else 0 := by
 unfold lrcZ
 rw [(qXr s v).1, (qXr s v).2]
theorem lrc_at {nc pc s v : Int} (h : pc < nc) : (if 1 = IntKind.wrap .u32 (rdZ (rdZ v pc) 0) then if bor .u32 (IntKind.wrap .u32 (rdZ (rdZ v pc) 1)) s = IntKind.wrap .u32 (rdZ (rdZ v pc) 1) then (1 : Int) else 0 else 0) = 0 ↔ lrcZ nc pc (qQq s (qQq v 0)) ≠ 0 := by
 rw [lrc_ev]
 have e : bor .u32 (IntKind.wrap .u32 (rdZ (rdZ v pc) 1)) s = orW (IntKind.wrap .u32 (rdZ (rdZ v pc) 1)) s := rfl
 rw [e]
 by_cases g1 : IntKind.wrap .u32 (rdZ (rdZ v pc) 0) = 1
 ·by_cases g2 : IntKind.wrap .u32 (rdZ (rdZ v pc) 1) = orW (IntKind.wrap .u32 (rdZ (rdZ v pc) 1)) s
  ·rw [if_pos g1.symm, if_pos g2.symm, if_neg (fun k => k.2 ⟨g1, g2⟩)]; simp
  ·rw [if_pos g1.symm, if_neg (fun k => g2 k.symm), if_pos ⟨h, fun k => g2 k.2⟩]; simp
 ·rw [if_neg (fun k => g1 k.symm), if_pos ⟨h, fun k => g1 k.1⟩]; simp
theorem num_of (p : Prop) : ∃ x : Int, p ↔ x ≠ 0 := by
 by_cases h : p
 ·exact ⟨1, fun _ => by decide, fun _ => h⟩
 ·exact ⟨0, fun k => absurd k h, fun k => absurd rfl k⟩
end Go.Eng
end
/-!  -/
noncomputable section
namespace Go.Eng
theorem dec_ok5 {x : Int} : decZ x 0 ≠ 0 ↔ decZ x 5 = 0 := by
 unfold decZ
 simp only [show (5 : Int) = 5 ↔ True by simp, show (0 : Int) = 5 ↔ False by decide, if_true, if_false]
 by_cases h : decP (x % 4294967296)
 ·simp only [h, not_true_eq_false, if_false, if_true, show (0 : Int) = 0 ↔ True by simp]
  refine ⟨fun _ => trivial, fun _ => ?_⟩
  have := h
  unfold decP at this
  omega
 ·simp only [h, not_false_eq_true, if_true, if_false]
  refine ⟨fun k => absurd rfl k, fun k => ?_⟩
  split at k <;> exact absurd k (by decide)
theorem lps_ev {op d a b n pc nc nr cS m s V W k R : Int} (h : R = lpsZ op d (qQq a (qQq b (qQq n (qQq pc (qQq nc (qQq nr (qQq cS (qQq m (qQq s (qQq V (qQq W (qQq k 0))))))))))))) :
  rdZ R 0 = (lpsT op d a b n pc nc nr cS m s (V, W, k)).1 ∧ rdZ R 1 = (lpsT op d a b n pc nc nr cS m s (V, W, k)).2.1 ∧ rdZ R 2 = (lpsT op d a b n pc nc nr cS m s (V, W, k)).2.2 := by
 subst h
 have h := qXp [a, b, n, pc, nc, nr, cS, m, s, V, W, k]
 have h0 : rdZ (qQq a (qQq b (qQq n (qQq pc (qQq nc (qQq nr (qQq cS (qQq m (qQq s (qQq V (qQq W (qQq k 0)))))))))))) 0 = a := h 0
 have h1 : rdZ (qQq a (qQq b (qQq n (qQq pc (qQq nc (qQq nr (qQq cS (qQq m (qQq s (qQq V (qQq W (qQq k 0)))))))))))) 1 = b := h 1
 have h2 : rdZ (qQq a (qQq b (qQq n (qQq pc (qQq nc (qQq nr (qQq cS (qQq m (qQq s (qQq V (qQq W (qQq k 0)))))))))))) 2 = n := h 2
 have h3 : rdZ (qQq a (qQq b (qQq n (qQq pc (qQq nc (qQq nr (qQq cS (qQq m (qQq s (qQq V (qQq W (qQq k 0)))))))))))) 3 = pc := h 3
 have h4 : rdZ (qQq a (qQq b (qQq n (qQq pc (qQq nc (qQq nr (qQq cS (qQq m (qQq s (qQq V (qQq W (qQq k 0)))))))))))) 4 = nc := h 4
 have h5 : rdZ (qQq a (qQq b (qQq n (qQq pc (qQq nc (qQq nr (qQq cS (qQq m (qQq s (qQq V (qQq W (qQq k 0)))))))))))) 5 = nr := h 5
 have h6 : rdZ (qQq a (qQq b (qQq n (qQq pc (qQq nc (qQq nr (qQq cS (qQq m (qQq s (qQq V (qQq W (qQq k 0)))))))))))) 6 = cS := h 6
 have h7 : rdZ (qQq a (qQq b (qQq n (qQq pc (qQq nc (qQq nr (qQq cS (qQq m (qQq s (qQq V (qQq W (qQq k 0)))))))))))) 7 = m := h 7
 have h8 : rdZ (qQq a (qQq b (qQq n (qQq pc (qQq nc (qQq nr (qQq cS (qQq m (qQq s (qQq V (qQq W (qQq k 0)))))))))))) 8 = s := h 8
 have h9 : rdZ (qQq a (qQq b (qQq n (qQq pc (qQq nc (qQq nr (qQq cS (qQq m (qQq s (qQq V (qQq W (qQq k 0)))))))))))) 9 = V := h 9
 have h10 : rdZ (qQq a (qQq b (qQq n (qQq pc (qQq nc (qQq nr (qQq cS (qQq m (qQq s (qQq V (qQq W (qQq k 0)))))))))))) 10 = W := h 10
 have h11 : rdZ (qQq a (qQq b (qQq n (qQq pc (qQq nc (qQq nr (qQq cS (qQq m (qQq s (qQq V (qQq W (qQq k 0)))))))))))) 11 = k := h 11
 unfold lpsZ
 rw [h0, h1, h2, h3, h4, h5, h6, h7, h8, h9, h10, h11]
 generalize lpsT op d a b n pc nc nr cS m s (V, W, k) = T
 obtain ⟨x, y, z⟩ := T
 have g := qXp [x, y, z]
 exact ⟨g 0, g 1, g 2⟩
theorem rch_ev (nc t s V W k : Int) : rchT nc t s (V, W, k) = (if ¬ lrcZ nc t (qQq s (qQq V 0)) = 0 then lrvZ V t s else V, if ¬ lrcZ nc t (qQq s (qQq V 0)) = 0 then hupZ (updZ W k t) k else W, k + lrcZ nc t (qQq s (qQq V 0))) := by
 have hb := lrcZ_bd nc t (qQq s (qQq V 0))
 unfold rchT
 by_cases h : lrcZ nc t (qQq s (qQq V 0)) = 0
 ·rw [if_neg (fun g => g h), if_neg (fun g => g h), if_neg (fun g => g h), h, Int.add_zero]
 ·rw [if_pos h, if_pos h, if_pos h, show lrcZ nc t (qQq s (qQq V 0)) = 1 by omega]
end Go.Eng
end
