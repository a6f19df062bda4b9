/-
  Parts of the engine, a program's symbolic run, proved sound; and of plain laws.
-/
import Derived.Test.YteimodjkllldladGmZm
set_option linter.unusedVariables false
set_option linter.unusedSimpArgs false

/-!  -/
noncomputable section
namespace Go.Eng
theorem dec_all (x : Int) : (0 ≤ decZ (IntKind.wrap .u32 x) 0 ∧ decZ (IntKind.wrap .u32 x) 0 ≤ 43) ∧ (0 ≤ decZ (IntKind.wrap .u32 x) 1 ∧ decZ (IntKind.wrap .u32 x) 1 ≤ 31) ∧ (0 ≤ decZ (IntKind.wrap .u32 x) 2 ∧ decZ (IntKind.wrap .u32 x) 2 ≤ 31) ∧
  (0 ≤ decZ (IntKind.wrap .u32 x) 3 ∧ decZ (IntKind.wrap .u32 x) 3 ≤ 31) ∧ (-32768 ≤ decZ (IntKind.wrap .u32 x) 4 ∧ decZ (IntKind.wrap .u32 x) 4 ≤ 65535) ∧ (decZ (IntKind.wrap .u32 x) 0 = 31 ∨ 0 ≤ decZ (IntKind.wrap .u32 x) 4) := by
 by_cases h5 : decZ (IntKind.wrap .u32 x) 5 = 0
 ·obtain ⟨⟨o0, o1⟩, ⟨d0, d1⟩, ⟨a0, a1⟩, ⟨b0, b1⟩, n0, n1⟩ := dec_in x h5
  refine ⟨⟨by omega, o1⟩, ⟨d0, by omega⟩, ⟨a0, by omega⟩, ⟨b0, by omega⟩, ⟨n0, n1⟩, ?_⟩
  by_cases e : decZ (IntKind.wrap .u32 x) 0 = 31
  ·exact .inl e
  ·exact .inr (dec_n0 h5 e)
 ·have hn : ¬ decP (IntKind.wrap .u32 x % 4294967296) := fun hp => h5 (by unfold decZ; simp only [if_true]; rw [if_pos hp])
  have z : ∀ k, k ≠ 5 → decZ (IntKind.wrap .u32 x) k = 0 := fun k hk => by
   unfold decZ
   simp only [if_neg hk]
   rw [if_pos hn]
  rw [z 0 (by decide), z 1 (by decide), z 2 (by decide), z 3 (by decide), z 4 (by decide)]
  omega
theorem dec_w64 (x k : Int) : IntKind.wrap .i64 (decZ x k) = decZ x k := by
 have := decZ_bd x k
 exact w64 (by omega) (by omega)
theorem ch5 (a b c d e : Int) {k : Int} (k0 : 0 ≤ k) (k1 : k < 5) : rdZ (qQq a (qQq b (qQq c (qQq d (qQq e 0))))) k = if k = 0 then a else if k = 1 then b else if k = 2 then c else if k = 3 then d else e := by
 have h := rd_chn [a, b, c, d, e]
 have h0 : rdZ (qQq a (qQq b (qQq c (qQq d (qQq e 0))))) 0 = a := h 0
 have h1 : rdZ (qQq a (qQq b (qQq c (qQq d (qQq e 0))))) 1 = b := h 1
 have h2 : rdZ (qQq a (qQq b (qQq c (qQq d (qQq e 0))))) 2 = c := h 2
 have h3 : rdZ (qQq a (qQq b (qQq c (qQq d (qQq e 0))))) 3 = d := h 3
 have h4 : rdZ (qQq a (qQq b (qQq c (qQq d (qQq e 0))))) 4 = e := h 4
 rcases (by omega : k = 0 ∨ k = 1 ∨ k = 2 ∨ k = 3 ∨ k = 4) with rfl | rfl | rfl | rfl | rfl
 ·rw [if_pos rfl]; exact h0
 ·rw [if_neg (by decide), if_pos rfl]; exact h1
 ·rw [if_neg (by decide), if_neg (by decide), if_pos rfl]; exact h2
 ·rw [if_neg (by decide), if_neg (by decide), if_neg (by decide), if_pos rfl]; exact h3
 ·rw [if_neg (by decide), if_neg (by decide), if_neg (by decide), if_neg (by decide)]; exact h4
def InsOk (w q n : Int) : Prop := ∀ j : Int, 0 ≤ j → j < n → ∀ k : Int, 0 ≤ k → k < 5 → rdZ (rdZ q j) k = decZ (IntKind.wrap .u32 (rdZ w j)) k
theorem ins_snoc {w q n : Int} (h : InsOk w q n) (n0 : 0 ≤ n) : InsOk w (updZ q n (qQq (decZ (IntKind.wrap .u32 (rdZ w n)) 0) (qQq (decZ (IntKind.wrap .u32 (rdZ w n)) 1) (qQq (decZ (IntKind.wrap .u32 (rdZ w n)) 2) (qQq (decZ (IntKind.wrap .u32 (rdZ w n)) 3) (qQq (decZ (IntKind.wrap .u32 (rdZ w n)) 4) 0)))))) (n + 1) := by
 intro j j0 j1 k k0 k1
 rw [qQr]
 by_cases e : j = n
 ·subst e
  rw [if_pos rfl, ch5 _ _ _ _ _ k0 k1]
  rcases (by omega : k = 0 ∨ k = 1 ∨ k = 2 ∨ k = 3 ∨ k = 4) with rfl | rfl | rfl | rfl | rfl <;> rfl
 ·rw [if_neg (by omega)]; exact h j j0 (by omega) k k0 k1
theorem row_u {R Q n : Int} (h : ∀ k : Int, 0 ≤ k → k < n → IntKind.wrap .u32 (rdZ R k) = IntKind.wrap .u32 (rdZ Q k)) : qQo [.int .u32] R Q n := by
 intro i hi
 show [Value.int .u32 (IntKind.wrap .u32 (rdZ R i))] = [Value.int .u32 (IntKind.wrap .u32 (rdZ Q i))]
 rw [h i (by omega) hi]
end Go.Eng
end
