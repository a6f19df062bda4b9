/-
  Parts of the engine, a program's symbolic run, proved sound; and of plain laws.
-/
import Derived.Test.YteimodjkllldlacGmZn
set_option linter.unusedVariables false
set_option linter.unusedSimpArgs false

/-!  -/
noncomputable section
namespace Go.Eng
def SbI (f : Nat → Bool) (x r : Int) : Prop := (-1 ≤ r ∧ r ≤ 31) ∧ 0 ≤ x ∧ sumP f 32 = sumP f (r + 1).toNat + 2 ^ (r + 1).toNat * x
theorem sb_start (f : Nat → Bool) : SbI f 0 31 := ⟨by decide, by decide, by simp⟩
theorem sb_step {f : Nat → Bool} {x r b : Int} (h : SbI f x r) (r0 : 0 ≤ r) (hb : b = if f r.toNat = true then 1 else 0) : SbI f (2 * x + b) (r - 1) ∧ 2 * x + 1 ≤ 4294967295 := by
 obtain ⟨⟨h0, h1⟩, hx, hs⟩ := h
 obtain ⟨k, rfl⟩ : ∃ k : Nat, r = k := ⟨r.toNat, by omega⟩
 rw [Int.toNat_natCast] at hb
 rw [show ((k : Int) + 1).toNat = k + 1 by omega] at hs
 have hp : (2 : Int) ^ (k + 1) = 2 * 2 ^ k := by rw [Int.pow_succ, Int.mul_comm]
 have es : sumP f (k + 1) = sumP f k + if f k = true then 2 ^ k else 0 := rfl
 rw [hp, es] at hs
 have hN : (1 : Int) ≤ 2 ^ k := by
  have : ((2 ^ k : Nat) : Int) = (2 : Int) ^ k := by simp
  have := Nat.one_le_two_pow (n := k)
  omega
 have h32 := sum_bit f 32
 have hk := sum_bit f k
 have e32 : (2 : Int) ^ 32 = 4294967296 := by decide
 rw [e32] at h32
 have h320 := h32.1
 have h321 := h32.2.1
 have hk0 := hk.1
 clear h32 hk es hp e32
 unfold SbI
 rw [show ((k : Int) - 1 + 1).toNat = k by omega]
 generalize sumP f 32 = S at hs h320 h321 ⊢
 generalize sumP f k = Q at hs hk0 ⊢
 generalize (2 : Int) ^ k = N at hN hs ⊢
 have hm : 2 * N * x = 2 * (N * x) := by rw [Int.mul_assoc]
 have hge : x ≤ N * x := by
  have : 0 ≤ (N - 1) * x := Int.mul_nonneg (by omega) hx
  have e : (N - 1) * x = N * x - x := by rw [Int.sub_mul, Int.one_mul]
  omega
 rw [hm] at hs
 have hmul : N * (2 * x + b) = 2 * (N * x) + N * b := by
  rw [Int.mul_add, ← Int.mul_assoc, Int.mul_comm N 2, Int.mul_assoc]
 by_cases g : f k = true
 ·rw [if_pos g] at hb hs
  subst hb
  rw [Int.mul_one] at hmul
  exact ⟨⟨⟨by omega, by omega⟩, by omega, by omega⟩, by omega⟩
 ·rw [if_neg g] at hb hs
  subst hb
  rw [Int.mul_zero] at hmul
  exact ⟨⟨⟨by omega, by omega⟩, by omega, by omega⟩, by omega⟩
theorem sb_end {f : Nat → Bool} {x r : Int} (h : SbI f x r) (hr : r < 0) : x = sumP f 32 := by
 obtain ⟨⟨h0, h1⟩, hx, hs⟩ := h
 obtain rfl : r = -1 := by omega
 have e : ((-1 : Int) + 1).toNat = 0 := by decide
 rw [e, sumP] at hs
 have e0 : (2 : Int) ^ 0 = 1 := by decide
 rw [e0] at hs
 omega
open Classical in
theorem sct_sum {w nc nr cS z p : Int} (z0 : rdZ z 0 = nr) (z1 : rdZ z 1 = cS) (p0 : 0 ≤ p) (p1 : p < nc) : ∃ f : Nat → Bool, (∀ r : Nat, f r = true ↔ (qQg w nc nr cS).se p r) ∧ rdZ (sctZ w nc z) p = sumP f 32 := by
 refine ⟨fun r => decide ((qQg w nc nr cS).se p r), fun r => by simp only [decide_eq_true_eq], ?_⟩
 unfold sctZ
 rw [z0, z1]
 have h := sct_at (qQg w nc nr cS) nc.toNat p.toNat (by omega)
 rwa [show ((p.toNat : Nat) : Int) = p by omega] at h
end Go.Eng
end
