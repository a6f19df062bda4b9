/-
  Plain laws of numbers, part R: what the references reckon, in the program's words.
-/
import Derived.Test.YtjooaieolphomaaPlA
set_option linter.unusedVariables false
set_option linter.unusedSimpArgs false
namespace Go.Eng

theorem tmod_small {x n : Int} (hn : 0 < n) : x.tmod n = if 0 ≤ x then x % n else -((-x) % n) := by
  split
  · exact Int.tmod_eq_emod_of_nonneg (by assumption)
  · rename_i h
    rw [← Int.neg_neg x, Int.neg_tmod, Int.tmod_eq_emod_of_nonneg (by omega), Int.neg_neg]
theorem tdiv_small {x n : Int} (hn : 0 < n) : x.tdiv n = if 0 ≤ x then x / n else -((-x) / n) := by
  split
  · exact Int.tdiv_eq_ediv_of_nonneg (by assumption)
  · rename_i h
    rw [← Int.neg_neg x, Int.neg_tdiv, Int.tdiv_eq_ediv_of_nonneg (by omega), Int.neg_neg]

theorem mod32 (x : Int) : (if x.tmod 4294967296 < 0 then x.tmod 4294967296 + 4294967296 else x.tmod 4294967296) = x % 4294967296 := by
  rw [tmod_small (by decide)]; split <;> split <;> omega
theorem mod5 (x : Int) : (if x.tmod 32 < 0 then x.tmod 32 + 32 else x.tmod 32) = x % 32 := by
  rw [tmod_small (by decide)]; split <;> split <;> omega
theorem mod30 (x : Int) : (if x.tmod 1073741824 < 0 then x.tmod 1073741824 + 1073741824 else x.tmod 1073741824) = x % 1073741824 := by
  rw [tmod_small (by decide)]; split <;> split <;> omega

theorem wu32 (x : Int) : IntKind.wrap .u32 x = x % 4294967296 := by simp [IntKind.wrap, IntKind.bits, IntKind.signed]
theorem wi32 (x : Int) : IntKind.wrap .i32 x = if 2147483648 ≤ x % 4294967296 then x % 4294967296 - 4294967296 else x % 4294967296 := by
  simp only [IntKind.wrap, IntKind.bits, IntKind.signed]
  simp

/-! ### a word, from its bits -/

/-- the highest m bits ahead of place j -/
theorem bit_step (y : Int) (j m : Nat) : 2 * (y / 2 ^ (j + 1) % 2 ^ m) + y / 2 ^ j % 2 = y / 2 ^ j % 2 ^ (m + 1) := by
  have hp : (0 : Int) < 2 ^ m := Int.pow_pos (by decide)
  have e1 : y / 2 ^ (j + 1) = y / 2 ^ j / 2 := by
    rw [Int.pow_succ, Int.ediv_ediv_of_nonneg (Int.le_of_lt (Int.pow_pos (by decide)))]
  rw [e1]
  generalize y / 2 ^ j = q
  rw [Int.pow_succ]
  generalize (2 : Int) ^ m = p at *
  have a1 := Int.mul_ediv_add_emod (q / 2) p
  have a2 := Int.emod_nonneg (q / 2) (show p ≠ 0 by omega)
  have a3 := Int.emod_lt_of_pos (q / 2) hp
  have b1 := Int.mul_ediv_add_emod q (p * 2)
  have b2 := Int.emod_nonneg q (show p * 2 ≠ 0 by omega)
  have b3 := Int.emod_lt_of_pos q (show 0 < p * 2 by omega)
  have c1 : q = 2 * (q / 2) + q % 2 := by omega
  have c2 : 0 ≤ q % 2 ∧ q % 2 ≤ 1 := by omega
  -- q = p*2 * (q/2/p) + (2 * (q/2 % p) + q % 2)
  have key : q = p * 2 * (q / 2 / p) + (2 * (q / 2 % p) + q % 2) := by
    have : 2 * (p * (q / 2 / p)) = p * 2 * (q / 2 / p) := by grind
    omega
  have : q % (p * 2) = (2 * (q / 2 % p) + q % 2) := by
    rw [key, Int.mul_add_emod_self_left, Int.emod_eq_of_lt (by omega) (by omega), ← key]
  exact this.symm
end Go.Eng
