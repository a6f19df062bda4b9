/-
  Plain laws of numbers, part E: a product of 64 by 32 bits, by halves.
-/
import Derived.Test.YtjooaieolphomaaPlD
set_option linter.unusedVariables false
set_option linter.unusedSimpArgs false
namespace Go.Eng

theorem band_low {x : Int} (h0 : 0 ≤ x) (h1 : x ≤ 18446744073709551615) : band .u64 x 4294967295 = x % 4294967296 := by
  unfold band
  simp only [BO.ev]
  obtain ⟨n, rfl⟩ := Int.eq_ofNat_of_zero_le h0
  have hb : IntKind.u64.bits = 64 := rfl
  have e1 : (BitVec.ofInt IntKind.u64.bits (n : Int)).toNat = n := by
    rw [hb, BitVec.ofInt_natCast, BitVec.toNat_ofNat, Nat.mod_eq_of_lt (by omega)]
  have e2 : (BitVec.ofInt IntKind.u64.bits 4294967295).toNat = 2 ^ 32 - 1 := by decide
  rw [BitVec.toNat_and, e1, e2, Nat.and_two_pow_sub_one_eq_mod]
  have e3 : ((n % 2 ^ 32 : Nat) : Int) = (n : Int) % 4294967296 := by omega
  rw [e3]
  exact wrap_in _ _ (by simp [klo]; omega) (by simp [khi]; omega)

theorem shr32 (x : Int) : shrZ .u64 x 32 = x / 4294967296 := by
  have := shr_eq (k := .u64) (n := 32) (by decide) x
  simpa using this

theorem wrap_u64 {x : Int} (h1 : 0 ≤ x) (h2 : x ≤ 18446744073709551615) : IntKind.wrap .u64 x = x := wrap_in _ _ (by simp [klo]; omega) (by simp [khi]; omega)

/-- the high half of a product -/
theorem high_half {a X hi : Int} (ha0 : 0 ≤ a) (ha : a ≤ 18446744073709551615) (hX0 : 0 ≤ X) (hX : X < 4294967296)
    (h : hi = a / 4294967296 * 0 + (a / 4294967296 * X + a % 4294967296 * X / 4294967296) / 4294967296 + ((a / 4294967296 * X + a % 4294967296 * X / 4294967296) % 4294967296 + a % 4294967296 * 0) / 4294967296) :
    18446744073709551616 * hi ≤ a * X ∧ a * X < 18446744073709551616 * hi + 18446744073709551616 := by
  have e : a * X = 4294967296 * (a / 4294967296 * X) + a % 4294967296 * X := by
    have : a = 4294967296 * (a / 4294967296) + a % 4294967296 := by omega
    generalize a / 4294967296 = q at *
    generalize a % 4294967296 = r at *
    rw [this]; grind
  rw [e]
  generalize a / 4294967296 * X = p at *
  generalize a % 4294967296 * X = r at *
  omega
end Go.Eng
