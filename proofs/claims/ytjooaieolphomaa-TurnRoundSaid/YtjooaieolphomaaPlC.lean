/-
  Plain laws of numbers, part C: a number's level, and 1 by its root.
-/
import Derived.Test.YtjooaieolphomaaPlB
set_option linter.unusedVariables false
set_option linter.unusedSimpArgs false
namespace Go.Eng

theorem band30 : ∀ k : Fin 32, band .i32 (32 - ((k.val : Int) + 1)) 30 = 2 * ((31 - (k.val : Int)) / 2) := by decide +kernel
theorem band31 : ∀ k : Fin 16, band .i32 (2 * (k.val : Int)) 31 = 2 * (k.val : Int) := by decide +kernel
theorem band31' : ∀ k : Fin 32, band .i32 (k.val : Int) 31 = (k.val : Int) := by decide +kernel

theorem shl_eq {k : IntKind} {n : Nat} (hn : n ≤ k.bits) (x : Int) : shlZ k x n = k.wrap (x * 2 ^ n) := by
  unfold shlZ; simp only [BO.ev]
  have : Nat.min ((n : Int)).toNat k.bits = n := by rw [Int.toNat_natCast]; exact Nat.min_eq_left hn
  rw [this]
theorem shr_eq {k : IntKind} {n : Nat} (hn : n ≤ k.bits) (x : Int) : shrZ k x n = x / 2 ^ n := by
  unfold shrZ; simp only [BO.ev]
  have : Nat.min ((n : Int)).toNat k.bits = n := by rw [Int.toNat_natCast]; exact Nat.min_eq_left hn
  rw [this, Int.fdiv_eq_ediv_of_nonneg _ (Int.le_of_lt (Int.pow_pos (by decide)))]

theorem shl_key (k : Nat) (hk : k ≤ 31) {x : Int} (h1 : 2 ^ k ≤ x) (h2 : x < 2 ^ (k + 1)) :
    1073741824 ≤ x * 2 ^ (2 * ((31 - k) / 2)) ∧ x * 2 ^ (2 * ((31 - k) / 2)) < 4294967296 := by
  have hs : (0 : Int) < 2 ^ (2 * ((31 - k) / 2)) := Int.pow_pos (by omega)
  have e1 := Int.mul_le_mul_of_nonneg_right h1 (Int.le_of_lt hs)
  have e2 := Int.mul_lt_mul_of_pos_right h2 hs
  rw [← Int.pow_add] at e1 e2
  have p1 : (2 : Nat) ^ 30 ≤ 2 ^ (k + 2 * ((31 - k) / 2)) := Nat.pow_le_pow_right (by omega) (by omega)
  have p2 : (2 : Nat) ^ (k + 1 + 2 * ((31 - k) / 2)) ≤ 2 ^ 32 := Nat.pow_le_pow_right (by omega) (by omega)
  have q1 : (2 : Int) ^ 30 ≤ 2 ^ (k + 2 * ((31 - k) / 2)) := by exact_mod_cast p1
  have q2 : (2 : Int) ^ (k + 1 + 2 * ((31 - k) / 2)) ≤ 2 ^ 32 := by exact_mod_cast p2
  have c1 : (2 : Int) ^ 30 = 1073741824 := by decide
  have c2 : (2 : Int) ^ 32 = 4294967296 := by decide
  omega

/-- the level of a number from 1 on -/
theorem level {x : Int} (h1 : 1 ≤ x) (h2 : x ≤ 2147483647) : ∃ h : Nat, h ≤ 15 ∧ band .i32 (32 - blen (IntKind.wrap .u32 x)) 30 = 2 * h ∧ band .i32 (2 * (h : Int)) 31 = 2 * h ∧
    shlZ .u32 (IntKind.wrap .u32 x) (2 * h) = x * 2 ^ (2 * h) ∧ 1073741824 ≤ x * 2 ^ (2 * h) ∧ x * 2 ^ (2 * h) < 4294967296 := by
  rw [wrap_u32 (by omega) (by omega)]
  obtain ⟨k, hk, b1, b2, hb⟩ := blen_cases h1 (by omega)
  rw [hb]
  obtain ⟨s1, s2⟩ := shl_key k hk b1 b2
  refine ⟨(31 - k) / 2, by omega, ?_, ?_, ?_, s1, s2⟩
  · have := band30 ⟨k, by omega⟩
    simp only at this
    rw [this]; omega
  · exact band31 ⟨(31 - k) / 2, by omega⟩
  · have := shl_eq (k := .u32) (n := 2 * ((31 - k) / 2)) (by show _ ≤ 32; omega) x
    rw [show (2 * (((31 - k) / 2 : Nat) : Int)) = ((2 * ((31 - k) / 2) : Nat) : Int) by omega, this, wrap_u32 (by omega) (by omega)]

/-- 1 by the root: z, with z² times the number's level near to 2^90 -/
theorem root_near {X u z : Int} (hX1 : 1073741824 ≤ X) (hX2 : X < 4294967296) (hu : u = X / 4) (hz : z = stepZ u (stepZ u (stepZ u (stepZ u (root0 u))))) :
    0 ≤ z ∧ 268435456 ≤ z ∧ z ≤ 1073741824 + 24 ∧ -54188302518488530944 ≤ X * (z * z) - 1237940039285380274899124224 ∧ X * (z * z) - 1237940039285380274899124224 ≤ 54188302518488530944 := by
  obtain ⟨r0, r1, r2⟩ := root_res (u := u) (by omega) (by omega)
  rw [← hz] at r0 r1 r2
  obtain ⟨z1, z2⟩ := res_range (u := u) (by omega) (by omega) r0 (by omega) (by omega)
  have hs : ∃ s, s = X - 4 * u ∧ 0 ≤ s ∧ s ≤ 3 := ⟨_, rfl, by omega, by omega⟩
  obtain ⟨s, hs, s0, s3⟩ := hs
  have hX : X = 4 * u + s := by omega
  have e : X * (z * z) = 4 * (u * (z * z)) + s * (z * z) := by rw [hX]; grind
  unfold resZ at *
  -- z is at most a little above 2^30
  have hz3 : z ≤ 1073741824 + 24 := by
    rcases Int.lt_or_le (1073741824 + 24) z with h | h
    · exfalso
      have a1 := Int.mul_le_mul (show 1073741849 ≤ z by omega) (show 1073741849 ≤ z by omega) (by decide) (by omega)
      have a2 := Int.mul_le_mul (show 268435456 ≤ u by omega) a1 (by decide) (by omega)
      omega
    · exact h
  obtain ⟨q1, q2⟩ := mul_bd0 r0 hz3 r0 hz3
  obtain ⟨q3, q4⟩ := mul_bd0 s0 s3 q1 q2
  refine ⟨r0, z1, hz3, ?_, ?_⟩ <;> omega
end Go.Eng
