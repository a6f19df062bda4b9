/-
  Plain laws of numbers, part H: a quaternion of the norm 1.
-/
import Derived.Test.YtjooaieolphomaaPlG
set_option linter.unusedVariables false
set_option linter.unusedSimpArgs false
namespace Go.Eng

/-- a sum of squares that was not cut -/
theorem norm_near {a0 a1 a2 a3 y0 y1 y2 : Int} (e0 : y0 = sat32 (mulqZ a0 a0 + mulqZ a1 a1)) (e1 : y1 = sat32 (y0 + mulqZ a2 a2)) (e2 : y2 = sat32 (y1 + mulqZ a3 a3)) (h : y2 ≤ 2146435072) :
    1073741824 * y2 - 2147483648 ≤ a0 * a0 + a1 * a1 + a2 * a2 + a3 * a3 ∧ a0 * a0 + a1 * a1 + a2 * a2 + a3 * a3 ≤ 1073741824 * y2 + 2147483648 := by
  have sq : ∀ a : Int, (0 ≤ mulqZ a a ∧ (mulqZ a a ≤ 2147483646 → 1073741824 * mulqZ a a ≤ a * a + 536870912 ∧ a * a + 536870912 < 1073741824 * mulqZ a a + 1073741824)) := by
    intro a
    have h0 := sq_nonneg' a
    rw [mulqZ_eq]
    generalize a * a = p at *
    unfold satZ
    constructor
    · split <;> (try split) <;> omega
    · split <;> (try split) <;> omega
  obtain ⟨p0, q0⟩ := sq a0
  obtain ⟨p1, q1⟩ := sq a1
  obtain ⟨p2, q2⟩ := sq a2
  obtain ⟨p3, q3⟩ := sq a3
  have st : ∀ m : Int, 0 ≤ m → (sat32 m = m ∧ m ≤ 2147483647) ∨ (sat32 m = 2147483647 ∧ 2147483647 < m) := by
    intro m hm
    unfold sat32
    rw [sat_eq]
    unfold satZ
    split
    · omega
    · split <;> omega
  have s0 := st (mulqZ a0 a0 + mulqZ a1 a1) (by omega)
  have s1 := st (y0 + mulqZ a2 a2) (by omega)
  have s2 := st (y1 + mulqZ a3 a3) (by omega)
  rw [← e0] at s0
  rw [← e1] at s1
  rw [← e2] at s2
  generalize mulqZ a0 a0 = m0 at *
  generalize mulqZ a1 a1 = m1 at *
  generalize mulqZ a2 a2 = m2 at *
  generalize mulqZ a3 a3 = m3 at *
  clear e0 e1 e2 st sq
  generalize a0 * a0 = b0 at *
  generalize a1 * a1 = b1 at *
  generalize a2 * a2 = b2 at *
  generalize a3 * a3 = b3 at *
  have k0 := q0 (by omega)
  have k1 := q1 (by omega)
  have k2 := q2 (by omega)
  have k3 := q3 (by omega)
  clear q0 q1 q2 q3
  have : y2 = m0 + m1 + m2 + m3 := by omega
  omega

/-- a square of what is near -/
theorem sq_near {B s : Int} (hB1 : -1164450719652915445 ≤ B) (hB2 : B ≤ 1164450719652915445) (h1 : 1073741824 * s ≤ B + 1073741824) (h2 : B - 1073741824 ≤ 1073741824 * s) :
    B * B - 2513018279749322143183078400 ≤ 1152921504606846976 * (s * s) ∧ 1152921504606846976 * (s * s) ≤ B * B + 2513018279749322143183078400 := by
  obtain ⟨t, ht⟩ : ∃ t, t = 1073741824 * s - B := ⟨_, rfl⟩
  obtain ⟨m1, m2⟩ := mul_bd (show -1073741824 ≤ t by omega) (show t ≤ 1073741824 by omega) (show -(2 * 1164450719652915445 + 1073741824) ≤ 2 * B + t by omega) (show 2 * B + t ≤ 2 * 1164450719652915445 + 1073741824 by omega)
  have e : 1152921504606846976 * (s * s) = B * B + t * (2 * B + t) := by
    have : 1073741824 * s = B + t := by omega
    have h3 : 1152921504606846976 * (s * s) = (1073741824 * s) * (1073741824 * s) := by grind
    rw [h3, this]; grind
  rw [e]
  generalize t * (2 * B + t) = c at *
  omega

/-- one part of it -/
theorem part_near {a z X N Q P2 : Int} {h : Nat} (hh : h ≤ 15) (hQ : Q = 2 ^ h) (hX : X = N * 2 ^ (2 * h)) (hX2 : X < 4294967296) (hN1 : 536870912 ≤ N)
    (hV1 : -54188302518488530944 ≤ X * (z * z) - 1237940039285380274899124224) (hV2 : X * (z * z) - 1237940039285380274899124224 ≤ 54188302518488530944)
    (hP : P2 ≤ 1073741824 * N + 2147483648) (ha : a * a ≤ P2) :
    Q ≤ 2 ∧ 1 ≤ Q ∧ ∃ s : Int, IntKind.wrap .i32 (shlZ .u32 (IntKind.wrap .u32 (mulqZ a z)) h) = s ∧ 1073741824 * s ≤ a * z * Q + 1073741824 ∧ a * z * Q - 1073741824 ≤ 1073741824 * s ∧
      -1164450719652915445 ≤ a * z * Q ∧ a * z * Q ≤ 1164450719652915445 := by
  have hQ1 : 1 ≤ Q := by rw [hQ]; exact Int.pow_pos (n := 2) (m := h) (by decide)
  have hXQ : X = N * (Q * Q) := by rw [hX, ← pow_sq, ← hQ]
  have hQ2 : Q ≤ 2 := by
    rcases Int.lt_or_le 2 Q with h' | h'
    · exfalso
      have a1 := Int.mul_le_mul (show 3 ≤ Q by omega) (show 3 ≤ Q by omega) (by decide) (by omega)
      have a2 := Int.mul_le_mul hN1 a1 (by decide) (by omega)
      omega
    · exact h'
  -- the square of a z Q
  have zz := sq_nonneg' z
  have qq := sq_nonneg' Q
  have hzq := Int.mul_nonneg zz qq
  have hsq : (a * z * Q) * (a * z * Q) = a * a * (z * z * (Q * Q)) := by grind
  have hV : X * (z * z) = N * (z * z * (Q * Q)) := by rw [hXQ]; grind
  rw [hV] at hV1 hV2
  have b1 := Int.mul_le_mul_of_nonneg_right (show a * a ≤ 1073741828 * N by omega) hzq
  have b2 : 1073741828 * N * (z * z * (Q * Q)) = 1073741828 * (N * (z * z * (Q * Q))) := by grind
  rw [b2] at b1
  have hB : (a * z * Q) * (a * z * Q) ≤ 1164450719652915445 * 1164450719652915445 := by rw [hsq]; omega
  have hB2 := le_of_sq (by decide) hB
  have hB1 : -(a * z * Q) ≤ 1164450719652915445 := le_of_sq (by decide) (by rw [Int.neg_mul_neg]; exact hB)
  obtain ⟨s, hs, s1, s2⟩ := scale_near (v := a) (z := z) hh hQ (by omega) (by omega)
  exact ⟨hQ2, hQ1, s, hs, by omega, by omega, by omega, by omega⟩

/-- all of it: near to 2^60 -/
theorem unit_norm {a0 a1 a2 a3 s0 s1 s2 s3 z Q X N : Int} (hXQ : X = N * (Q * Q)) (hN1 : 536870912 ≤ N)
    (hV1 : -54188302518488530944 ≤ X * (z * z) - 1237940039285380274899124224) (hV2 : X * (z * z) - 1237940039285380274899124224 ≤ 54188302518488530944)
    (hP1 : 1073741824 * N - 2147483648 ≤ a0 * a0 + a1 * a1 + a2 * a2 + a3 * a3) (hP2 : a0 * a0 + a1 * a1 + a2 * a2 + a3 * a3 ≤ 1073741824 * N + 2147483648)
    (q0 : (a0 * z * Q) * (a0 * z * Q) - 2513018279749322143183078400 ≤ 1152921504606846976 * (s0 * s0) ∧ 1152921504606846976 * (s0 * s0) ≤ (a0 * z * Q) * (a0 * z * Q) + 2513018279749322143183078400)
    (q1 : (a1 * z * Q) * (a1 * z * Q) - 2513018279749322143183078400 ≤ 1152921504606846976 * (s1 * s1) ∧ 1152921504606846976 * (s1 * s1) ≤ (a1 * z * Q) * (a1 * z * Q) + 2513018279749322143183078400)
    (q2 : (a2 * z * Q) * (a2 * z * Q) - 2513018279749322143183078400 ≤ 1152921504606846976 * (s2 * s2) ∧ 1152921504606846976 * (s2 * s2) ≤ (a2 * z * Q) * (a2 * z * Q) + 2513018279749322143183078400)
    (q3 : (a3 * z * Q) * (a3 * z * Q) - 2513018279749322143183078400 ≤ 1152921504606846976 * (s3 * s3) ∧ 1152921504606846976 * (s3 * s3) ≤ (a3 * z * Q) * (a3 * z * Q) + 2513018279749322143183078400) :
    -68719476736 < s0 * s0 + s1 * s1 + s2 * s2 + s3 * s3 - 1152921504606846976 ∧ s0 * s0 + s1 * s1 + s2 * s2 + s3 * s3 - 1152921504606846976 < 68719476736 := by
  have zz := sq_nonneg' z
  have qq := sq_nonneg' Q
  have hzq := Int.mul_nonneg zz qq
  have hV : X * (z * z) = N * (z * z * (Q * Q)) := by rw [hXQ]; grind
  rw [hV] at hV1 hV2
  have e : (a0 * z * Q) * (a0 * z * Q) + (a1 * z * Q) * (a1 * z * Q) + (a2 * z * Q) * (a2 * z * Q) + (a3 * z * Q) * (a3 * z * Q) = (a0 * a0 + a1 * a1 + a2 * a2 + a3 * a3) * (z * z * (Q * Q)) := by grind
  have b1 := Int.mul_le_mul_of_nonneg_right (show a0 * a0 + a1 * a1 + a2 * a2 + a3 * a3 ≤ 1073741828 * N by omega) hzq
  have b2 := Int.mul_le_mul_of_nonneg_right (show 1073741820 * N ≤ a0 * a0 + a1 * a1 + a2 * a2 + a3 * a3 by omega) hzq
  have b3 : 1073741828 * N * (z * z * (Q * Q)) = 1073741828 * (N * (z * z * (Q * Q))) := by grind
  have b4 : 1073741820 * N * (z * z * (Q * Q)) = 1073741820 * (N * (z * z * (Q * Q))) := by grind
  rw [b3, ← e] at b1
  rw [b4, ← e] at b2
  generalize N * (z * z * (Q * Q)) = V at *
  generalize (a0 * z * Q) * (a0 * z * Q) = B0 at *
  generalize (a1 * z * Q) * (a1 * z * Q) = B1 at *
  generalize (a2 * z * Q) * (a2 * z * Q) = B2 at *
  generalize (a3 * z * Q) * (a3 * z * Q) = B3 at *
  generalize s0 * s0 = c0 at *
  generalize s1 * s1 = c1 at *
  generalize s2 * s2 = c2 at *
  generalize s3 * s3 = c3 at *
  omega

/-- it points where it did -/
theorem cross_near {a b s t z Q N : Int} (hN : N ≤ 2146435072) (ha : a * a ≤ 1073741824 * N + 2147483648) (hb : b * b ≤ 1073741824 * N + 2147483648)
    (s1 : 1073741824 * s ≤ a * z * Q + 1073741824) (s2 : a * z * Q - 1073741824 ≤ 1073741824 * s) (t1 : 1073741824 * t ≤ b * z * Q + 1073741824) (t2 : b * z * Q - 1073741824 ≤ 1073741824 * t) :
    -8589934592 < s * b - t * a ∧ s * b - t * a < 8589934592 := by
  have bd : ∀ x : Int, x * x ≤ 1073741824 * N + 2147483648 → -1610612736 ≤ x ∧ x ≤ 1610612736 := by
    intro x hx
    have h2 := le_of_sq (a := x) (b := 1610612736) (by decide) (by omega)
    have h1 := le_of_sq (a := -x) (b := 1610612736) (by decide) (by rw [Int.neg_mul_neg]; omega)
    omega
  obtain ⟨a1, a2⟩ := bd a ha
  obtain ⟨b1, b2⟩ := bd b hb
  obtain ⟨p, hp⟩ : ∃ p, p = 1073741824 * s - a * z * Q := ⟨_, rfl⟩
  obtain ⟨q, hq⟩ : ∃ q, q = 1073741824 * t - b * z * Q := ⟨_, rfl⟩
  have key : 1073741824 * (s * b - t * a) = p * b - q * a := by rw [hp, hq]; grind
  obtain ⟨m1, m2⟩ := mul_bd (show -1073741824 ≤ p by omega) (show p ≤ 1073741824 by omega) b1 b2
  obtain ⟨m3, m4⟩ := mul_bd (show -1073741824 ≤ q by omega) (show q ≤ 1073741824 by omega) a1 a2
  generalize p * b = c at *
  generalize q * a = d at *
  omega
end Go.Eng
