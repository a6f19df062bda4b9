/-
  Plain laws of numbers, part B: four steps of Newton's.
-/
import Derived.Test.YtjooaieolphomaaPlA
set_option linter.unusedVariables false
set_option linter.unusedSimpArgs false
namespace Go.Eng

theorem newton (S u z w D z' : Int) (hw : w = 4 * (u * (z * z)) - S * S * S) (hD : 2 * (S * S * S) * z' = z * (2 * (S * S * S) - w) + D) :
    4 * (S * S * S) * (S * S * S) * (4 * (u * (z' * z')) - S * S * S) = w * w * w - 3 * (S * S * S) * (w * w) + 8 * (u * z) * (2 * (S * S * S) - w) * D + 4 * u * (D * D) := by
  grind

/-- what is left behind a step -/
theorem step_res {u z W : Int} (hu0 : 268435456 ≤ u) (hu : u ≤ 1073741823) (hz0 : 268435456 ≤ z) (hz : z ≤ 1288490188) (h1 : -W ≤ resZ u z) (h2 : resZ u z ≤ W) (hW : W ≤ 495176015714152109959649689) :
    4 * (1237940039285380274899124224 * 1237940039285380274899124224) * resZ u (stepZ u z) ≤ W * W * (3 * 1237940039285380274899124224 + W) + 164 * (1237940039285380274899124224 * 1237940039285380274899124224 * 1152921504606846976) ∧
    -(W * W * (3 * 1237940039285380274899124224 + W) + 164 * (1237940039285380274899124224 * 1237940039285380274899124224 * 1152921504606846976)) ≤ 4 * (1237940039285380274899124224 * 1237940039285380274899124224) * resZ u (stepZ u z) ∧ 0 ≤ stepZ u z := by
  obtain ⟨D, d1, d2, hD⟩ := step_near hu0 hu (by omega) hz (Int.le_trans h2 hW)
  have key := newton 1073741824 u z (resZ u z) D (stepZ u z) (by unfold resZ; omega) hD
  have hpos : 0 ≤ stepZ u z := by
    have hz1 := Int.mul_le_mul_of_nonneg_left (show 1980704062856608439838598759 ≤ 2475880078570760549798248448 - resZ u z by omega) (by omega : 0 ≤ z)
    have hz2 := Int.mul_le_mul_of_nonneg_right hz0 (show (0 : Int) ≤ 1980704062856608439838598759 by decide)
    omega
  have hres : 4 * (u * (stepZ u z * stepZ u z)) - 1073741824 * 1073741824 * 1073741824 = resZ u (stepZ u z) := rfl
  rw [hres] at key
  have hT : (1073741824 : Int) * 1073741824 * 1073741824 = 1237940039285380274899124224 := by decide
  rw [hT] at key
  generalize resZ u (stepZ u z) = w' at key ⊢
  generalize resZ u z = w at *
  -- the cube
  have c0 : 0 ≤ (W - w) * (W + w) := Int.mul_nonneg (by omega) (by omega)
  have c1 : w * w ≤ W * W := by grind
  have c2 : 0 ≤ w * w := by
    rcases Int.le_total 0 w with h | h
    · exact Int.mul_nonneg h h
    · exact Int.mul_nonneg_of_nonpos_of_nonpos h h
  obtain ⟨c3, c4⟩ := mul_bd0 c2 c1 (show 0 ≤ 3 * 1237940039285380274899124224 - w by omega) (show 3 * 1237940039285380274899124224 - w ≤ 3 * 1237940039285380274899124224 + W by omega)
  have c5 : w * w * w - 3 * 1237940039285380274899124224 * (w * w) = -(w * w * (3 * 1237940039285380274899124224 - w)) := by grind
  -- the mixed part
  obtain ⟨m1, m2⟩ := mul_bd0 (by omega : 0 ≤ u) hu (by omega : 0 ≤ z) hz
  obtain ⟨m3, m4⟩ := mul_bd0 m1 m2 (show 0 ≤ 2 * 1237940039285380274899124224 - w by omega) (show 2 * 1237940039285380274899124224 - w ≤ 2971056094284912659757898138 by omega)
  obtain ⟨m5, m6⟩ := mul_bd (show -(1073741823 * 1288490188 * 2971056094284912659757898138) ≤ u * z * (2 * 1237940039285380274899124224 - w) by omega) m4 (show -8665580274997661924293869568 ≤ D by omega) d2
  have m7 : 8 * (u * z) * (2 * 1237940039285380274899124224 - w) * D = 8 * (u * z * (2 * 1237940039285380274899124224 - w) * D) := by grind
  -- the square
  obtain ⟨s1, s2⟩ := mul_bd (show -8665580274997661924293869568 ≤ D by omega) d2 d1 d2
  have s0 : 0 ≤ D * D := by
    rcases Int.le_total 0 D with h | h
    · exact Int.mul_nonneg h h
    · exact Int.mul_nonneg_of_nonpos_of_nonpos h h
  obtain ⟨s3, s4⟩ := mul_bd0 (by omega : 0 ≤ u) hu s0 s2
  have s5 : 4 * u * (D * D) = 4 * (u * (D * D)) := by grind
  have k2 : 4 * 1237940039285380274899124224 * 1237940039285380274899124224 * w' = 4 * (1237940039285380274899124224 * 1237940039285380274899124224) * w' := by grind
  rw [k2, c5, m7, s5] at key
  generalize w * w * (3 * 1237940039285380274899124224 - w) = X at *
  generalize u * z * (2 * 1237940039285380274899124224 - w) * D = Y at *
  generalize u * (D * D) = Z at *
  generalize W * W * (3 * 1237940039285380274899124224 + W) = V at *
  refine ⟨by omega, by omega, hpos⟩

/-- where z lies, by what is left -/
theorem res_range {u z : Int} (hu0 : 268435456 ≤ u) (hu : u ≤ 1073741823) (hz : 0 ≤ z) (h1 : -433279013749883096214693478 ≤ resZ u z) (h2 : resZ u z ≤ 495176015714152109959649689) : 268435456 ≤ z ∧ z ≤ 1288490188 := by
  unfold resZ at *
  constructor
  · rcases Int.lt_or_le z 268435456 with h | h
    · exfalso
      obtain ⟨a1, a2⟩ := mul_bd0 hz (show z ≤ 268435455 by omega) hz (show z ≤ 268435455 by omega)
      obtain ⟨b1, b2⟩ := mul_bd0 (by omega : 0 ≤ u) hu a1 a2
      omega
    · exact h
  · rcases Int.lt_or_le 1288490188 z with h | h
    · exfalso
      have a1 := Int.mul_le_mul (show 1288490189 ≤ z by omega) (show 1288490189 ≤ z by omega) (by decide) (by omega)
      have a2 := Int.mul_le_mul hu0 a1 (by decide) (by omega)
      omega
    · exact h
/-! ### the first guess, and four steps -/

def root0 (u : Int) : Int := minZ (1184766729 - mulqZ 715827883 u) 2147483647

theorem root0_res {u : Int} (hu0 : 268435456 ≤ u) (hu : u ≤ 1073741823) : 0 ≤ root0 u ∧ -433279013749883096214693478 ≤ resZ u (root0 u) ∧ resZ u (root0 u) ≤ 433279013749883096214693478 := by
  have hm := mulq_near (x := 715827883) (y := u) rfl (by omega) (by omega)
  unfold root0
  generalize mulqZ 715827883 u = m at hm ⊢
  have hmin : minZ (1184766729 - m) 2147483647 = 1184766729 - m := by unfold minZ; rw [if_neg (by omega)]
  rw [hmin]
  refine ⟨by omega, ?_, ?_⟩
  · unfold resZ
    have hcase : u ≤ 429496728 ∨ (429496729 ≤ u ∧ u ≤ 697932184) ∨ (697932185 ≤ u ∧ u ≤ 912680549) ∨ (912680550 ≤ u ∧ u ≤ 1020054731) ∨ 1020054732 ≤ u := by omega
    rcases hcase with h | h | h | h | h
    · obtain ⟨a1, a2⟩ : 268435456 ≤ u ∧ 898435577 ≤ 1184766729 - m := by omega
      have b1 := Int.mul_le_mul a2 a2 (by decide) (by omega)
      have b2 := Int.mul_le_mul a1 b1 (by decide) (by omega)
      omega
    · obtain ⟨a1, a2⟩ : 429496729 ≤ u ∧ 719478606 ≤ 1184766729 - m := by omega
      have b1 := Int.mul_le_mul a2 a2 (by decide) (by omega)
      have b2 := Int.mul_le_mul a1 b1 (by decide) (by omega)
      omega
    · obtain ⟨a1, a2⟩ : 697932185 ≤ u ∧ 576313029 ≤ 1184766729 - m := by omega
      have b1 := Int.mul_le_mul a2 a2 (by decide) (by omega)
      have b2 := Int.mul_le_mul a1 b1 (by decide) (by omega)
      omega
    · obtain ⟨a1, a2⟩ : 912680550 ≤ u ∧ 504730241 ≤ 1184766729 - m := by omega
      have b1 := Int.mul_le_mul a2 a2 (by decide) (by omega)
      have b2 := Int.mul_le_mul a1 b1 (by decide) (by omega)
      omega
    · obtain ⟨a1, a2⟩ : 1020054732 ≤ u ∧ 468938847 ≤ 1184766729 - m := by omega
      have b1 := Int.mul_le_mul a2 a2 (by decide) (by omega)
      have b2 := Int.mul_le_mul a1 b1 (by decide) (by omega)
      omega
  · -- the greatest of u(A - Bu)²
    have hy : 2147483648 * (1184766729 - m) ≤ 2544267178295689216 - 1431655766 * u := by omega
    have hy0 : 0 ≤ 2147483648 * (1184766729 - m) := by omega
    have s1 := Int.mul_le_mul hy hy hy0 (by omega)
    have s2 := Int.mul_le_mul_of_nonneg_left s1 (by omega : 0 ≤ u)
    have s3 : 0 ≤ (4 * 2544267178295689216 - 3 * (1431655766 * u)) * ((3 * (1431655766 * u) - 2544267178295689216) * (3 * (1431655766 * u) - 2544267178295689216)) := by
      refine Int.mul_nonneg (by omega) ?_
      rcases Int.le_total 0 (3 * (1431655766 * u) - 2544267178295689216) with h | h
      · exact Int.mul_nonneg h h
      · exact Int.mul_nonneg_of_nonpos_of_nonpos h h
    have s4 : 27 * (1431655766 * (u * ((2544267178295689216 - 1431655766 * u) * (2544267178295689216 - 1431655766 * u)))) = 4 * (2544267178295689216 * 2544267178295689216 * 2544267178295689216) - (4 * 2544267178295689216 - 3 * (1431655766 * u)) * ((3 * (1431655766 * u) - 2544267178295689216) * (3 * (1431655766 * u) - 2544267178295689216)) := by grind
    have s5 : u * (2147483648 * (1184766729 - m) * (2147483648 * (1184766729 - m))) = 4611686018427387904 * (u * ((1184766729 - m) * (1184766729 - m))) := by grind
    rw [s5] at s2
    unfold resZ
    generalize u * ((1184766729 - m) * (1184766729 - m)) = X at *
    generalize (4 * 2544267178295689216 - 3 * (1431655766 * u)) * ((3 * (1431655766 * u) - 2544267178295689216) * (3 * (1431655766 * u) - 2544267178295689216)) = Y at *
    generalize u * ((2544267178295689216 - 1431655766 * u) * (2544267178295689216 - 1431655766 * u)) = Z at *
    omega

theorem step_chain {u z W W' : Int} (hu0 : 268435456 ≤ u) (hu : u ≤ 1073741823) (hz : 0 ≤ z) (h1 : -W ≤ resZ u z) (h2 : resZ u z ≤ W) (hW : W ≤ 433279013749883096214693478)
    (hW' : W * W * (3 * 1237940039285380274899124224 + W) + 164 * (1237940039285380274899124224 * 1237940039285380274899124224 * 1152921504606846976) ≤ 4 * (1237940039285380274899124224 * 1237940039285380274899124224) * W') :
    0 ≤ stepZ u z ∧ -W' ≤ resZ u (stepZ u z) ∧ resZ u (stepZ u z) ≤ W' := by
  obtain ⟨r1, r2⟩ := res_range hu0 hu hz (by omega) (by omega)
  obtain ⟨s1, s2, s3⟩ := step_res hu0 hu r1 r2 h1 h2 (by omega)
  refine ⟨s3, ?_, ?_⟩
  · generalize W * W * (3 * 1237940039285380274899124224 + W) = V at *
    omega
  · generalize W * W * (3 * 1237940039285380274899124224 + W) = V at *
    omega

/-- behind four steps -/
theorem root_res {u : Int} (hu0 : 268435456 ≤ u) (hu : u ≤ 1073741823) :
    0 ≤ stepZ u (stepZ u (stepZ u (stepZ u (root0 u)))) ∧ -50728546202701266944 ≤ resZ u (stepZ u (stepZ u (stepZ u (stepZ u (root0 u))))) ∧ resZ u (stepZ u (stepZ u (stepZ u (stepZ u (root0 u))))) ≤ 50728546202701266944 := by
  obtain ⟨a0, a1, a2⟩ := root0_res hu0 hu
  obtain ⟨b0, b1, b2⟩ := step_chain (W' := 127507824046394168314609795) hu0 hu a0 a1 a2 (by decide) (by decide)
  obtain ⟨c0, c1, c2⟩ := step_chain (W' := 10274902326068656281662731) hu0 hu b0 b1 b2 (by decide) (by decide)
  obtain ⟨d0, d1, d2⟩ := step_chain (W' := 64372882042839774294754) hu0 hu c0 c1 c2 (by decide) (by decide)
  exact step_chain (W' := 50728546202701266944) hu0 hu d0 d1 d2 (by decide) (by decide)
end Go.Eng
