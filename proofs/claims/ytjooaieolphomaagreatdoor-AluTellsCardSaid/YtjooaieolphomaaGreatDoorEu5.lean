/-
  Several parts in one file: the engine, or its laws.
-/
import Derived.Test.YtjooaieolphomaaGreatDoorEu4

/-! Plain laws of numbers, part A: the rounded product and shifts without a cut; Newton's step for 1 by a root. -/
section
set_option linter.unusedVariables false
set_option linter.unusedSimpArgs false

namespace Go.Eng

theorem b01_ne {p : Prop} [Decidable p] : bool01 (decide p) ≠ 0 ↔ p := by by_cases h : p <;> simp [bool01, h]
theorem b01_eq {p : Prop} [Decidable p] : bool01 (decide p) = 0 ↔ ¬ p := by by_cases h : p <;> simp [bool01, h]
theorem b01_beq_ne {x y : Int} : bool01 (x == y) ≠ 0 ↔ x = y := by by_cases h : x = y <;> simp [bool01, h]
theorem b01_beq_eq {x y : Int} : bool01 (x == y) = 0 ↔ x ≠ y := by by_cases h : x = y <;> simp [bool01, h]

theorem sat32_id {x : Int} (h1 : -2147483648 ≤ x) (h2 : x ≤ 2147483647) : sat32 x = x := by
  unfold sat32; rw [sat_eq]; exact satZ_id h1 h2

/-- a rounded product that is not cut: p is the product -/
theorem mulq_near {x y p : Int} (hp : x * y = p) (h1 : -2305843008139952128 ≤ p) (h2 : p ≤ 2305843008139952128) :
    1073741824 * mulqZ x y ≤ p + 536870912 ∧ p + 536870912 < 1073741824 * mulqZ x y + 1073741824 := by
  rw [mulqZ_eq, hp, satZ_id (by omega) (by omega)]
  omega

theorem wrap_u32 {x : Int} (h1 : 0 ≤ x) (h2 : x ≤ 4294967295) : IntKind.wrap .u32 x = x := wrap_in _ _ (by simp [klo]; omega) (by simp [khi]; omega)
theorem wrap_i32 {x : Int} (h1 : -2147483648 ≤ x) (h2 : x ≤ 2147483647) : IntKind.wrap .i32 x = x := wrap_in _ _ (by simp [klo]; omega) (by simp [khi]; omega)

/-- four times -/
theorem shl2 {m : Int} (h1 : 0 ≤ m) (h2 : m ≤ 536870911) : IntKind.wrap .i32 (shlZ .u32 (IntKind.wrap .u32 m) 2) = 4 * m := by
  rw [wrap_u32 h1 (by omega)]
  have : shlZ .u32 m 2 = IntKind.wrap .u32 (4 * m) := by
    unfold shlZ; simp only [BO.ev]
    have : Nat.min (2 : Int).toNat IntKind.u32.bits = 2 := rfl
    rw [this]
    congr 1
    omega
  rw [this, wrap_u32 (by omega) (by omega), wrap_i32 (by omega) (by omega)]
theorem shl1 {m : Int} (h1 : 0 ≤ m) (h2 : m ≤ 1073741823) : IntKind.wrap .i32 (shlZ .u32 (IntKind.wrap .u32 m) 1) = 2 * m := by
  rw [wrap_u32 h1 (by omega)]
  have : shlZ .u32 m 1 = IntKind.wrap .u32 (2 * m) := by
    unfold shlZ; simp only [BO.ev]
    have : Nat.min (1 : Int).toNat IntKind.u32.bits = 1 := rfl
    rw [this]
    congr 1
    omega
  rw [this, wrap_u32 (by omega) (by omega), wrap_i32 (by omega) (by omega)]
theorem half_eq (k : IntKind) (hk : 1 ≤ k.bits) (m : Int) : shrZ k m 1 = m / 2 := by
  unfold shrZ; simp only [BO.ev]
  have : Nat.min (1 : Int).toNat k.bits = 1 := by
    show Nat.min 1 k.bits = 1
    exact Nat.min_eq_left hk
  rw [this, Int.fdiv_eq_ediv_of_nonneg _ (by decide)]; rfl

theorem mul_bd {a b A B : Int} (h1 : -A ≤ a) (h2 : a ≤ A) (h3 : -B ≤ b) (h4 : b ≤ B) : -(A * B) ≤ a * b ∧ a * b ≤ A * B := by
  have h5 := Int.mul_nonneg (Int.sub_nonneg_of_le h2) (Int.sub_nonneg_of_le h4)
  have h6 := Int.mul_nonneg (show 0 ≤ a + A by omega) (show 0 ≤ b + B by omega)
  have h7 := Int.mul_nonneg (Int.sub_nonneg_of_le h2) (show 0 ≤ b + B by omega)
  have h8 := Int.mul_nonneg (show 0 ≤ a + A by omega) (Int.sub_nonneg_of_le h4)
  constructor <;> grind
theorem mul_bd0 {a b A B : Int} (h1 : 0 ≤ a) (h2 : a ≤ A) (h3 : 0 ≤ b) (h4 : b ≤ B) : 0 ≤ a * b ∧ a * b ≤ A * B :=
  ⟨Int.mul_nonneg h1 h3, Int.mul_le_mul h2 h4 h3 (by omega)⟩

/-! ### Newton's step of 1 by a root -/

def stepZ (u z : Int) : Int :=
  sat32 (z + shrZ .i32 (mulqZ z (minZ (1073741824 - IntKind.wrap .i32 (shlZ .u32 (IntKind.wrap .u32 (mulqZ u (mulqZ z z))) 2)) 2147483647)) 1)

/-- what is left: 4uz² - 2^90 -/
def resZ (u z : Int) : Int := 4 * (u * (z * z)) - 1237940039285380274899124224

theorem step_near {u z : Int} (hu0 : 268435456 ≤ u) (hu : u ≤ 1073741823) (hz0 : 1 ≤ z) (hz : z ≤ 1288490188) (hr : resZ u z ≤ 495176015714152109959649689) :
    ∃ D : Int, -8665580274997661924293869568 ≤ D ∧ D ≤ 8665580274997661924293869568 ∧ 2475880078570760549798248448 * stepZ u z = z * (2475880078570760549798248448 - resZ u z) + D := by
  unfold resZ at *
  obtain ⟨zz1, zz2⟩ := mul_bd0 (by omega : 0 ≤ z) hz (by omega : 0 ≤ z) hz
  have hp := mulq_near (x := z) (y := z) rfl (by omega) (by omega)
  unfold stepZ
  generalize mulqZ z z = p at hp ⊢
  have hp0 : 0 ≤ p := by omega
  have hp1 : p ≤ 1546188227 := by omega
  obtain ⟨up1, up2⟩ := mul_bd0 (by omega : 0 ≤ u) hu hp0 hp1
  have hm := mulq_near (x := u) (y := p) rfl (by omega) (by omega)
  generalize mulqZ u p = m at hm ⊢
  have a1 := Int.mul_le_mul_of_nonneg_left hp.1 (by omega : 0 ≤ u)
  have a2 := Int.mul_le_mul_of_nonneg_left (Int.le_of_lt hp.2) (by omega : 0 ≤ u)
  have a1' : 1073741824 * (u * p) ≤ u * (z * z) + 536870912 * u := by grind
  have a2' : u * (z * z) + 536870912 * u ≤ 1073741824 * (u * p) + 1073741824 * u := by grind
  clear a1 a2
  generalize u * (z * z) = c at *
  generalize u * p = b at *
  have hm0 : 0 ≤ m := by omega
  have hm1 : m ≤ 536870911 := by omega
  rw [shl2 hm0 hm1]
  have hmin : minZ (1073741824 - 4 * m) 2147483647 = 1073741824 - 4 * m := by unfold minZ; rw [if_neg (by omega)]
  rw [hmin]
  -- e = 2^30 - 4m
  have he : ∃ e, e = 1073741824 - 4 * m := ⟨_, rfl⟩
  obtain ⟨e, he⟩ := he
  rw [← he]
  have he1 : -1073741824 ≤ e := by omega
  have he2 : e ≤ 1073741824 := by omega
  obtain ⟨ze1, ze2⟩ := mul_bd (by omega : -1288490188 ≤ z) hz he1 he2
  have hn := mulq_near (x := z) (y := e) rfl (by omega) (by omega)
  generalize mulqZ z e = n at hn ⊢
  rw [half_eq _ (by decide)]
  have hk : ∃ k, k = n / 2 := ⟨_, rfl⟩
  obtain ⟨k, hk⟩ := hk
  rw [← hk]
  -- e against what is left
  have e1 : 1152921504606846976 * e ≤ 1237940039285380274899124224 - 4 * c + 4611686018427387904 := by omega
  have e2 : 1237940039285380274899124224 - 4 * c - 4611686018427387904 ≤ 1152921504606846976 * e := by omega
  have f1 := Int.mul_le_mul_of_nonneg_left e1 (by omega : 0 ≤ z)
  have f2 := Int.mul_le_mul_of_nonneg_left e2 (by omega : 0 ≤ z)
  have f1' : 1152921504606846976 * (z * e) ≤ 1237940039285380274899124224 * z - 4 * (z * c) + 4611686018427387904 * z := by grind
  have f2' : 1237940039285380274899124224 * z - 4 * (z * c) - 4611686018427387904 * z ≤ 1152921504606846976 * (z * e) := by grind
  clear f1 f2
  have hid : z * (2475880078570760549798248448 - (4 * c - 1237940039285380274899124224)) = 3713820117856140824697372672 * z - 4 * (z * c) := by grind
  rw [hid]
  clear hid
  generalize z * e = ze at *
  generalize hzc : z * c = zc at *
  have hz' : -2147483648 ≤ z + k ∧ z + k ≤ 2147483647 := by omega
  rw [sat32_id hz'.1 hz'.2]
  refine ⟨2475880078570760549798248448 * (z + k) - (3713820117856140824697372672 * z - 4 * zc), ?_, ?_, by omega⟩ <;> omega
end Go.Eng
end

/-! Plain laws of numbers, part B: four steps of Newton's. -/
section
set_option linter.unusedVariables false
set_option linter.unusedSimpArgs false
namespace Go.Eng

theorem newton (S u z w D z' : Int) (hw : w = 4 * (u * (z * z)) - S * S * S) (hD : 2 * (S * S * S) * z' = z * (2 * (S * S * S) - w) + D) :
    4 * (S * S * S) * (S * S * S) * (4 * (u * (z' * z')) - S * S * S) = w * w * w - 3 * (S * S * S) * (w * w) + 8 * (u * z) * (2 * (S * S * S) - w) * D + 4 * u * (D * D) := by
  grind

/-- what is left behind a step -/
theorem step_res {u z W : Int} (hu0 : 268435456 ≤ u) (hu : u ≤ 1073741823) (hz0 : 268435456 ≤ z) (hz : z ≤ 1288490188) (h1 : -W ≤ resZ u z) (h2 : resZ u z ≤ W) (hW : W ≤ 495176015714152109959649689) :
    4 * (1237940039285380274899124224 * 1237940039285380274899124224) * resZ u (stepZ u z) ≤ W * W * (3 * 1237940039285380274899124224 + W) + 164 * (1237940039285380274899124224 * 1237940039285380274899124224 * 1152921504606846976) ∧
    -(W * W * (3 * 1237940039285380274899124224 + W) + 164 * (1237940039285380274899124224 * 1237940039285380274899124224 * 1152921504606846976)) ≤ 4 * (1237940039285380274899124224 * 1237940039285380274899124224) * resZ u (stepZ u z) ∧ 0 ≤ stepZ u z := by
  obtain ⟨D, d1, d2, hD⟩ := step_near hu0 hu (by omega) hz (Int.le_trans h2 hW)
  have key := newton 1073741824 u z (resZ u z) D (stepZ u z) (by unfold resZ; omega) hD
  have hpos : 0 ≤ stepZ u z := by
    have hz1 := Int.mul_le_mul_of_nonneg_left (show 1980704062856608439838598759 ≤ 2475880078570760549798248448 - resZ u z by omega) (by omega : 0 ≤ z)
    have hz2 := Int.mul_le_mul_of_nonneg_right hz0 (show (0 : Int) ≤ 1980704062856608439838598759 by decide)
    omega
  have hres : 4 * (u * (stepZ u z * stepZ u z)) - 1073741824 * 1073741824 * 1073741824 = resZ u (stepZ u z) := rfl
  rw [hres] at key
  have hT : (1073741824 : Int) * 1073741824 * 1073741824 = 1237940039285380274899124224 := by decide
  rw [hT] at key
  generalize resZ u (stepZ u z) = w' at key ⊢
  generalize resZ u z = w at *
  -- the cube
  have c0 : 0 ≤ (W - w) * (W + w) := Int.mul_nonneg (by omega) (by omega)
  have c1 : w * w ≤ W * W := by grind
  have c2 : 0 ≤ w * w := by
    rcases Int.le_total 0 w with h | h
    · exact Int.mul_nonneg h h
    · exact Int.mul_nonneg_of_nonpos_of_nonpos h h
  obtain ⟨c3, c4⟩ := mul_bd0 c2 c1 (show 0 ≤ 3 * 1237940039285380274899124224 - w by omega) (show 3 * 1237940039285380274899124224 - w ≤ 3 * 1237940039285380274899124224 + W by omega)
  have c5 : w * w * w - 3 * 1237940039285380274899124224 * (w * w) = -(w * w * (3 * 1237940039285380274899124224 - w)) := by grind
  -- the mixed part
  obtain ⟨m1, m2⟩ := mul_bd0 (by omega : 0 ≤ u) hu (by omega : 0 ≤ z) hz
  obtain ⟨m3, m4⟩ := mul_bd0 m1 m2 (show 0 ≤ 2 * 1237940039285380274899124224 - w by omega) (show 2 * 1237940039285380274899124224 - w ≤ 2971056094284912659757898138 by omega)
  obtain ⟨m5, m6⟩ := mul_bd (show -(1073741823 * 1288490188 * 2971056094284912659757898138) ≤ u * z * (2 * 1237940039285380274899124224 - w) by omega) m4 (show -8665580274997661924293869568 ≤ D by omega) d2
  have m7 : 8 * (u * z) * (2 * 1237940039285380274899124224 - w) * D = 8 * (u * z * (2 * 1237940039285380274899124224 - w) * D) := by grind
  -- the square
  obtain ⟨s1, s2⟩ := mul_bd (show -8665580274997661924293869568 ≤ D by omega) d2 d1 d2
  have s0 : 0 ≤ D * D := by
    rcases Int.le_total 0 D with h | h
    · exact Int.mul_nonneg h h
    · exact Int.mul_nonneg_of_nonpos_of_nonpos h h
  obtain ⟨s3, s4⟩ := mul_bd0 (by omega : 0 ≤ u) hu s0 s2
  have s5 : 4 * u * (D * D) = 4 * (u * (D * D)) := by grind
  have k2 : 4 * 1237940039285380274899124224 * 1237940039285380274899124224 * w' = 4 * (1237940039285380274899124224 * 1237940039285380274899124224) * w' := by grind
  rw [k2, c5, m7, s5] at key
  generalize w * w * (3 * 1237940039285380274899124224 - w) = X at *
  generalize u * z * (2 * 1237940039285380274899124224 - w) * D = Y at *
  generalize u * (D * D) = Z at *
  generalize W * W * (3 * 1237940039285380274899124224 + W) = V at *
  refine ⟨by omega, by omega, hpos⟩

/-- where z lies, by what is left -/
theorem res_range {u z : Int} (hu0 : 268435456 ≤ u) (hu : u ≤ 1073741823) (hz : 0 ≤ z) (h1 : -433279013749883096214693478 ≤ resZ u z) (h2 : resZ u z ≤ 495176015714152109959649689) : 268435456 ≤ z ∧ z ≤ 1288490188 := by
  unfold resZ at *
  constructor
  · rcases Int.lt_or_le z 268435456 with h | h
    · exfalso
      obtain ⟨a1, a2⟩ := mul_bd0 hz (show z ≤ 268435455 by omega) hz (show z ≤ 268435455 by omega)
      obtain ⟨b1, b2⟩ := mul_bd0 (by omega : 0 ≤ u) hu a1 a2
      omega
    · exact h
  · rcases Int.lt_or_le 1288490188 z with h | h
    · exfalso
      have a1 := Int.mul_le_mul (show 1288490189 ≤ z by omega) (show 1288490189 ≤ z by omega) (by decide) (by omega)
      have a2 := Int.mul_le_mul hu0 a1 (by decide) (by omega)
      omega
    · exact h
/-! ### the first guess, and four steps -/

def root0 (u : Int) : Int := minZ (1184766729 - mulqZ 715827883 u) 2147483647

theorem root0_res {u : Int} (hu0 : 268435456 ≤ u) (hu : u ≤ 1073741823) : 0 ≤ root0 u ∧ -433279013749883096214693478 ≤ resZ u (root0 u) ∧ resZ u (root0 u) ≤ 433279013749883096214693478 := by
  have hm := mulq_near (x := 715827883) (y := u) rfl (by omega) (by omega)
  unfold root0
  generalize mulqZ 715827883 u = m at hm ⊢
  have hmin : minZ (1184766729 - m) 2147483647 = 1184766729 - m := by unfold minZ; rw [if_neg (by omega)]
  rw [hmin]
  refine ⟨by omega, ?_, ?_⟩
  · unfold resZ
    have hcase : u ≤ 429496728 ∨ (429496729 ≤ u ∧ u ≤ 697932184) ∨ (697932185 ≤ u ∧ u ≤ 912680549) ∨ (912680550 ≤ u ∧ u ≤ 1020054731) ∨ 1020054732 ≤ u := by omega
    rcases hcase with h | h | h | h | h
    · obtain ⟨a1, a2⟩ : 268435456 ≤ u ∧ 898435577 ≤ 1184766729 - m := by omega
      have b1 := Int.mul_le_mul a2 a2 (by decide) (by omega)
      have b2 := Int.mul_le_mul a1 b1 (by decide) (by omega)
      omega
    · obtain ⟨a1, a2⟩ : 429496729 ≤ u ∧ 719478606 ≤ 1184766729 - m := by omega
      have b1 := Int.mul_le_mul a2 a2 (by decide) (by omega)
      have b2 := Int.mul_le_mul a1 b1 (by decide) (by omega)
      omega
    · obtain ⟨a1, a2⟩ : 697932185 ≤ u ∧ 576313029 ≤ 1184766729 - m := by omega
      have b1 := Int.mul_le_mul a2 a2 (by decide) (by omega)
      have b2 := Int.mul_le_mul a1 b1 (by decide) (by omega)
      omega
    · obtain ⟨a1, a2⟩ : 912680550 ≤ u ∧ 504730241 ≤ 1184766729 - m := by omega
      have b1 := Int.mul_le_mul a2 a2 (by decide) (by omega)
      have b2 := Int.mul_le_mul a1 b1 (by decide) (by omega)
      omega
    · obtain ⟨a1, a2⟩ : 1020054732 ≤ u ∧ 468938847 ≤ 1184766729 - m := by omega
      have b1 := Int.mul_le_mul a2 a2 (by decide) (by omega)
      have b2 := Int.mul_le_mul a1 b1 (by decide) (by omega)
      omega
  · -- the greatest of u(A - Bu)²
    have hy : 2147483648 * (1184766729 - m) ≤ 2544267178295689216 - 1431655766 * u := by omega
    have hy0 : 0 ≤ 2147483648 * (1184766729 - m) := by omega
    have s1 := Int.mul_le_mul hy hy hy0 (by omega)
    have s2 := Int.mul_le_mul_of_nonneg_left s1 (by omega : 0 ≤ u)
    have s3 : 0 ≤ (4 * 2544267178295689216 - 3 * (1431655766 * u)) * ((3 * (1431655766 * u) - 2544267178295689216) * (3 * (1431655766 * u) - 2544267178295689216)) := by
      refine Int.mul_nonneg (by omega) ?_
      rcases Int.le_total 0 (3 * (1431655766 * u) - 2544267178295689216) with h | h
      · exact Int.mul_nonneg h h
      · exact Int.mul_nonneg_of_nonpos_of_nonpos h h
    have s4 : 27 * (1431655766 * (u * ((2544267178295689216 - 1431655766 * u) * (2544267178295689216 - 1431655766 * u)))) = 4 * (2544267178295689216 * 2544267178295689216 * 2544267178295689216) - (4 * 2544267178295689216 - 3 * (1431655766 * u)) * ((3 * (1431655766 * u) - 2544267178295689216) * (3 * (1431655766 * u) - 2544267178295689216)) := by grind
    have s5 : u * (2147483648 * (1184766729 - m) * (2147483648 * (1184766729 - m))) = 4611686018427387904 * (u * ((1184766729 - m) * (1184766729 - m))) := by grind
    rw [s5] at s2
    unfold resZ
    generalize u * ((1184766729 - m) * (1184766729 - m)) = X at *
    generalize (4 * 2544267178295689216 - 3 * (1431655766 * u)) * ((3 * (1431655766 * u) - 2544267178295689216) * (3 * (1431655766 * u) - 2544267178295689216)) = Y at *
    generalize u * ((2544267178295689216 - 1431655766 * u) * (2544267178295689216 - 1431655766 * u)) = Z at *
    omega

theorem step_chain {u z W W' : Int} (hu0 : 268435456 ≤ u) (hu : u ≤ 1073741823) (hz : 0 ≤ z) (h1 : -W ≤ resZ u z) (h2 : resZ u z ≤ W) (hW : W ≤ 433279013749883096214693478)
    (hW' : W * W * (3 * 1237940039285380274899124224 + W) + 164 * (1237940039285380274899124224 * 1237940039285380274899124224 * 1152921504606846976) ≤ 4 * (1237940039285380274899124224 * 1237940039285380274899124224) * W') :
    0 ≤ stepZ u z ∧ -W' ≤ resZ u (stepZ u z) ∧ resZ u (stepZ u z) ≤ W' := by
  obtain ⟨r1, r2⟩ := res_range hu0 hu hz (by omega) (by omega)
  obtain ⟨s1, s2, s3⟩ := step_res hu0 hu r1 r2 h1 h2 (by omega)
  refine ⟨s3, ?_, ?_⟩
  · generalize W * W * (3 * 1237940039285380274899124224 + W) = V at *
    omega
  · generalize W * W * (3 * 1237940039285380274899124224 + W) = V at *
    omega

/-- behind four steps -/
theorem root_res {u : Int} (hu0 : 268435456 ≤ u) (hu : u ≤ 1073741823) :
    0 ≤ stepZ u (stepZ u (stepZ u (stepZ u (root0 u)))) ∧ -50728546202701266944 ≤ resZ u (stepZ u (stepZ u (stepZ u (stepZ u (root0 u))))) ∧ resZ u (stepZ u (stepZ u (stepZ u (stepZ u (root0 u))))) ≤ 50728546202701266944 := by
  obtain ⟨a0, a1, a2⟩ := root0_res hu0 hu
  obtain ⟨b0, b1, b2⟩ := step_chain (W' := 127507824046394168314609795) hu0 hu a0 a1 a2 (by decide) (by decide)
  obtain ⟨c0, c1, c2⟩ := step_chain (W' := 10274902326068656281662731) hu0 hu b0 b1 b2 (by decide) (by decide)
  obtain ⟨d0, d1, d2⟩ := step_chain (W' := 64372882042839774294754) hu0 hu c0 c1 c2 (by decide) (by decide)
  exact step_chain (W' := 50728546202701266944) hu0 hu d0 d1 d2 (by decide) (by decide)
end Go.Eng
end

/-! Plain laws of numbers, part C: a number's level, and 1 by its root. -/
section
set_option linter.unusedVariables false
set_option linter.unusedSimpArgs false
set_option linter.unusedSectionVars false
namespace Go.Eng

theorem band30 : ∀ k : Fin 32, band .i32 (32 - ((k.val : Int) + 1)) 30 = 2 * ((31 - (k.val : Int)) / 2) := by decide +kernel
theorem band31 : ∀ k : Fin 16, band .i32 (2 * (k.val : Int)) 31 = 2 * (k.val : Int) := by decide +kernel
theorem band31' : ∀ k : Fin 32, band .i32 (k.val : Int) 31 = (k.val : Int) := by decide +kernel

theorem shl_eq {k : IntKind} {n : Nat} (hn : n ≤ k.bits) (x : Int) : shlZ k x n = k.wrap (x * 2 ^ n) := by
  unfold shlZ; simp only [BO.ev]
  have : Nat.min ((n : Int)).toNat k.bits = n := by rw [Int.toNat_natCast]; exact Nat.min_eq_left hn
  rw [this]
theorem shr_eq {k : IntKind} {n : Nat} (hn : n ≤ k.bits) (x : Int) : shrZ k x n = x / 2 ^ n := by
  unfold shrZ; simp only [BO.ev]
  have : Nat.min ((n : Int)).toNat k.bits = n := by rw [Int.toNat_natCast]; exact Nat.min_eq_left hn
  rw [this, Int.fdiv_eq_ediv_of_nonneg _ (Int.le_of_lt (Int.pow_pos (by decide)))]

theorem shl_key (k : Nat) (hk : k ≤ 31) {x : Int} (h1 : 2 ^ k ≤ x) (h2 : x < 2 ^ (k + 1)) :
    1073741824 ≤ x * 2 ^ (2 * ((31 - k) / 2)) ∧ x * 2 ^ (2 * ((31 - k) / 2)) < 4294967296 := by
  have hs : (0 : Int) < 2 ^ (2 * ((31 - k) / 2)) := Int.pow_pos (by omega)
  have e1 := Int.mul_le_mul_of_nonneg_right h1 (Int.le_of_lt hs)
  have e2 := Int.mul_lt_mul_of_pos_right h2 hs
  rw [← Int.pow_add] at e1 e2
  have p1 : (2 : Nat) ^ 30 ≤ 2 ^ (k + 2 * ((31 - k) / 2)) := Nat.pow_le_pow_right (by omega) (by omega)
  have p2 : (2 : Nat) ^ (k + 1 + 2 * ((31 - k) / 2)) ≤ 2 ^ 32 := Nat.pow_le_pow_right (by omega) (by omega)
  have q1 : (2 : Int) ^ 30 ≤ 2 ^ (k + 2 * ((31 - k) / 2)) := by exact_mod_cast p1
  have q2 : (2 : Int) ^ (k + 1 + 2 * ((31 - k) / 2)) ≤ 2 ^ 32 := by exact_mod_cast p2
  have c1 : (2 : Int) ^ 30 = 1073741824 := by decide
  have c2 : (2 : Int) ^ 32 = 4294967296 := by decide
  omega

/-- the level of a number from 1 on -/
theorem level {x : Int} (h1 : 1 ≤ x) (h2 : x ≤ 2147483647) : ∃ h : Nat, h ≤ 15 ∧ band .i32 (32 - blen (IntKind.wrap .u32 x)) 30 = 2 * h ∧ band .i32 (2 * (h : Int)) 31 = 2 * h ∧
    shlZ .u32 (IntKind.wrap .u32 x) (2 * h) = x * 2 ^ (2 * h) ∧ 1073741824 ≤ x * 2 ^ (2 * h) ∧ x * 2 ^ (2 * h) < 4294967296 := by
  rw [wrap_u32 (by omega) (by omega)]
  obtain ⟨k, hk, b1, b2, hb⟩ := blen_cases h1 (by omega)
  rw [hb]
  obtain ⟨s1, s2⟩ := shl_key k hk b1 b2
  refine ⟨(31 - k) / 2, by omega, ?_, ?_, ?_, s1, s2⟩
  · have := band30 ⟨k, by omega⟩
    simp only at this
    rw [this]; omega
  · exact band31 ⟨(31 - k) / 2, by omega⟩
  · have := shl_eq (k := .u32) (n := 2 * ((31 - k) / 2)) (by show _ ≤ 32; omega) x
    rw [show (2 * (((31 - k) / 2 : Nat) : Int)) = ((2 * ((31 - k) / 2) : Nat) : Int) by omega, this, wrap_u32 (by omega) (by omega)]

/-- 1 by the root: z, with z² times the number's level near to 2^90 -/
theorem root_near {X u z : Int} (hX1 : 1073741824 ≤ X) (hX2 : X < 4294967296) (hu : u = X / 4) (hz : z = stepZ u (stepZ u (stepZ u (stepZ u (root0 u))))) :
    0 ≤ z ∧ 268435456 ≤ z ∧ z ≤ 1073741824 + 24 ∧ -54188302518488530944 ≤ X * (z * z) - 1237940039285380274899124224 ∧ X * (z * z) - 1237940039285380274899124224 ≤ 54188302518488530944 := by
  obtain ⟨r0, r1, r2⟩ := root_res (u := u) (by omega) (by omega)
  rw [← hz] at r0 r1 r2
  obtain ⟨z1, z2⟩ := res_range (u := u) (by omega) (by omega) r0 (by omega) (by omega)
  have hs : ∃ s, s = X - 4 * u ∧ 0 ≤ s ∧ s ≤ 3 := ⟨_, rfl, by omega, by omega⟩
  obtain ⟨s, hs, s0, s3⟩ := hs
  have hX : X = 4 * u + s := by omega
  have e : X * (z * z) = 4 * (u * (z * z)) + s * (z * z) := by rw [hX]; grind
  unfold resZ at *
  -- z is at most a little above 2^30
  have hz3 : z ≤ 1073741824 + 24 := by
    rcases Int.lt_or_le (1073741824 + 24) z with h | h
    · exfalso
      have a1 := Int.mul_le_mul (show 1073741849 ≤ z by omega) (show 1073741849 ≤ z by omega) (by decide) (by omega)
      have a2 := Int.mul_le_mul (show 268435456 ≤ u by omega) a1 (by decide) (by omega)
      omega
    · exact h
  obtain ⟨q1, q2⟩ := mul_bd0 r0 hz3 r0 hz3
  obtain ⟨q3, q4⟩ := mul_bd0 s0 s3 q1 q2
  refine ⟨r0, z1, hz3, ?_, ?_⟩ <;> omega
end Go.Eng
end

/-! Plain laws of numbers, part R: what the references reckon, in the program's words. -/
section
set_option linter.unusedVariables false
set_option linter.unusedSimpArgs false
namespace Go.Eng

theorem tmod_small {x n : Int} (hn : 0 < n) : x.tmod n = if 0 ≤ x then x % n else -((-x) % n) := by
  split
  · exact Int.tmod_eq_emod_of_nonneg (by assumption)
  · rename_i h
    rw [← Int.neg_neg x, Int.neg_tmod, Int.tmod_eq_emod_of_nonneg (by omega), Int.neg_neg]
theorem tdiv_small {x n : Int} (hn : 0 < n) : x.tdiv n = if 0 ≤ x then x / n else -((-x) / n) := by
  split
  · exact Int.tdiv_eq_ediv_of_nonneg (by assumption)
  · rename_i h
    rw [← Int.neg_neg x, Int.neg_tdiv, Int.tdiv_eq_ediv_of_nonneg (by omega), Int.neg_neg]

theorem mod32 (x : Int) : (if x.tmod 4294967296 < 0 then x.tmod 4294967296 + 4294967296 else x.tmod 4294967296) = x % 4294967296 := by
  rw [tmod_small (by decide)]; split <;> split <;> omega
theorem mod5 (x : Int) : (if x.tmod 32 < 0 then x.tmod 32 + 32 else x.tmod 32) = x % 32 := by
  rw [tmod_small (by decide)]; split <;> split <;> omega
theorem mod30 (x : Int) : (if x.tmod 1073741824 < 0 then x.tmod 1073741824 + 1073741824 else x.tmod 1073741824) = x % 1073741824 := by
  rw [tmod_small (by decide)]; split <;> split <;> omega

theorem wu32 (x : Int) : IntKind.wrap .u32 x = x % 4294967296 := by simp [IntKind.wrap, IntKind.bits, IntKind.signed]
theorem wi32 (x : Int) : IntKind.wrap .i32 x = if 2147483648 ≤ x % 4294967296 then x % 4294967296 - 4294967296 else x % 4294967296 := by
  simp only [IntKind.wrap, IntKind.bits, IntKind.signed]
  simp

/-! ### a word, from its bits -/

/-- the highest m bits ahead of place j -/
theorem bit_step (y : Int) (j m : Nat) : 2 * (y / 2 ^ (j + 1) % 2 ^ m) + y / 2 ^ j % 2 = y / 2 ^ j % 2 ^ (m + 1) := by
  have hp : (0 : Int) < 2 ^ m := Int.pow_pos (by decide)
  have e1 : y / 2 ^ (j + 1) = y / 2 ^ j / 2 := by
    rw [Int.pow_succ, Int.ediv_ediv_of_nonneg (Int.le_of_lt (Int.pow_pos (by decide)))]
  rw [e1]
  generalize y / 2 ^ j = q
  rw [Int.pow_succ]
  generalize (2 : Int) ^ m = p at *
  have a1 := Int.mul_ediv_add_emod (q / 2) p
  have a2 := Int.emod_nonneg (q / 2) (show p ≠ 0 by omega)
  have a3 := Int.emod_lt_of_pos (q / 2) hp
  have b1 := Int.mul_ediv_add_emod q (p * 2)
  have b2 := Int.emod_nonneg q (show p * 2 ≠ 0 by omega)
  have b3 := Int.emod_lt_of_pos q (show 0 < p * 2 by omega)
  have c1 : q = 2 * (q / 2) + q % 2 := by omega
  have c2 : 0 ≤ q % 2 ∧ q % 2 ≤ 1 := by omega
  -- q = p*2 * (q/2/p) + (2 * (q/2 % p) + q % 2)
  have key : q = p * 2 * (q / 2 / p) + (2 * (q / 2 % p) + q % 2) := by
    have : 2 * (p * (q / 2 / p)) = p * 2 * (q / 2 / p) := by grind
    omega
  have : q % (p * 2) = (2 * (q / 2 % p) + q % 2) := by
    rw [key, Int.mul_add_emod_self_left, Int.emod_eq_of_lt (by omega) (by omega), ← key]
  exact this.symm
end Go.Eng
end

/-! Plain laws of numbers, part S: words from bits, as expressions that a run comes to. -/
section
set_option linter.unusedVariables false
set_option linter.unusedSimpArgs false
set_option linter.unusedSectionVars false
namespace Go.Eng

/-- a word from its bits, the highest first, as a run reckons it -/
def horE (cx : Cx) : E → List E → E
  | acc, [] => acc
  | acc, b :: l => horE cx (E.b' cx .add .i64 (E.b' cx .mul .i64 (.c 2) acc) b) l
/-- the same in numbers -/
def horZ : Int → List Int → Int
  | acc, [] => acc
  | acc, b :: l => horZ (2 * acc + b) l

theorem horE_ev {cx : Cx} {ρ : Env} (hρ : EnvOk cx ρ) : ∀ (l : List E) (acc : E) (m : Nat), (∀ e ∈ l, 0 ≤ e.ev ρ ∧ e.ev ρ ≤ 1) → 0 ≤ acc.ev ρ → acc.ev ρ < 2 ^ m → m + l.length ≤ 32 →
    (horE cx acc l).ev ρ = horZ (acc.ev ρ) (l.map (E.ev ρ))
  | [], acc, m, _, _, _, _ => rfl
  | b :: l, acc, m, hb, h0, h1, hm => by
    have hb0 := hb b List.mem_cons_self
    have hm' : m ≤ 31 := by simp at hm; omega
    have hp : (2 : Int) ^ m ≤ 2147483648 := (by decide : ∀ k : Fin 32, (2 : Int) ^ k.val ≤ 2147483648) ⟨m, by omega⟩
    have e2 : BO.ev .mul .i64 2 (acc.ev ρ) = 2 * acc.ev ρ := wrap_in _ _ (by simp [klo]; omega) (by simp [khi]; omega)
    have e3 : BO.ev .add .i64 (2 * acc.ev ρ) (b.ev ρ) = 2 * acc.ev ρ + b.ev ρ := wrap_in _ _ (by simp [klo]; omega) (by simp [khi]; omega)
    have e4 : (E.b' cx .add .i64 (E.b' cx .mul .i64 (.c 2) acc) b).ev ρ = 2 * acc.ev ρ + b.ev ρ := by
      rw [E.b'_ev hρ, E.b'_ev hρ]
      show BO.ev .add .i64 (BO.ev .mul .i64 2 (acc.ev ρ)) (b.ev ρ) = _
      rw [e2, e3]
    simp only [horE, List.map_cons, horZ]
    rw [horE_ev hρ l _ (m + 1) (fun e he => hb e (List.mem_cons_of_mem _ he)) (by rw [e4]; omega) (by rw [e4, Int.pow_succ]; omega) (by simp at hm; omega), e4]

/-- the bits from place j - 1 down to 0, then zeros -/
theorem horZ_bits (y : Int) : ∀ (j m : Nat), horZ (y / 2 ^ j % 2 ^ m) ((List.range j).reverse.map fun i => y / 2 ^ i % 2) = y % 2 ^ (m + j)
  | 0, m => by simp [horZ]
  | j + 1, m => by
    rw [List.range_succ, List.reverse_append, List.map_append]
    simp only [List.reverse_cons, List.reverse_nil, List.nil_append, List.map_cons, List.map_nil, List.cons_append, horZ]
    rw [bit_step, horZ_bits y j (m + 1)]
    congr 2; omega

theorem horZ_zeros (a : Int) : ∀ (k : Nat), horZ a (List.replicate k 0) = a * 2 ^ k
  | 0 => by simp [horZ]
  | k + 1 => by
    rw [List.replicate_succ]
    simp only [horZ]
    rw [horZ_zeros (2 * a + 0) k, Int.pow_succ]
    grind
theorem horZ_app (a : Int) : ∀ (l m : List Int), horZ a (l ++ m) = horZ (horZ a l) m
  | [], m => rfl
  | b :: l, m => by simp only [List.cons_append, horZ]; exact horZ_app _ l m

theorem bits_down (y : Int) (j : Nat) (h0 : 0 ≤ y) : horZ 0 ((List.range j).reverse.map fun i => y / 2 ^ i % 2) = y % 2 ^ j := by
  have := horZ_bits y j 0
  simpa using this

/-- and with 31: the rest by 32 -/
theorem band31_mod {n : Int} (h1 : -2147483648 ≤ n) (h2 : n ≤ 2147483647) : band .i32 n 31 = n % 32 := by
  unfold band
  simp only [BO.ev]
  have hb : IntKind.i32.bits = 32 := rfl
  have e2 : (BitVec.ofInt IntKind.i32.bits 31).toNat = 2 ^ 5 - 1 := by decide
  rw [BitVec.toNat_and, e2, Nat.and_two_pow_sub_one_eq_mod]
  have e1 : ((BitVec.ofInt IntKind.i32.bits n).toNat : Int) = n % 4294967296 := by
    rw [hb, BitVec.toNat_ofInt]
    have h : (((2 ^ 32 : Nat)) : Int) = 4294967296 := by decide
    rw [h]; omega
  have e3 : (((BitVec.ofInt IntKind.i32.bits n).toNat % 2 ^ 5 : Nat) : Int) = n % 32 := by omega
  rw [e3]
  exact wrap_i32 (by omega) (by omega)

def bitE (i : Nat) : E := .f 2 (.v 0) (.c i) (.c 0)

theorem bitE_ev {ρ : Env} (hf : ρ.f = fN) (i : Nat) : (bitE i).ev ρ = ρ.i 0 % 4294967296 / 2 ^ i % 2 := by
  simp only [bitE, E.ev, hf]
  show bitZ _ _ = _
  unfold bitZ
  rw [Int.toNat_natCast]

/-- shl by k -/
def shlL (k : Nat) : List E := (List.range (32 - k)).reverse.map bitE ++ List.replicate k (.c 0)
/-- shr by k -/
def shrL (k : Nat) : List E := List.replicate k (.c 0) ++ (List.range (32 - k)).reverse.map fun i => bitE (i + k)

theorem shlL_hor {ρ : Env} (hf : ρ.f = fN) {k : Nat} (hk : k ≤ 31) : horZ 0 ((shlL k).map (E.ev ρ)) = ρ.i 0 % 4294967296 % 2 ^ (32 - k) * 2 ^ k := by
  have e : (shlL k).map (E.ev ρ) = ((List.range (32 - k)).reverse.map fun i => ρ.i 0 % 4294967296 / 2 ^ i % 2) ++ List.replicate k 0 := by
    unfold shlL
    rw [List.map_append, List.map_map, List.map_replicate]
    congr 1
    apply List.map_congr_left
    intro i _
    exact bitE_ev hf i
  rw [e, horZ_app, bits_down _ _ (by omega), horZ_zeros]

theorem horZ_lead : ∀ (k : Nat) (l : List Int), horZ 0 (List.replicate k 0 ++ l) = horZ 0 l
  | 0, l => rfl
  | k + 1, l => by
    rw [List.replicate_succ]
    simp only [List.cons_append, horZ]
    exact horZ_lead k l

theorem shrL_hor {ρ : Env} (hf : ρ.f = fN) {k : Nat} (hk : k ≤ 31) : horZ 0 ((shrL k).map (E.ev ρ)) = ρ.i 0 % 4294967296 / 2 ^ k := by
  have e : (shrL k).map (E.ev ρ) = List.replicate k 0 ++ ((List.range (32 - k)).reverse.map fun i => ρ.i 0 % 4294967296 / 2 ^ k / 2 ^ i % 2) := by
    unfold shrL
    rw [List.map_append, List.map_map, List.map_replicate]
    congr 1
    apply List.map_congr_left
    intro i _
    show (bitE (i + k)).ev ρ = _
    rw [bitE_ev hf, Nat.add_comm i k, Int.pow_add, Int.ediv_ediv_of_nonneg (Int.le_of_lt (Int.pow_pos (by decide)))]
  rw [e, horZ_lead, bits_down _ _ (Int.ediv_nonneg (by omega) (Int.le_of_lt (Int.pow_pos (by decide))))]
  have hp : (0 : Int) < 2 ^ k := Int.pow_pos (by decide)
  refine Int.emod_eq_of_lt (Int.ediv_nonneg (by omega) (by omega)) ?_
  refine Int.ediv_lt_of_lt_mul hp ?_
  rw [← Int.pow_add, show 32 - k + k = 32 by omega]
  have : (2 : Int) ^ 32 = 4294967296 := by decide
  omega

theorem bits01 {ρ : Env} (hf : ρ.f = fN) (k : Nat) : (∀ e ∈ shlL k, 0 ≤ e.ev ρ ∧ e.ev ρ ≤ 1) ∧ (∀ e ∈ shrL k, 0 ≤ e.ev ρ ∧ e.ev ρ ≤ 1) := by
  have hb : ∀ i, 0 ≤ (bitE i).ev ρ ∧ (bitE i).ev ρ ≤ 1 := fun i => by rw [bitE_ev hf]; omega
  constructor
  · intro e he
    rcases List.mem_append.1 he with h | h
    · obtain ⟨i, _, rfl⟩ := List.mem_map.1 h
      exact hb i
    · have := List.eq_of_mem_replicate h
      subst this
      simp [E.ev]
  · intro e he
    rcases List.mem_append.1 he with h | h
    · have := List.eq_of_mem_replicate h
      subst this
      simp [E.ev]
    · obtain ⟨i, _, rfl⟩ := List.mem_map.1 h
      exact hb (i + k)

end Go.Eng
namespace Go.Eng
/-- a choice by a truth -/
theorem ite01 (p : Prop) [Decidable p] (a b : Int) : (if bool01 (decide p) ≠ 0 then a else b) = if p then a else b := by
  by_cases h : p <;> simp [bool01, h]

theorem low_ref (x : Int) :
    (if bool01 (decide (x.tmod 4294967296 < 0)) ≠ 0 then
      (if bool01 (decide (2147483648 ≤ x.tmod 4294967296 + 4294967296)) ≠ 0 then IntKind.wrap .i32 (x.tmod 4294967296 + 4294967296 - 4294967296) else IntKind.wrap .i32 (x.tmod 4294967296 + 4294967296))
    else (if bool01 (decide (2147483648 ≤ x.tmod 4294967296)) ≠ 0 then IntKind.wrap .i32 (x.tmod 4294967296 - 4294967296) else IntKind.wrap .i32 (x.tmod 4294967296))) = IntKind.wrap .i32 x := by
  simp only [ite01, wi32]
  have h := mod32 x
  generalize x.tmod 4294967296 = r at *
  split at h <;> rename_i hr
  · rw [if_pos hr]; split <;> split <;> omega
  · rw [if_neg hr]; split <;> split <;> omega

theorem sat_ref (x : Int) :
    (if bool01 (decide (x < -2147483648)) ≠ 0 then -2147483648 else (if bool01 (decide (2147483647 < x)) ≠ 0 then 2147483647 else IntKind.wrap .i32 x)) =
      BO.ev .min .i64 (BO.ev .max .i64 x (-2147483648)) 2147483647 := by
  simp only [ite01]
  rw [sat_eq]
  unfold satZ
  split
  · rfl
  · split
    · rfl
    · exact wrap_i32 (by omega) (by omega)

/-- the rounded product, as the reference reckons it -/
theorem mulq_ref {p : Int} (h1 : -4611686018427387904 ≤ p) (h2 : p ≤ 4611686018427387904) (q : Int) (hq : q = if 536870912 ≤ p % 1073741824 then p / 1073741824 + 1 else p / 1073741824) : q = (p + 536870912) / 1073741824 := by
  rw [hq]; split <;> omega

theorem exact_tdiv (p : Int) : (p - p % 1073741824).tdiv 1073741824 = p / 1073741824 := by
  have : p - p % 1073741824 = 1073741824 * (p / 1073741824) := by omega
  rw [this, Int.mul_tdiv_cancel_left _ (by decide)]

theorem wrap_i64 {x : Int} (h1 : -9223372036854775808 ≤ x) (h2 : x ≤ 9223372036854775807) : IntKind.wrap .i64 x = x := wrap_in _ _ (by simp [klo]; omega) (by simp [khi]; omega)

def SATm (m : Int) : Int := BO.ev .min .i64 (BO.ev .max .i64 m (-2147483648)) 2147483647
theorem mulq_ref2 {x y : Int} (hx : -2147483648 ≤ x ∧ x ≤ 2147483647) (hy : -2147483648 ≤ y ∧ y ≤ 2147483647) :
    (if bool01 (decide ((x * y).tmod 1073741824 < 0)) ≠ 0 then
      (if bool01 (decide (536870912 ≤ (x * y).tmod 1073741824 + 1073741824)) ≠ 0 then SATm (IntKind.wrap .i64 (IntKind.wrap .i64 ((x * y - ((x * y).tmod 1073741824 + 1073741824)).tdiv 1073741824) + 1))
        else SATm (IntKind.wrap .i64 ((x * y - ((x * y).tmod 1073741824 + 1073741824)).tdiv 1073741824)))
    else
      (if bool01 (decide (536870912 ≤ (x * y).tmod 1073741824)) ≠ 0 then SATm (IntKind.wrap .i64 (IntKind.wrap .i64 ((x * y - (x * y).tmod 1073741824).tdiv 1073741824) + 1))
        else SATm (IntKind.wrap .i64 ((x * y - (x * y).tmod 1073741824).tdiv 1073741824)))) = mulqZ x y := by
  obtain ⟨h1, h2⟩ := mul_bd (show -2147483648 ≤ x by omega) (show x ≤ 2147483648 by omega) (show -2147483648 ≤ y by omega) (show y ≤ 2147483648 by omega)
  simp only [ite01]
  rw [mulqZ_eq, ← sat_eq .i64]
  have h := mod30 (x * y)
  have e := exact_tdiv (x * y)
  generalize x * y = p at *
  show _ = SATm _
  have w1 : IntKind.wrap .i64 (p / 1073741824) = p / 1073741824 := wrap_i64 (by omega) (by omega)
  have w2 : IntKind.wrap .i64 (p / 1073741824 + 1) = p / 1073741824 + 1 := wrap_i64 (by omega) (by omega)
  by_cases hr : p.tmod 1073741824 < 0
  · rw [if_pos hr] at h ⊢
    rw [h, e, w1, w2]
    split <;> (congr 1; omega)
  · rw [if_neg hr] at h ⊢
    rw [h, e, w1, w2]
    split <;> (congr 1; omega)

/-! ### all bits of a word -/
def mkQuo : Nat → E
  | 0 => .w .u32 (.v 0)
  | j + 1 => .b .quo .i64 (mkQuo j) (.c 2)
def mkBits : List SV := (List.range 32).map fun j => .int .i64 (.b .rem .i64 (mkQuo j) (.c 2))
def resBits : List SV := (List.range 32).map fun j => .int .i64 (bitE j)

theorem mkQuo_ev (ρ : Env) : ∀ j, (mkQuo j).ev ρ = ρ.i 0 % 4294967296 / 2 ^ j
  | 0 => by simp only [mkQuo, E.ev, wu32]; simp
  | j + 1 => by
    have ih := mkQuo_ev ρ j
    simp only [mkQuo, E.ev, BO.ev, ih]
    have hp : (0 : Int) < 2 ^ j := Int.pow_pos (by decide)
    have h0 : 0 ≤ ρ.i 0 % 4294967296 / 2 ^ j := Int.ediv_nonneg (by omega) (Int.le_of_lt hp)
    have h1 : ρ.i 0 % 4294967296 / 2 ^ j ≤ ρ.i 0 % 4294967296 := Int.ediv_le_self _ (by omega)
    rw [Int.tdiv_eq_ediv_of_nonneg h0, Int.pow_succ, ← Int.ediv_ediv_of_nonneg (Int.le_of_lt hp)]
    generalize ρ.i 0 % 4294967296 / 2 ^ j = q at *
    exact wrap_i64 (by omega) (by omega)

theorem bits_den (ρ : Env) (hf : ρ.f = fN) (β : Bt) : (SV.agg mkBits).den ρ β = (SV.agg resBits).den ρ β := by
  simp only [SV.den, denL_map]
  unfold mkBits resBits
  rw [List.map_map, List.map_map]
  congr 2
  apply List.map_congr_left
  intro j _
  show Value.int .i64 _ = Value.int .i64 _
  congr 1
  rw [bitE_ev hf]
  show ((mkQuo j).ev ρ).tmod 2 = _
  have hp : (0 : Int) < 2 ^ j := Int.pow_pos (by decide)
  rw [mkQuo_ev, Int.tmod_eq_emod_of_nonneg (Int.ediv_nonneg (by omega) (Int.le_of_lt hp))]
end Go.Eng
end

/-! Plain laws of numbers, part T: the references' shifts and leading noughts, one amount at a time. -/
section
set_option linter.unusedVariables false
set_option linter.unusedSimpArgs false
set_option linter.unusedSectionVars false
namespace Go.Eng

def mkClz : Nat → E
  | 0 => .c 32
  | j + 1 => .ite (.b .eq .i64 (bitE j) (.c 0)) (mkClz j) (.c (31 - (j : Int)))

theorem mkClz_ev {ρ : Env} (hf : ρ.f = fN) : ∀ (j : Nat), j ≤ 32 → ρ.i 0 % 4294967296 < 2 ^ j → (mkClz j).ev ρ = 32 - blen (ρ.i 0 % 4294967296)
  | 0, _, h => by
    have : ρ.i 0 % 4294967296 = 0 := by simp at h; omega
    rw [this]
    have : blen 0 = 0 := by decide
    rw [this]; rfl
  | j + 1, hj, h => by
    have hp : (0 : Int) < 2 ^ j := Int.pow_pos (by decide)
    simp only [mkClz, E.ev, BO.ev, bitE_ev hf]
    rcases Int.lt_or_le (ρ.i 0 % 4294967296) (2 ^ j) with h' | h'
    · have e : ρ.i 0 % 4294967296 / 2 ^ j = 0 := Int.ediv_eq_zero_of_lt (by omega) h'
      rw [e]
      simp only [bool01]
      simp
      exact mkClz_ev hf j (by omega) h'
    · have e : ρ.i 0 % 4294967296 / 2 ^ j = 1 := by
        have h1 : 1 ≤ ρ.i 0 % 4294967296 / 2 ^ j := Int.le_ediv_of_mul_le hp (by omega)
        have h2 : ρ.i 0 % 4294967296 / 2 ^ j < 2 := Int.ediv_lt_of_lt_mul hp (by rw [Int.pow_succ] at h; omega)
        omega
      rw [e]
      simp only [bool01]
      simp
      rw [blen_of j (by omega) h' h]
      omega

theorem clz_res {ρ : Env} (hf : ρ.f = fN) : (mkClz 32).ev ρ = 32 - blen (IntKind.wrap .u32 (ρ.i 0)) := by
  rw [wu32]
  refine mkClz_ev hf 32 (Nat.le_refl _) ?_
  have : (2 : Int) ^ 32 = 4294967296 := by decide
  omega

/-- n = 32 q + k -/
def nE (k : Nat) : E := .b .padd .i64 (.b .pmul .i64 (.c 32) (.v 1)) (.c k)
def gBy (k : Nat) : List SV → Option SV
  | [.int .i32 e] => if e.beq (nE k) then some (.int .i64 (.c k)) else none
  | _ => none
def gam : List (Int × Int) := [(-2147483648, 2147483647), (-67108864, 67108863)]
def isI32 (r : R) (e : E) : Bool := match r with
  | .leaf (.int .i32 e', _) => e'.beq e
  | _ => false

theorem isI32_sel {ρ : Env} {r : R} {e : E} (h : isI32 r e = true) : ∃ s', r.sel ρ = some (.int .i32 e, s') := by
  unfold isI32 at h
  split at h
  · rename_i e' s'
    have := E.eq_of_beq h
    subst this
    exact ⟨s', rfl⟩
  · cases h

/-- the env of one amount -/
def envK (ρ : Env) : Env := ⟨fun j => if j = 0 then ρ.i 0 else ρ.i 1 / 32, ρ.f, ρ.v, ρ.ro⟩

/-- a shift by any amount, from its runs one by one -/
theorem shift_tmpl {cx : Cx} {f : FuncId} {L : Nat → E} {res : SV} {cf : Nat → CF} (hF : cx.F = fN) (hcf : ∀ k, k ≤ 31 → CallOk { cx with Γ := gam, ins := [] } (cf k))
    (h : ∀ k, k ≤ 31 → isI32 (cf k f [.int .i32 (.v 0), .int .i32 (nE k)] ⟨[], []⟩) (L k) = true)
    (hres : ∀ (ρ : Env) (k : Nat), k ≤ 31 → ρ.f = fN → EnvOk { cx with Γ := gam, ins := [] } (envK ρ) → -2147483648 ≤ ρ.i 0 → ρ.i 0 ≤ 2147483647 → -2147483648 ≤ ρ.i 1 → ρ.i 1 ≤ 2147483647 → ρ.i 1 % 32 = k → Value.int .i32 ((L k).ev (envK ρ)) = res.den ρ b0) :
    TmplOk cx f none [.int .i32 (.v 0), .int .i32 (.v 1)] res := by
  intro ρ w hρ hbl
  have hf : ρ.f = fN := hρ.hF.trans hF
  have h0 : -2147483648 ≤ ρ.i 0 ∧ ρ.i 0 ≤ 2147483647 := hρ.hi 0 _ rfl
  have h1 : -2147483648 ≤ ρ.i 1 ∧ ρ.i 1 ≤ 2147483647 := hρ.hi 1 _ rfl
  obtain ⟨k, hk⟩ : ∃ k : Nat, ρ.i 1 % 32 = k := ⟨(ρ.i 1 % 32).toNat, by omega⟩
  have hk31 : k ≤ 31 := by omega
  have hK : EnvOk { cx with Γ := gam, ins := [] } (envK ρ) := by
    refine ⟨fun i p hp => ?_, hρ.hf, hρ.hv, hρ.hF, fun k d hd => by simp at hd⟩
    match i with
    | 0 => cases hp; exact h0
    | 1 => cases hp; show -67108864 ≤ ρ.i 1 / 32 ∧ ρ.i 1 / 32 ≤ 67108863; omega
    | i + 2 => simp [gam] at hp
  obtain ⟨s', hsel⟩ := isI32_sel (ρ := envK ρ) (h k hk31)
  have hargs : SV.denL ρ b0 (tArgs none [.int .i32 (.v 0), .int .i32 (.v 1)]) = SV.denL (envK ρ) b0 [.int .i32 (.v 0), .int .i32 (nE k)] := by
    simp only [tArgs, SV.denL, SV.den, E.ev, nE, BO.ev, envK]
    simp
    omega
  rw [hargs]
  refine (hcf k hk31 (envK ρ) _ _ _ w f _ _ hK (sat_nil (blank_ro (ρ := envK ρ) hbl)) hsel).mono ?_
  rintro x w' ⟨β', rfl, _, hx⟩
  refine ⟨?_, below_ext rfl hx⟩
  rw [← hres ρ k hk31 hf hK h0.1 h0.2 h1.1 h1.2 hk]
  rfl

/-! ### what the shifts give -/

def shlR : SV := .int .i32 (.w .i32 (.b .shl .u32 (.w .u32 (.v 0)) (.b .and .i32 (.v 1) (.c 31))))
def shrR : SV := .int .i32 (.w .i32 (.b .shr .u32 (.w .u32 (.v 0)) (.b .and .i32 (.v 1) (.c 31))))

def shlX (cx : Cx) (k : Nat) : E := E.w' cx .i32 (horE cx (.c 0) (shlL k))
def shrX (cx : Cx) (k : Nat) : E := E.w' cx .i32 (horE cx (.c 0) (shrL k))

theorem hor_x {cx : Cx} {ρ : Env} (hρ : EnvOk cx ρ) (l : List E) (hb : ∀ e ∈ l, 0 ≤ e.ev ρ ∧ e.ev ρ ≤ 1) (hl : l.length = 32) : (E.w' cx .i32 (horE cx (.c 0) l)).ev ρ = IntKind.wrap .i32 (horZ 0 (l.map (E.ev ρ))) := by
  rw [E.w'_ev hρ, horE_ev hρ l (.c 0) 0 hb (by simp [E.ev]) (by simp [E.ev]) (by omega)]
  rfl

theorem shl_res {cx : Cx} (ρ : Env) (k : Nat) (hk : k ≤ 31) (hf : ρ.f = fN) (hK : EnvOk cx (envK ρ)) (h0 : -2147483648 ≤ ρ.i 0) (h0' : ρ.i 0 ≤ 2147483647) (h1 : -2147483648 ≤ ρ.i 1) (h1' : ρ.i 1 ≤ 2147483647) (hm : ρ.i 1 % 32 = k) :
    Value.int .i32 ((shlX cx k).ev (envK ρ)) = shlR.den ρ b0 := by
  unfold shlX shlR
  rw [hor_x hK _ (bits01 (ρ := envK ρ) hf k).1 (by simp [shlL]; omega), shlL_hor (ρ := envK ρ) hf hk]
  have hb : band .i32 (ρ.i 1) 31 = k := (band31_mod h1 h1').trans hm
  show Value.int .i32 _ = Value.int .i32 (IntKind.wrap .i32 (shlZ .u32 (IntKind.wrap .u32 (ρ.i 0)) (band .i32 (ρ.i 1) 31)))
  rw [hb, shl_eq (by show k ≤ 32; omega), wu32, wu32]
  show Value.int .i32 (IntKind.wrap .i32 (ρ.i 0 % 4294967296 % 2 ^ (32 - k) * 2 ^ k)) = _
  congr 2
  generalize ρ.i 0 % 4294967296 = y
  have e : (4294967296 : Int) = 2 ^ (32 - k) * 2 ^ k := by
    rw [← Int.pow_add, show 32 - k + k = 32 by omega]; decide
  rw [e, Int.mul_comm y, Int.mul_comm (2 ^ (32 - k)), Int.mul_emod_mul_of_pos _ _ (Int.pow_pos (by decide)), Int.mul_comm]

theorem shr_res {cx : Cx} (ρ : Env) (k : Nat) (hk : k ≤ 31) (hf : ρ.f = fN) (hK : EnvOk cx (envK ρ)) (h0 : -2147483648 ≤ ρ.i 0) (h0' : ρ.i 0 ≤ 2147483647) (h1 : -2147483648 ≤ ρ.i 1) (h1' : ρ.i 1 ≤ 2147483647) (hm : ρ.i 1 % 32 = k) :
    Value.int .i32 ((shrX cx k).ev (envK ρ)) = shrR.den ρ b0 := by
  unfold shrX shrR
  rw [hor_x hK _ (bits01 (ρ := envK ρ) hf k).2 (by simp [shrL]; omega), shrL_hor (ρ := envK ρ) hf hk]
  have hb : band .i32 (ρ.i 1) 31 = k := (band31_mod h1 h1').trans hm
  show Value.int .i32 _ = Value.int .i32 (IntKind.wrap .i32 (shrZ .u32 (IntKind.wrap .u32 (ρ.i 0)) (band .i32 (ρ.i 1) 31)))
  rw [hb, shr_eq (by show k ≤ 32; omega), wu32]
  rfl
end Go.Eng
end

/-! Plain laws of numbers, part U: the references' shift with the sign, signs, flips. -/
section
set_option linter.unusedVariables false
set_option linter.unusedSimpArgs false
set_option linter.unusedSectionVars false
namespace Go.Eng

theorem mod_pos {x m : Int} (hm : 0 < m) : (if x.tmod m < 0 then x.tmod m + m else x.tmod m) = x % m := by
  rw [tmod_small hm]
  by_cases h0 : 0 ≤ x
  · have := Int.emod_nonneg x (by omega : m ≠ 0)
    rw [if_pos h0, if_neg (by omega)]
  · rw [if_neg h0]
    have h1 := Int.emod_nonneg (-x) (by omega : m ≠ 0)
    have h2 := Int.emod_lt_of_pos (-x) hm
    have h3 := Int.mul_ediv_add_emod (-x) m
    generalize (-x) % m = r at *
    generalize (-x) / m = q at *
    by_cases hr : r = 0
    · subst hr
      simp
      have : x = m * (-q) := by grind
      rw [this, Int.mul_emod_right]
    · rw [if_pos (by omega)]
      have : x = m * (-q - 1) + (m - r) := by grind
      rw [this, Int.mul_add_emod_self_left, Int.emod_eq_of_lt (by omega) (by omega)]
      omega

theorem exact_div {x m : Int} (hm : 0 < m) : (x - x % m).tdiv m = x / m := by
  have : x - x % m = m * (x / m) := by have := Int.mul_ediv_add_emod x m; omega
  rw [this, Int.mul_tdiv_cancel_left _ (by omega)]

/-- a shift by any amount, from its runs one by one, each one number -/
theorem shift_one {cx : Cx} {f : FuncId} {L : Nat → E} {res : SV} {cf : Nat → CF} (hF : cx.F = fN) (hcf : ∀ k, k ≤ 31 → CallOk { cx with Γ := gam, ins := [] } (cf k))
    (h : ∀ k, k ≤ 31 → oneIs (cf k f [.int .i32 (.v 0), .int .i32 (nE k)] ⟨[], []⟩) (.int .i32 (L k)) = true)
    (hres : ∀ (ρ : Env) (k : Nat), k ≤ 31 → ρ.f = fN → EnvOk { cx with Γ := gam, ins := [] } (envK ρ) → -2147483648 ≤ ρ.i 0 → ρ.i 0 ≤ 2147483647 → -2147483648 ≤ ρ.i 1 → ρ.i 1 ≤ 2147483647 → ρ.i 1 % 32 = k → Value.int .i32 ((L k).ev (envK ρ)) = res.den ρ b0) :
    TmplOk cx f none [.int .i32 (.v 0), .int .i32 (.v 1)] res := by
  intro ρ w hρ hbl
  have hf : ρ.f = fN := hρ.hF.trans hF
  have h0 : -2147483648 ≤ ρ.i 0 ∧ ρ.i 0 ≤ 2147483647 := hρ.hi 0 _ rfl
  have h1 : -2147483648 ≤ ρ.i 1 ∧ ρ.i 1 ≤ 2147483647 := hρ.hi 1 _ rfl
  obtain ⟨k, hk⟩ : ∃ k : Nat, ρ.i 1 % 32 = k := ⟨(ρ.i 1 % 32).toNat, by omega⟩
  have hk31 : k ≤ 31 := by omega
  have hK : EnvOk { cx with Γ := gam, ins := [] } (envK ρ) := by
    refine ⟨fun i p hp => ?_, hρ.hf, hρ.hv, hρ.hF, fun k d hd => by simp at hd⟩
    match i with
    | 0 => cases hp; exact h0
    | 1 => cases hp; show -67108864 ≤ ρ.i 1 / 32 ∧ ρ.i 1 / 32 ≤ 67108863; omega
    | i + 2 => simp [gam] at hp
  have hone := h k hk31
  unfold oneIs at hone
  split at hone
  · rename_i v hv
    have hvv := SV.eq_of_beq _ _ hone
    have hg := T.one_gives (ρ := envK ρ) hv
    obtain ⟨u, s', hsel, hsc, hX⟩ := projV_sel hg
    have hargs : SV.denL ρ b0 (tArgs none [.int .i32 (.v 0), .int .i32 (.v 1)]) = SV.denL (envK ρ) b0 [.int .i32 (.v 0), .int .i32 (nE k)] := by
      simp only [tArgs, SV.denL, SV.den, E.ev, nE, BO.ev, envK]
      simp
      omega
    rw [hargs]
    refine (hcf k hk31 (envK ρ) _ _ _ w f _ _ hK (sat_nil (blank_ro (ρ := envK ρ) hbl)) hsel).mono ?_
    rintro x w' ⟨β', rfl, _, hx⟩
    refine ⟨?_, below_ext rfl hx⟩
    rw [← hres ρ k hk31 hf hK h0.1 h0.2 h1.1 h1.2 hk]
    rw [SV.den_sc (n := 0) (fun j hj => by omega) u hsc, hX, hvv]
    rfl
  · cases hone

def sarR : SV := .int .i32 (.b .shr .i32 (.v 0) (.b .and .i32 (.v 1) (.c 31)))
def sarX (cx : Cx) (k : Nat) : E :=
  let m : E := .c (2 ^ k)
  let r := E.b' cx .rem .i64 (.v 0) m
  let fin (y : E) := E.w' cx .i32 (E.b' cx .quo .i64 (E.b' cx .sub .i64 (.v 0) y) m)
  match E.b' cx .lt .i64 r (.c 0) with
  | .c n => if n = 0 then fin r else fin (E.b' cx .add .i64 r m)
  | c => E.mix c (fin (E.b' cx .add .i64 r m)) (fin r)

theorem sar_res {cx : Cx} (ρ : Env) (k : Nat) (hk : k ≤ 31) (hf : ρ.f = fN) (hK : EnvOk cx (envK ρ)) (h0 : -2147483648 ≤ ρ.i 0) (h0' : ρ.i 0 ≤ 2147483647) (h1 : -2147483648 ≤ ρ.i 1) (h1' : ρ.i 1 ≤ 2147483647) (hm : ρ.i 1 % 32 = k) :
    Value.int .i32 ((sarX cx k).ev (envK ρ)) = sarR.den ρ b0 := by
  have hp : (0 : Int) < 2 ^ k := Int.pow_pos (by decide)
  have hp2 : (2 : Int) ^ k ≤ 2147483648 := (by decide : ∀ k : Fin 32, (2 : Int) ^ k.val ≤ 2147483648) ⟨k, by omega⟩
  have hb : band .i32 (ρ.i 1) 31 = k := (band31_mod h1 h1').trans hm
  have hR : sarR.den ρ b0 = Value.int .i32 (ρ.i 0 / 2 ^ k) := by
    show Value.int .i32 (shrZ .i32 (ρ.i 0) (band .i32 (ρ.i 1) 31)) = _
    rw [hb, shr_eq (by show k ≤ 32; omega)]
  rw [hR]
  have fin : ∀ y : E, y.ev (envK ρ) = ρ.i 0 % 2 ^ k → (E.w' cx .i32 (E.b' cx .quo .i64 (E.b' cx .sub .i64 (.v 0) y) (.c (2 ^ k)))).ev (envK ρ) = ρ.i 0 / 2 ^ k := by
    intro y hy
    rw [E.w'_ev hK, E.b'_ev hK, E.b'_ev hK, hy]
    show IntKind.wrap .i32 (IntKind.wrap .i64 ((IntKind.wrap .i64 (ρ.i 0 - ρ.i 0 % 2 ^ k)).tdiv (2 ^ k))) = _
    have e1 := Int.emod_nonneg (ρ.i 0) (show (2 : Int) ^ k ≠ 0 by omega)
    have e2 := Int.emod_lt_of_pos (ρ.i 0) hp
    rw [wrap_i64 (x := ρ.i 0 - ρ.i 0 % 2 ^ k) (by omega) (by omega), exact_div hp]
    have d1 : -2147483648 ≤ ρ.i 0 / 2 ^ k := Int.le_ediv_of_mul_le hp (by
      have := Int.mul_le_mul_of_nonneg_left (show (1 : Int) ≤ 2 ^ k by omega) (show (0 : Int) ≤ 2147483648 by decide)
      omega)
    have d2 : ρ.i 0 / 2 ^ k ≤ 2147483647 := by
      rcases Int.lt_or_le (ρ.i 0) 0 with hn | hn
      · have := Int.ediv_neg_of_neg_of_pos hn hp; omega
      · have := Int.ediv_le_self (2 ^ k) hn; omega
    rw [wrap_i64 (by omega) (by omega), wrap_i32 d1 d2]
  have hr : (E.b' cx .rem .i64 (.v 0) (.c (2 ^ k))).ev (envK ρ) = (ρ.i 0).tmod (2 ^ k) := by rw [E.b'_ev hK]; rfl
  have hc : (E.b' cx .lt .i64 (E.b' cx .rem .i64 (.v 0) (.c (2 ^ k))) (.c 0)).ev (envK ρ) = bool01 (decide ((ρ.i 0).tmod (2 ^ k) < 0)) := by
    rw [E.b'_ev hK]
    show bool01 (decide (_ < (0 : Int))) = _
    rw [hr]
  have hmod := mod_pos (x := ρ.i 0) hp
  have ha : (E.b' cx .add .i64 (E.b' cx .rem .i64 (.v 0) (.c (2 ^ k))) (.c (2 ^ k))).ev (envK ρ) = (ρ.i 0).tmod (2 ^ k) + 2 ^ k := by
    rw [E.b'_ev hK, hr]
    show IntKind.wrap .i64 ((ρ.i 0).tmod (2 ^ k) + 2 ^ k) = _
    have t1 : ((ρ.i 0).tmod (2 ^ k)).natAbs ≤ (ρ.i 0).natAbs := by rw [Int.natAbs_tmod]; exact Nat.mod_le _ _
    exact wrap_i64 (by omega) (by omega)
  congr 1
  unfold sarX
  simp only
  split
  · rename_i n he
    rw [he] at hc
    simp only [E.ev] at hc
    by_cases hn : (ρ.i 0).tmod (2 ^ k) < 0
    · rw [if_neg (by rw [hc]; simp [bool01, hn])]
      refine fin _ ?_
      rw [ha, ← hmod, if_pos hn]
    · rw [if_pos (by rw [hc]; simp [bool01, hn])]
      refine fin _ ?_
      rw [hr, ← hmod, if_neg hn]
  · rw [E.mix_ev, hc]
    by_cases hn : (ρ.i 0).tmod (2 ^ k) < 0
    · rw [if_pos (by simp [bool01, hn])]
      refine fin _ ?_
      rw [ha, ← hmod, if_pos hn]
    · rw [if_neg (by simp [bool01, hn])]
      refine fin _ ?_
      rw [hr, ← hmod, if_neg hn]
end Go.Eng
end

/-! Plain laws of numbers, part V: the references' flips, signs, the least and the greatest. -/
section
set_option linter.unusedVariables false
set_option linter.unusedSimpArgs false
set_option linter.unusedSectionVars false
namespace Go.Eng

def bitV (v i : Nat) : E := .f 2 (.v v) (.c i) (.c 0)
theorem bitV_ev {ρ : Env} (hf : ρ.f = fN) (v i : Nat) : (bitV v i).ev ρ = ρ.i v % 4294967296 / 2 ^ i % 2 := by
  simp only [bitV, E.ev, hf]
  show bitZ _ _ = _
  unfold bitZ
  rw [Int.toNat_natCast]

theorem xor_bit (a b i : Nat) : (((a ^^^ b : Nat) : Int)) / 2 ^ i % 2 = ((a : Int) / 2 ^ i % 2 + (b : Int) / 2 ^ i % 2) % 2 := by
  have h := Nat.testBit_xor a b i
  rw [Nat.testBit_eq_decide_div_mod_eq, Nat.testBit_eq_decide_div_mod_eq, Nat.testBit_eq_decide_div_mod_eq] at h
  have c : ∀ n : Nat, (n : Int) / 2 ^ i % 2 = ((n / 2 ^ i % 2 : Nat) : Int) := by intro n; norm_cast
  rw [c, c, c]
  have p1 : a / 2 ^ i % 2 < 2 := Nat.mod_lt _ (by decide)
  have p2 : b / 2 ^ i % 2 < 2 := Nat.mod_lt _ (by decide)
  have p3 : (a ^^^ b) / 2 ^ i % 2 < 2 := Nat.mod_lt _ (by decide)
  generalize a / 2 ^ i % 2 = x at *
  generalize b / 2 ^ i % 2 = y at *
  generalize (a ^^^ b) / 2 ^ i % 2 = z at *
  by_cases hx : x = 1 <;> by_cases hy : y = 1 <;> simp [hx, hy] at h <;> omega

def xorL (cx : Cx) : List E := (List.range 32).reverse.map fun i => E.b' cx .rem .i64 (E.b' cx .add .i64 (bitV 0 i) (bitV 1 i)) (.c 2)
def flipX (cx : Cx) : E := E.w' cx .i32 (E.b' cx .sub .i64 (E.w' cx .i32 (horE cx (.c 0) (xorL cx))) (.v 1))
def flipR : SV := .int .i32 (.w .i32 (.b .psub .i64 (.b .xor .i32 (.v 0) (.v 1)) (.v 1)))

theorem flip_res {cx : Cx} {ρ : Env} (hρ : EnvOk cx ρ) (hf : ρ.f = fN) (h0 : -2147483648 ≤ ρ.i 0 ∧ ρ.i 0 ≤ 2147483647) (h1 : -2147483648 ≤ ρ.i 1 ∧ ρ.i 1 ≤ 2147483647) :
    (SV.int .i32 (flipX cx)).den ρ b0 = flipR.den ρ b0 := by
  obtain ⟨a, ha⟩ : ∃ a : Nat, ρ.i 0 % 4294967296 = a := ⟨(ρ.i 0 % 4294967296).toNat, by omega⟩
  obtain ⟨b, hb⟩ : ∃ b : Nat, ρ.i 1 % 4294967296 = b := ⟨(ρ.i 1 % 4294967296).toNat, by omega⟩
  have ha' : a < 2 ^ 32 := by omega
  have hb' : b < 2 ^ 32 := by omega
  have hx : a ^^^ b < 2 ^ 32 := Nat.xor_lt_two_pow ha' hb'
  have one : ∀ i, (E.b' cx .rem .i64 (E.b' cx .add .i64 (bitV 0 i) (bitV 1 i)) (.c 2)).ev ρ = (((a ^^^ b : Nat) : Int)) / 2 ^ i % 2 := by
    intro i
    rw [E.b'_ev hρ, E.b'_ev hρ, bitV_ev hf, bitV_ev hf, ha, hb, xor_bit]
    have p1 : 0 ≤ (a : Int) / 2 ^ i % 2 ∧ (a : Int) / 2 ^ i % 2 ≤ 1 := by omega
    have p2 : 0 ≤ (b : Int) / 2 ^ i % 2 ∧ (b : Int) / 2 ^ i % 2 ≤ 1 := by omega
    show (IntKind.wrap .i64 ((a : Int) / 2 ^ i % 2 + (b : Int) / 2 ^ i % 2)).tmod 2 = _
    rw [wrap_i64 (by omega) (by omega), Int.tmod_eq_emod_of_nonneg (by omega)]
  have hbit : ∀ e ∈ xorL cx, 0 ≤ e.ev ρ ∧ e.ev ρ ≤ 1 := by
    intro e he
    obtain ⟨i, _, rfl⟩ := List.mem_map.1 he
    rw [one]; omega
  have hlen : (xorL cx).length = 32 := by simp [xorL]
  have hhor : horZ 0 ((xorL cx).map (E.ev ρ)) = ((a ^^^ b : Nat) : Int) := by
    have e : (xorL cx).map (E.ev ρ) = (List.range 32).reverse.map fun i => (((a ^^^ b : Nat) : Int)) / 2 ^ i % 2 := by
      unfold xorL
      rw [List.map_map]
      apply List.map_congr_left
      intro i _
      exact one i
    rw [e, bits_down _ _ (by omega)]
    exact Int.emod_eq_of_lt (by omega) (by exact_mod_cast hx)
  have hxor : BO.ev .xor .i32 (ρ.i 0) (ρ.i 1) = IntKind.wrap .i32 ((a ^^^ b : Nat) : Int) := by
    simp only [BO.ev]
    have hk : IntKind.i32.bits = 32 := rfl
    have t : ∀ (x : Int) (n : Nat), x % 4294967296 = n → (BitVec.ofInt IntKind.i32.bits x).toNat = n := by
      intro x n hn
      rw [hk, BitVec.toNat_ofInt]
      have h : (((2 ^ 32 : Nat)) : Int) = 4294967296 := by decide
      rw [h]; omega
    rw [BitVec.toNat_xor, t _ _ ha, t _ _ hb]
  show Value.int .i32 ((flipX cx).ev ρ) = Value.int .i32 (IntKind.wrap .i32 (BO.ev .xor .i32 (ρ.i 0) (ρ.i 1) - ρ.i 1))
  congr 1
  unfold flipX
  rw [E.w'_ev hρ, E.b'_ev hρ, hor_x hρ _ hbit hlen, hhor, hxor]
  show IntKind.wrap .i32 (IntKind.wrap .i64 (IntKind.wrap .i32 ((a ^^^ b : Nat) : Int) - ρ.i 1)) = _
  rw [wrap_wrap .i32 .i64 _ (by decide)]

theorem sign_ref {x : Int} (h : -2147483648 ≤ x ∧ x ≤ 2147483647) : (if bool01 (decide (x < 0)) ≠ 0 then -1 else 0) = BO.ev .shr .i32 x 31 := by
  rw [ite01]
  have := shr_eq (k := .i32) (n := 31) (by decide) x
  show _ = shrZ .i32 x 31
  rw [show ((31 : Nat) : Int) = 31 from rfl] at this
  rw [this]
  have e : (2 : Int) ^ 31 = 2147483648 := by decide
  rw [e]
  split <;> omega
theorem max_ref (a b : Int) : (if bool01 (decide (a < b)) ≠ 0 then b else a) = BO.ev .max .i64 a b := by
  rw [ite01]; simp only [BO.ev]
theorem min_ref (a b : Int) : (if bool01 (decide (a < b)) ≠ 0 then a else b) = BO.ev .min .i64 a b := by
  rw [ite01]; simp only [BO.ev]; split <;> split <;> omega
theorem abs_ref {x : Int} (h : -2147483648 ≤ x ∧ x ≤ 2147483647) : (if bool01 (decide (x < 0)) ≠ 0 then BO.ev .min .i64 (0 - x) 2147483647 else x) = BO.ev .max .i64 x (BO.ev .min .i64 (0 - x) 2147483647) := by
  rw [ite01]; simp only [BO.ev]; split <;> split <;> split <;> omega
end Go.Eng
end

/-! Plain laws of numbers: sums are made of bits. -/
section
set_option linter.unusedVariables false
set_option linter.unusedSimpArgs false
namespace Go.Eng

abbrev b32 (x : Int) : BitVec 32 := BitVec.ofInt 32 x

theorem wi_b (x : Int) : IntKind.wrap .i32 x = (b32 x).toInt := by
  rw [wi32, BitVec.toInt_ofInt]
  have h : (((2 ^ 32 : Nat)) : Int) = 4294967296 := by decide
  simp only [Int.bmod, h]
  split <;> split <;> omega
theorem b_self {x : Int} (h1 : -2147483648 ≤ x) (h2 : x ≤ 2147483647) : (b32 x).toInt = x := by
  rw [← wi_b, wi32]; split <;> omega
theorem b_nat (z : BitVec 32) : b32 (z.toNat : Int) = z := by
  apply BitVec.eq_of_toNat_eq
  rw [BitVec.toNat_ofInt]
  have := z.isLt
  omega
theorem b_int (z : BitVec 32) : b32 z.toInt = z := BitVec.ofInt_toInt ..
theorem b_wrap (x : Int) : b32 (IntKind.wrap .i32 x) = b32 x := by rw [wi_b, b_int]
theorem b_add (x y : Int) : b32 (x + y) = b32 x + b32 y := BitVec.ofInt_add ..
theorem b_sub (x y : Int) : b32 (x - y) = b32 x - b32 y := by
  apply BitVec.eq_of_toInt_eq
  rw [BitVec.toInt_sub, BitVec.toInt_ofInt, BitVec.toInt_ofInt, BitVec.toInt_ofInt]
  simp
theorem b_mul (x y : Int) : b32 (x * y) = b32 x * b32 y := BitVec.ofInt_mul ..
theorem band_b (x y : Int) : band .i32 x y = (b32 x &&& b32 y).toInt := by
  have : IntKind.wrap .i32 ((b32 x &&& b32 y).toNat : Int) = (b32 x &&& b32 y).toInt := by rw [wi_b, b_nat]
  exact this
theorem bor_b (x y : Int) : bor .i32 x y = (b32 x ||| b32 y).toInt := by
  have : IntKind.wrap .i32 ((b32 x ||| b32 y).toNat : Int) = (b32 x ||| b32 y).toInt := by rw [wi_b, b_nat]
  exact this
theorem bxor_b (x y : Int) : bxor .i32 x y = (b32 x ^^^ b32 y).toInt := by
  have : IntKind.wrap .i32 ((b32 x ^^^ b32 y).toNat : Int) = (b32 x ^^^ b32 y).toInt := by rw [wi_b, b_nat]
  exact this
theorem bandn_b (x y : Int) : bandn .i32 x y = (b32 x &&& ~~~ b32 y).toInt := by
  have : IntKind.wrap .i32 ((b32 x &&& ~~~ b32 y).toNat : Int) = (b32 x &&& ~~~ b32 y).toInt := by rw [wi_b, b_nat]
  exact this

section
variable (A B : BitVec 32)
theorem split_and : A = (A &&& ~~~B) + (A &&& B) := by
  rw [BitVec.add_eq_or_of_and_eq_zero]
  · ext i; simp; cases A[i] <;> cases B[i] <;> rfl
  · ext i; simp; cases A[i] <;> cases B[i] <;> decide
theorem or_split : A ||| B = A + (B &&& ~~~A) := by
  rw [BitVec.add_eq_or_of_and_eq_zero]
  · ext i; simp; cases A[i] <;> cases B[i] <;> rfl
  · ext i; simp; cases A[i] <;> cases B[i] <;> decide
theorem or_xor : A ||| B = (A ^^^ B) + (A &&& B) := by
  rw [BitVec.add_eq_or_of_and_eq_zero]
  · ext i; simp; cases A[i] <;> cases B[i] <;> rfl
  · ext i; simp; cases A[i] <;> cases B[i] <;> decide
theorem add_or_and : A + B = (A ||| B) + (A &&& B) := by
  have h1 := or_split A B
  have h2 := split_and B A
  rw [BitVec.and_comm B A] at h2
  rw [h1, BitVec.add_assoc, ← h2]
theorem add_xor_and : A + B = (A ^^^ B) + 2#32 * (A &&& B) := by
  rw [add_or_and, or_xor, BitVec.add_assoc, BitVec.two_mul]
theorem sub_andn : A - B = (A &&& ~~~B) - (B &&& ~~~A) := by
  have h1 := split_and A B
  have h2 := split_and B A
  rw [BitVec.and_comm B A] at h2
  generalize A &&& ~~~B = C at *
  generalize B &&& ~~~A = D at *
  generalize A &&& B = F at *
  bv_omega
theorem xor_xor : (A ^^^ B) ^^^ B = A := by ext i; simp
theorem or_andn_and : (A &&& ~~~B) ||| (A &&& B) = A := by ext i; simp; cases A[i] <;> cases B[i] <;> rfl
end

end Go.Eng
end

/-! Plain laws of numbers: how many bits a number has, by halves. -/
section
set_option linter.unusedVariables false
set_option linter.unusedSimpArgs false
namespace Go.Eng

/-- the halvings, one by one -/
def mkB (cx : Cx) : Nat → E → Nat → E
  | 0, _, k => .c k
  | j + 1, x, k => E.mix (E.b' cx .lt .i64 (.c 0) x) (mkB cx j (E.b' cx .quo .i64 x (.c 2)) (k + 1)) (.c k)

def bitsZ (x : Int) : Int := Lib.bitLen x.toNat
theorem bitsZ_neg {x : Int} (h : x ≤ 0) : bitsZ x = 0 := by
  unfold bitsZ
  have : x.toNat = 0 := by omega
  rw [this]; rfl
theorem bitsZ_half {x : Int} (h : 0 < x) (h2 : x < 18446744073709551616) : bitsZ x = 1 + bitsZ (x / 2) := by
  unfold bitsZ
  rw [Lib.bitLen_half x.toNat (by omega) (by omega)]
  have : (x / 2).toNat = x.toNat / 2 := by omega
  rw [this]; omega
theorem mkB_ev {cx : Cx} {ρ : Env} (hρ : EnvOk cx ρ) : ∀ (j : Nat) (x : E) (k : Nat), j ≤ 63 → x.ev ρ < 2 ^ j → x.ev ρ ≤ 9223372036854775807 → (mkB cx j x k).ev ρ = k + bitsZ (x.ev ρ)
  | 0, x, k, _, h, _ => by
    rw [bitsZ_neg (by simpa using Int.lt_add_one_iff.1 (by simpa using h))]
    simp [mkB, E.ev]
  | j + 1, x, k, hj, h, hu => by
    simp only [mkB, E.mix_ev, E.b'_ev hρ]
    have e0 : BO.ev .lt .i64 ((E.c 0).ev ρ) (x.ev ρ) = bool01 (decide (0 < x.ev ρ)) := rfl
    rw [e0]
    by_cases hx : 0 < x.ev ρ
    · have hq : (E.b' cx .quo .i64 x (.c 2)).ev ρ = x.ev ρ / 2 := by
        rw [E.b'_ev hρ]
        show IntKind.wrap .i64 ((x.ev ρ).tdiv 2) = _
        rw [Int.tdiv_eq_ediv_of_nonneg (by omega)]
        exact wrap_i64 (by omega) (by omega)
      rw [if_pos (by simp [bool01, hx]), mkB_ev hρ j _ (k + 1) (by omega) (by rw [hq, Int.pow_succ] at *; omega) (by rw [hq]; omega), hq, bitsZ_half hx (by omega)]
      omega
    · rw [if_neg (by simp [bool01, hx]), bitsZ_neg (by omega)]
      simp [E.ev]
def bitsR : SV := .int .i64 (.f 3 (.b .max .i64 (.v 0) (.c 0)) (.c 0) (.c 0))
theorem bits_res {cx : Cx} {ρ : Env} (hρ : EnvOk cx ρ) (hf : ρ.f = fN) (h0 : -9223372036854775808 ≤ ρ.i 0 ∧ ρ.i 0 ≤ 9223372036854775807) : (SV.int .i64 (mkB cx 63 (.v 0) 0)).den ρ b0 = bitsR.den ρ b0 := by
  have h := mkB_ev hρ 63 (.v 0) 0 (Nat.le_refl _) (by show ρ.i 0 < 2 ^ 63; have : (2 : Int) ^ 63 = 9223372036854775808 := by decide
                                                      omega) h0.2
  generalize mkB cx 63 (.v 0) 0 = E0 at h ⊢
  have e : (E.v 0).ev ρ = ρ.i 0 := rfl
  rw [e] at h
  have hR : bitsR.den ρ b0 = Value.int .i64 (ρ.f 3 (BO.ev .max .i64 (ρ.i 0) 0) 0 0) := rfl
  rw [hR, hf]
  simp only [SV.den, h]
  show Value.int .i64 _ = Value.int .i64 (blen64 _)
  unfold blen64 bitsZ
  have : (BO.ev .max .i64 (ρ.i 0) 0 % 18446744073709551616).toNat = (ρ.i 0).toNat := by
    simp only [BO.ev]; split <;> omega
  rw [this]; simp

/-! ### a turn round -/

def rolL (k : Nat) : List E := (List.range (32 - k)).reverse.map bitE ++ (List.range k).reverse.map fun i => bitE (i + (32 - k))
theorem horZ_acc (a : Int) : ∀ (l : List Int) (b : Int), horZ (a + b) l = a * 2 ^ l.length + horZ b l
  | [], b => by simp [horZ]
  | x :: l, b => by
    simp only [horZ, List.length_cons]
    rw [show 2 * (a + b) + x = 2 * a + (2 * b + x) by omega, horZ_acc (2 * a) l, Int.pow_succ, Int.mul_comm 2 a, Int.mul_assoc, Int.mul_comm 2]
theorem rolL_hor {ρ : Env} (hf : ρ.f = fN) {k : Nat} (hk : k ≤ 31) : horZ 0 ((rolL k).map (E.ev ρ)) = ρ.i 0 % 4294967296 % 2 ^ (32 - k) * 2 ^ k + ρ.i 0 % 4294967296 / 2 ^ (32 - k) := by
  have e : (rolL k).map (E.ev ρ) = ((List.range (32 - k)).reverse.map fun i => ρ.i 0 % 4294967296 / 2 ^ i % 2) ++ ((List.range k).reverse.map fun i => ρ.i 0 % 4294967296 / 2 ^ (32 - k) / 2 ^ i % 2) := by
    unfold rolL
    rw [List.map_append, List.map_map, List.map_map]
    congr 1
    · apply List.map_congr_left
      intro i _
      show (bitE i).ev ρ = _
      rw [bitE_ev hf]
    · apply List.map_congr_left
      intro i _
      show (bitE (i + (32 - k))).ev ρ = _
      rw [bitE_ev hf, Nat.add_comm i, Int.pow_add, Int.ediv_ediv_of_nonneg (Int.le_of_lt (Int.pow_pos (by decide)))]
  have hp : (0 : Int) < 2 ^ (32 - k) := Int.pow_pos (by decide)
  have h1 := horZ_acc (ρ.i 0 % 4294967296 % 2 ^ (32 - k)) ((List.range k).reverse.map fun i => ρ.i 0 % 4294967296 / 2 ^ (32 - k) / 2 ^ i % 2) 0
  rw [Int.add_zero] at h1
  have hd : 0 ≤ ρ.i 0 % 4294967296 / 2 ^ (32 - k) := Int.ediv_nonneg (by omega) (by omega)
  rw [e, horZ_app, bits_down _ _ (by omega), h1, bits_down _ _ hd]
  simp only [List.length_map, List.length_reverse, List.length_range]
  congr 1
  refine Int.emod_eq_of_lt hd ?_
  refine Int.ediv_lt_of_lt_mul hp ?_
  rw [← Int.pow_add, show k + (32 - k) = 32 by omega]
  have : (2 : Int) ^ 32 = 4294967296 := by decide
  omega
theorem rol01 {ρ : Env} (hf : ρ.f = fN) (k : Nat) : ∀ e ∈ rolL k, 0 ≤ e.ev ρ ∧ e.ev ρ ≤ 1 := by
  have hb : ∀ i, 0 ≤ (bitE i).ev ρ ∧ (bitE i).ev ρ ≤ 1 := fun i => by rw [bitE_ev hf]; omega
  intro e he
  rcases List.mem_append.1 he with h | h
  · obtain ⟨i, _, rfl⟩ := List.mem_map.1 h
    exact hb i
  · obtain ⟨i, _, rfl⟩ := List.mem_map.1 h
    exact hb _
def rolX (cx : Cx) (k : Nat) : E := E.w' cx .i32 (horE cx (.c 0) (rolL k))

end Go.Eng
end

/-! Plain laws of numbers: a turn round, as the program has it. -/
section
set_option linter.unusedVariables false
set_option linter.unusedSimpArgs false
namespace Go.Eng

def rolN : E := .b .and .u64 (.b .and .i32 (.v 1) (.c 31)) (.c 31)
def rolR : SV := .int .i32 (.w .i32 (.b .or .u32 (.b .shl .u32 (.w .u32 (.v 0)) rolN) (.b .shr .u32 (.w .u32 (.v 0)) (.b .psub .i64 (.c 32) rolN))))
theorem band31u : ∀ k : Fin 32, band .u64 (k.val : Int) 31 = (k.val : Int) := by decide +kernel
theorem or_disj {a b k : Nat} (hb : b < 2 ^ k) (h : 2 ^ k * a + b < 4294967296) : bor .u32 ((2 ^ k * a : Nat) : Int) (b : Int) = ((2 ^ k * a + b : Nat) : Int) := by
  show IntKind.wrap .u32 ((BitVec.ofInt 32 ((2 ^ k * a : Nat) : Int) ||| BitVec.ofInt 32 (b : Int)).toNat : Int) = _
  rw [BitVec.toNat_or, BitVec.toNat_ofInt, BitVec.toNat_ofInt]
  have e : (((2 ^ 32 : Nat)) : Int) = 4294967296 := by decide
  have e1 : (((2 ^ k * a : Nat) : Int) % ((2 ^ 32 : Nat) : Int)).toNat = 2 ^ k * a := by rw [e]; generalize 2 ^ k * a = m at *; omega
  have e2 : ((b : Int) % ((2 ^ 32 : Nat) : Int)).toNat = b := by rw [e]; generalize 2 ^ k * a = m at *; omega
  rw [e1, e2, ← Nat.two_pow_add_eq_or_of_lt hb, wu32]
  generalize 2 ^ k * a = m at *
  omega

theorem rol_res {cx : Cx} (ρ : Env) (k : Nat) (hk : k ≤ 31) (hf : ρ.f = fN) (hK : EnvOk cx (envK ρ)) (h0 : -2147483648 ≤ ρ.i 0) (h0' : ρ.i 0 ≤ 2147483647) (h1 : -2147483648 ≤ ρ.i 1) (h1' : ρ.i 1 ≤ 2147483647) (hm : ρ.i 1 % 32 = k) :
    Value.int .i32 ((rolX cx k).ev (envK ρ)) = rolR.den ρ b0 := by
  unfold rolX
  rw [hor_x hK _ (rol01 (ρ := envK ρ) hf k) (by simp [rolL]; omega), rolL_hor (ρ := envK ρ) hf hk]
  have hb : band .i32 (ρ.i 1) 31 = k := (band31_mod h1 h1').trans hm
  show Value.int .i32 _ = Value.int .i32 (IntKind.wrap .i32 (bor .u32 (shlZ .u32 (IntKind.wrap .u32 (ρ.i 0)) (band .u64 (band .i32 (ρ.i 1) 31) 31)) (shrZ .u32 (IntKind.wrap .u32 (ρ.i 0)) (32 - band .u64 (band .i32 (ρ.i 1) 31) 31))))
  have hu : band .u64 (k : Int) 31 = k := band31u ⟨k, by omega⟩
  rw [hb, hu, show (32 : Int) - (k : Int) = ((32 - k : Nat) : Int) by omega, shl_eq (by show k ≤ 32; omega), shr_eq (by show 32 - k ≤ 32; omega), wu32 (ρ.i 0)]
  show Value.int .i32 (IntKind.wrap .i32 (ρ.i 0 % 4294967296 % 2 ^ (32 - k) * 2 ^ k + ρ.i 0 % 4294967296 / 2 ^ (32 - k))) = _
  congr 2
  have hy : 0 ≤ ρ.i 0 % 4294967296 := by omega
  have hy2 : ρ.i 0 % 4294967296 < 4294967296 := by omega
  generalize ρ.i 0 % 4294967296 = y at hy hy2
  obtain ⟨m, rfl⟩ := Int.eq_ofNat_of_zero_le hy
  have e : (4294967296 : Int) = 2 ^ (32 - k) * 2 ^ k := by
    rw [← Int.pow_add, show 32 - k + k = 32 by omega]; decide
  have eN : (4294967296 : Nat) = 2 ^ (32 - k) * 2 ^ k := by
    rw [← Nat.pow_add, show 32 - k + k = 32 by omega]
  have w : IntKind.wrap .u32 ((m : Int) * 2 ^ k) = ((2 ^ k * (m % 2 ^ (32 - k)) : Nat) : Int) := by
    rw [wu32, e, Int.mul_comm (m : Int), Int.mul_comm (2 ^ (32 - k)), Int.mul_emod_mul_of_pos _ _ (Int.pow_pos (by decide))]
    push_cast; rfl
  have d : (m : Int) / 2 ^ (32 - k) = ((m / 2 ^ (32 - k) : Nat) : Int) := by push_cast; rfl
  have hlt : m / 2 ^ (32 - k) < 2 ^ k := by
    refine Nat.div_lt_of_lt_mul ?_
    rw [← eN]; omega
  have hlt2 : 2 ^ k * (m % 2 ^ (32 - k)) + m / 2 ^ (32 - k) < 4294967296 := by
    have h3 : m % 2 ^ (32 - k) + 1 ≤ 2 ^ (32 - k) := Nat.mod_lt _ (Nat.two_pow_pos _)
    have h4 := Nat.mul_le_mul_left (2 ^ k) h3
    rw [Nat.mul_add, Nat.mul_one, Nat.mul_comm (2 ^ k) (2 ^ (32 - k)), ← eN] at h4
    omega
  rw [w, d, or_disj hlt hlt2]
  push_cast
  rw [Int.mul_comm]

end Go.Eng
end

/-! Plain laws of numbers: a word made bit by bit of two. -/
section
set_option linter.unusedVariables false
set_option linter.unusedSimpArgs false
namespace Go.Eng

def eachN (f : Int → Int) : Int := 2 * (2 * (2 * (2 * (2 * (2 * (2 * (2 * (2 * (2 * (2 * (2 * (2 * (2 * (2 * (2 * (2 * (2 * (2 * (2 * (2 * (2 * (2 * (2 * (2 * (2 * (2 * (2 * (2 * (2 * (2 * f 31 + f 30) + f 29) + f 28) + f 27) + f 26) + f 25) + f 24) + f 23) + f 22) + f 21) + f 20) + f 19) + f 18) + f 17) + f 16) + f 15) + f 14) + f 13) + f 12) + f 11) + f 10) + f 9) + f 8) + f 7) + f 6) + f 5) + f 4) + f 3) + f 2) + f 1) + f 0
theorem eachN_hor (f : Int → Int) : eachN f = horZ 0 ((List.range 32).reverse.map fun i : Nat => f (i : Int)) := by
  have e : (List.range 32).reverse = [31, 30, 29, 28, 27, 26, 25, 24, 23, 22, 21, 20, 19, 18, 17, 16, 15, 14, 13, 12, 11, 10, 9, 8, 7, 6, 5, 4, 3, 2, 1, 0] := by decide
  rw [e]
  simp only [List.map_cons, List.map_nil, horZ, eachN]
  simp
theorem each_of {f : Int → Int} {Z : BitVec 32} (h : ∀ i : Nat, f (i : Int) = (Z.toNat : Int) / 2 ^ i % 2) : IntKind.wrap .i32 (eachN f) = Z.toInt := by
  have e : ((List.range 32).reverse.map fun i : Nat => f (i : Int)) = (List.range 32).reverse.map fun i : Nat => (Z.toNat : Int) / 2 ^ i % 2 := List.map_congr_left fun i _ => h i
  rw [eachN_hor, e, bits_down _ _ (by omega)]
  have hz := Z.isLt
  rw [Int.emod_eq_of_lt (by omega) (by exact_mod_cast hz), wi_b, b_nat]
theorem bitZ_nat (x : Int) (i : Nat) : bitZ x (i : Int) = ((b32 x).toNat : Int) / 2 ^ i % 2 := by
  unfold bitZ
  rw [Int.toNat_natCast, BitVec.toNat_ofInt]
  have e : (((2 ^ 32 : Nat)) : Int) = 4294967296 := by decide
  rw [e]
  have : (((x % 4294967296).toNat : Nat) : Int) = x % 4294967296 := by omega
  rw [this]
theorem and_bit (a b i : Nat) : (((a &&& b : Nat) : Int)) / 2 ^ i % 2 = ((a : Int) / 2 ^ i % 2) * ((b : Int) / 2 ^ i % 2) := by
  have h := Nat.testBit_and a b i
  rw [Nat.testBit_eq_decide_div_mod_eq, Nat.testBit_eq_decide_div_mod_eq, Nat.testBit_eq_decide_div_mod_eq] at h
  have c : ∀ n : Nat, (n : Int) / 2 ^ i % 2 = ((n / 2 ^ i % 2 : Nat) : Int) := by intro n; norm_cast
  rw [c, c, c]
  have p1 : a / 2 ^ i % 2 < 2 := Nat.mod_lt _ (by decide)
  have p2 : b / 2 ^ i % 2 < 2 := Nat.mod_lt _ (by decide)
  have p3 : (a &&& b) / 2 ^ i % 2 < 2 := Nat.mod_lt _ (by decide)
  generalize a / 2 ^ i % 2 = x at *
  generalize b / 2 ^ i % 2 = y at *
  generalize (a &&& b) / 2 ^ i % 2 = z at *
  have hx : x = 0 ∨ x = 1 := by omega
  have hy : y = 0 ∨ y = 1 := by omega
  rcases hx with rfl | rfl <;> rcases hy with rfl | rfl <;> simp at h <;> omega
theorem or_bit (a b i : Nat) : (((a ||| b : Nat) : Int)) / 2 ^ i % 2 = ((a : Int) / 2 ^ i % 2 + (b : Int) / 2 ^ i % 2) - ((a : Int) / 2 ^ i % 2) * ((b : Int) / 2 ^ i % 2) := by
  have h := Nat.testBit_or a b i
  rw [Nat.testBit_eq_decide_div_mod_eq, Nat.testBit_eq_decide_div_mod_eq, Nat.testBit_eq_decide_div_mod_eq] at h
  have c : ∀ n : Nat, (n : Int) / 2 ^ i % 2 = ((n / 2 ^ i % 2 : Nat) : Int) := by intro n; norm_cast
  rw [c, c, c]
  have p1 : a / 2 ^ i % 2 < 2 := Nat.mod_lt _ (by decide)
  have p2 : b / 2 ^ i % 2 < 2 := Nat.mod_lt _ (by decide)
  have p3 : (a ||| b) / 2 ^ i % 2 < 2 := Nat.mod_lt _ (by decide)
  generalize a / 2 ^ i % 2 = x at *
  generalize b / 2 ^ i % 2 = y at *
  generalize (a ||| b) / 2 ^ i % 2 = z at *
  have hx : x = 0 ∨ x = 1 := by omega
  have hy : y = 0 ∨ y = 1 := by omega
  rcases hx with rfl | rfl <;> rcases hy with rfl | rfl <;> simp at h <;> omega
theorem and_each (a b : Int) : IntKind.wrap .i32 (eachN fun i => bitZ a i * bitZ b i) = band .i32 a b := by
  rw [band_b]
  refine each_of (Z := b32 a &&& b32 b) fun i => ?_
  rw [bitZ_nat, bitZ_nat, BitVec.toNat_and, and_bit]
theorem or_each (a b : Int) : IntKind.wrap .i32 (eachN fun i => (bitZ a i + bitZ b i) - bitZ a i * bitZ b i) = bor .i32 a b := by
  rw [bor_b]
  refine each_of (Z := b32 a ||| b32 b) fun i => ?_
  rw [bitZ_nat, bitZ_nat, BitVec.toNat_or, or_bit]
theorem xor_each (a b : Int) : IntKind.wrap .i32 (eachN fun i => BO.ev .rem .i64 (bitZ a i + bitZ b i) 2) = bxor .i32 a b := by
  rw [bxor_b]
  refine each_of (Z := b32 a ^^^ b32 b) fun i => ?_
  rw [bitZ_nat, bitZ_nat, BitVec.toNat_xor, xor_bit]
  simp only [BO.ev]
  rw [Int.tmod_eq_emod_of_nonneg (by omega)]
theorem bic_each (a b : Int) : IntKind.wrap .i32 (eachN fun i => bitZ a i * (1 - bitZ b i)) = bandn .i32 a b := by
  rw [bandn_b]
  refine each_of (Z := b32 a &&& ~~~ b32 b) fun i => ?_
  have hs := split_and (b32 a) (b32 b)
  have hd : (b32 a).toNat = (b32 a &&& ~~~ b32 b).toNat ||| (b32 a &&& b32 b).toNat := by
    rw [← BitVec.toNat_or]
    congr 1
    ext j; simp; cases (b32 a)[j] <;> cases (b32 b)[j] <;> rfl
  have hz : (b32 a &&& ~~~ b32 b).toNat &&& (b32 a &&& b32 b).toNat = 0 := by
    rw [← BitVec.toNat_and]
    have : (b32 a &&& ~~~ b32 b) &&& (b32 a &&& b32 b) = 0#32 := by ext j; simp; cases (b32 a)[j] <;> cases (b32 b)[j] <;> decide
    rw [this]; rfl
  have h1 := or_bit (b32 a &&& ~~~ b32 b).toNat (b32 a &&& b32 b).toNat i
  have h2 := and_bit (b32 a &&& ~~~ b32 b).toNat (b32 a &&& b32 b).toNat i
  rw [← hd] at h1
  rw [hz] at h2
  have h3 := and_bit (b32 a).toNat (b32 b).toNat i
  rw [← BitVec.toNat_and] at h3
  rw [bitZ_nat, bitZ_nat, Int.mul_sub, Int.mul_one, ← h3]
  have h0 : (((0 : Nat) : Int)) / 2 ^ i % 2 = 0 := by simp
  rw [h0] at h2
  omega

end Go.Eng
end
