/-
  Plain laws of numbers, part A: the rounded product and shifts without a cut; Newton's step for 1 by a root.
-/
import Derived.Test.YtjooaieolphomaaEngT
import Derived.Test.YtjooaieolphomaaEngP
set_option linter.unusedVariables false
set_option linter.unusedSimpArgs false
namespace Go.Eng

theorem b01_ne {p : Prop} [Decidable p] : bool01 (decide p) ≠ 0 ↔ p := by by_cases h : p <;> simp [bool01, h]
theorem b01_eq {p : Prop} [Decidable p] : bool01 (decide p) = 0 ↔ ¬ p := by by_cases h : p <;> simp [bool01, h]
theorem b01_beq_ne {x y : Int} : bool01 (x == y) ≠ 0 ↔ x = y := by by_cases h : x = y <;> simp [bool01, h]
theorem b01_beq_eq {x y : Int} : bool01 (x == y) = 0 ↔ x ≠ y := by by_cases h : x = y <;> simp [bool01, h]

theorem sat32_id {x : Int} (h1 : -2147483648 ≤ x) (h2 : x ≤ 2147483647) : sat32 x = x := by
  unfold sat32; rw [sat_eq]; exact satZ_id h1 h2

/-- a rounded product that is not cut: p is the product -/
theorem mulq_near {x y p : Int} (hp : x * y = p) (h1 : -2305843008139952128 ≤ p) (h2 : p ≤ 2305843008139952128) :
    1073741824 * mulqZ x y ≤ p + 536870912 ∧ p + 536870912 < 1073741824 * mulqZ x y + 1073741824 := by
  rw [mulqZ_eq, hp, satZ_id (by omega) (by omega)]
  omega

theorem wrap_u32 {x : Int} (h1 : 0 ≤ x) (h2 : x ≤ 4294967295) : IntKind.wrap .u32 x = x := wrap_in _ _ (by simp [klo]; omega) (by simp [khi]; omega)
theorem wrap_i32 {x : Int} (h1 : -2147483648 ≤ x) (h2 : x ≤ 2147483647) : IntKind.wrap .i32 x = x := wrap_in _ _ (by simp [klo]; omega) (by simp [khi]; omega)

/-- four times -/
theorem shl2 {m : Int} (h1 : 0 ≤ m) (h2 : m ≤ 536870911) : IntKind.wrap .i32 (shlZ .u32 (IntKind.wrap .u32 m) 2) = 4 * m := by
  rw [wrap_u32 h1 (by omega)]
  have : shlZ .u32 m 2 = IntKind.wrap .u32 (4 * m) := by
    unfold shlZ; simp only [BO.ev]
    have : Nat.min (2 : Int).toNat IntKind.u32.bits = 2 := rfl
    rw [this]
    congr 1
    omega
  rw [this, wrap_u32 (by omega) (by omega), wrap_i32 (by omega) (by omega)]
theorem shl1 {m : Int} (h1 : 0 ≤ m) (h2 : m ≤ 1073741823) : IntKind.wrap .i32 (shlZ .u32 (IntKind.wrap .u32 m) 1) = 2 * m := by
  rw [wrap_u32 h1 (by omega)]
  have : shlZ .u32 m 1 = IntKind.wrap .u32 (2 * m) := by
    unfold shlZ; simp only [BO.ev]
    have : Nat.min (1 : Int).toNat IntKind.u32.bits = 1 := rfl
    rw [this]
    congr 1
    omega
  rw [this, wrap_u32 (by omega) (by omega), wrap_i32 (by omega) (by omega)]
theorem half_eq (k : IntKind) (hk : 1 ≤ k.bits) (m : Int) : shrZ k m 1 = m / 2 := by
  unfold shrZ; simp only [BO.ev]
  have : Nat.min (1 : Int).toNat k.bits = 1 := by
    show Nat.min 1 k.bits = 1
    exact Nat.min_eq_left hk
  rw [this, Int.fdiv_eq_ediv_of_nonneg _ (by decide)]; rfl

theorem mul_bd {a b A B : Int} (h1 : -A ≤ a) (h2 : a ≤ A) (h3 : -B ≤ b) (h4 : b ≤ B) : -(A * B) ≤ a * b ∧ a * b ≤ A * B := by
  have h5 := Int.mul_nonneg (Int.sub_nonneg_of_le h2) (Int.sub_nonneg_of_le h4)
  have h6 := Int.mul_nonneg (show 0 ≤ a + A by omega) (show 0 ≤ b + B by omega)
  have h7 := Int.mul_nonneg (Int.sub_nonneg_of_le h2) (show 0 ≤ b + B by omega)
  have h8 := Int.mul_nonneg (show 0 ≤ a + A by omega) (Int.sub_nonneg_of_le h4)
  constructor <;> grind
theorem mul_bd0 {a b A B : Int} (h1 : 0 ≤ a) (h2 : a ≤ A) (h3 : 0 ≤ b) (h4 : b ≤ B) : 0 ≤ a * b ∧ a * b ≤ A * B :=
  ⟨Int.mul_nonneg h1 h3, Int.mul_le_mul h2 h4 h3 (by omega)⟩

/-! ### Newton's step of 1 by a root -/

def stepZ (u z : Int) : Int :=
  sat32 (z + shrZ .i32 (mulqZ z (minZ (1073741824 - IntKind.wrap .i32 (shlZ .u32 (IntKind.wrap .u32 (mulqZ u (mulqZ z z))) 2)) 2147483647)) 1)

/-- what is left: 4uz² - 2^90 -/
def resZ (u z : Int) : Int := 4 * (u * (z * z)) - 1237940039285380274899124224

theorem step_near {u z : Int} (hu0 : 268435456 ≤ u) (hu : u ≤ 1073741823) (hz0 : 1 ≤ z) (hz : z ≤ 1288490188) (hr : resZ u z ≤ 495176015714152109959649689) :
    ∃ D : Int, -8665580274997661924293869568 ≤ D ∧ D ≤ 8665580274997661924293869568 ∧ 2475880078570760549798248448 * stepZ u z = z * (2475880078570760549798248448 - resZ u z) + D := by
  unfold resZ at *
  obtain ⟨zz1, zz2⟩ := mul_bd0 (by omega : 0 ≤ z) hz (by omega : 0 ≤ z) hz
  have hp := mulq_near (x := z) (y := z) rfl (by omega) (by omega)
  unfold stepZ
  generalize mulqZ z z = p at hp ⊢
  have hp0 : 0 ≤ p := by omega
  have hp1 : p ≤ 1546188227 := by omega
  obtain ⟨up1, up2⟩ := mul_bd0 (by omega : 0 ≤ u) hu hp0 hp1
  have hm := mulq_near (x := u) (y := p) rfl (by omega) (by omega)
  generalize mulqZ u p = m at hm ⊢
  have a1 := Int.mul_le_mul_of_nonneg_left hp.1 (by omega : 0 ≤ u)
  have a2 := Int.mul_le_mul_of_nonneg_left (Int.le_of_lt hp.2) (by omega : 0 ≤ u)
  have a1' : 1073741824 * (u * p) ≤ u * (z * z) + 536870912 * u := by grind
  have a2' : u * (z * z) + 536870912 * u ≤ 1073741824 * (u * p) + 1073741824 * u := by grind
  clear a1 a2
  generalize u * (z * z) = c at *
  generalize u * p = b at *
  have hm0 : 0 ≤ m := by omega
  have hm1 : m ≤ 536870911 := by omega
  rw [shl2 hm0 hm1]
  have hmin : minZ (1073741824 - 4 * m) 2147483647 = 1073741824 - 4 * m := by unfold minZ; rw [if_neg (by omega)]
  rw [hmin]
  -- e = 2^30 - 4m
  have he : ∃ e, e = 1073741824 - 4 * m := ⟨_, rfl⟩
  obtain ⟨e, he⟩ := he
  rw [← he]
  have he1 : -1073741824 ≤ e := by omega
  have he2 : e ≤ 1073741824 := by omega
  obtain ⟨ze1, ze2⟩ := mul_bd (by omega : -1288490188 ≤ z) hz he1 he2
  have hn := mulq_near (x := z) (y := e) rfl (by omega) (by omega)
  generalize mulqZ z e = n at hn ⊢
  rw [half_eq _ (by decide)]
  have hk : ∃ k, k = n / 2 := ⟨_, rfl⟩
  obtain ⟨k, hk⟩ := hk
  rw [← hk]
  -- e against what is left
  have e1 : 1152921504606846976 * e ≤ 1237940039285380274899124224 - 4 * c + 4611686018427387904 := by omega
  have e2 : 1237940039285380274899124224 - 4 * c - 4611686018427387904 ≤ 1152921504606846976 * e := by omega
  have f1 := Int.mul_le_mul_of_nonneg_left e1 (by omega : 0 ≤ z)
  have f2 := Int.mul_le_mul_of_nonneg_left e2 (by omega : 0 ≤ z)
  have f1' : 1152921504606846976 * (z * e) ≤ 1237940039285380274899124224 * z - 4 * (z * c) + 4611686018427387904 * z := by grind
  have f2' : 1237940039285380274899124224 * z - 4 * (z * c) - 4611686018427387904 * z ≤ 1152921504606846976 * (z * e) := by grind
  clear f1 f2
  have hid : z * (2475880078570760549798248448 - (4 * c - 1237940039285380274899124224)) = 3713820117856140824697372672 * z - 4 * (z * c) := by grind
  rw [hid]
  clear hid
  generalize z * e = ze at *
  generalize hzc : z * c = zc at *
  have hz' : -2147483648 ≤ z + k ∧ z + k ≤ 2147483647 := by omega
  rw [sat32_id hz'.1 hz'.2]
  refine ⟨2475880078570760549798248448 * (z + k) - (3713820117856140824697372672 * z - 4 * zc), ?_, ?_, by omega⟩ <;> omega
end Go.Eng
