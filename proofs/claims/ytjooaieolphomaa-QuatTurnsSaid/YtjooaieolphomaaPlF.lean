/-
  Plain laws of numbers, part F: Newton's step for 1 by a number.
-/
import Derived.Test.YtjooaieolphomaaPlE
set_option linter.unusedVariables false
set_option linter.unusedSimpArgs false
namespace Go.Eng

def stepR (v z : Int) : Int := sat32 (z + mulqZ z (minZ (1073741824 - IntKind.wrap .i32 (shlZ .u32 (IntKind.wrap .u32 (mulqZ v z)) 1)) 2147483647))
/-- what is left: 2vz - 2^60 -/
def resR (v z : Int) : Int := 2 * (v * z) - 1152921504606846976

theorem stepR_res {v z R : Int} (hv0 : 536870912 ≤ v) (hv : v ≤ 1073741823) (hz0 : 0 ≤ z) (hz : z ≤ 1288490188) (h1 : -R ≤ resR v z) (h2 : resR v z ≤ R) (hR : R ≤ 115292150460684697) :
    1152921504606846976 * resR v (stepR v z) ≤ R * R + 4209074924794907629544087544 ∧ -(R * R + 4209074924794907629544087544) ≤ 1152921504606846976 * resR v (stepR v z) ∧ 0 ≤ stepR v z := by
  unfold resR at *
  obtain ⟨vz1, vz2⟩ := mul_bd0 (by omega : 0 ≤ v) hv hz0 hz
  have hm := mulq_near (x := v) (y := z) rfl (by omega) (by omega)
  unfold stepR
  generalize mulqZ v z = m at hm ⊢
  have hm0 : 0 ≤ m := by omega
  have hm1 : m ≤ 1073741823 := by omega
  rw [shl1 hm0 hm1]
  have hmin : minZ (1073741824 - 2 * m) 2147483647 = 1073741824 - 2 * m := by unfold minZ; rw [if_neg (by omega)]
  rw [hmin]
  obtain ⟨e, he⟩ : ∃ e, e = 1073741824 - 2 * m := ⟨_, rfl⟩
  rw [← he]
  have he1 : -1073741824 ≤ e := by omega
  have he2 : e ≤ 1073741824 := by omega
  obtain ⟨ze1, ze2⟩ := mul_bd (by omega : -1288490188 ≤ z) hz he1 he2
  have hn := mulq_near (x := z) (y := e) rfl (by omega) (by omega)
  generalize mulqZ z e = n at hn ⊢
  obtain ⟨r, hr⟩ : ∃ r, r = 2 * (v * z) - 1152921504606846976 := ⟨_, rfl⟩
  have e1 : 1073741824 * e ≤ -r + 1073741824 := by omega
  have e2 : -r - 1073741824 ≤ 1073741824 * e := by omega
  have f1 := Int.mul_le_mul_of_nonneg_left e1 hz0
  have f2 := Int.mul_le_mul_of_nonneg_left e2 hz0
  have f1' : 1073741824 * (z * e) ≤ -(z * r) + 1073741824 * z := by grind
  have f2' : -(z * r) - 1073741824 * z ≤ 1073741824 * (z * e) := by grind
  obtain ⟨D, hD⟩ : ∃ D, D = 1152921504606846976 * n + z * r := ⟨_, rfl⟩
  have d1 : -1960003249680117764 ≤ D := by omega
  have d2 : D ≤ 1960003249680117764 := by omega
  obtain ⟨zr1, zr2⟩ := mul_bd (by omega : -1288490188 ≤ z) hz (show -115292150460684697 ≤ r by omega) (show r ≤ 115292150460684697 by omega)
  have hz' : -2147483648 ≤ z + n ∧ z + n ≤ 2147483647 := by omega
  rw [sat32_id hz'.1 hz'.2]
  obtain ⟨vD1, vD2⟩ := mul_bd (by omega : -1073741823 ≤ v) hv d1 d2
  have key : 1152921504606846976 * (2 * (v * (z + n)) - 1152921504606846976) = 2 * (v * D) - r * r := by
    rw [hD, hr]; grind
  rw [key]
  have c0 : 0 ≤ (R - r) * (R + r) := Int.mul_nonneg (by omega) (by omega)
  have c1 : r * r ≤ R * R := by grind
  have c2 := sq_nonneg' r
  refine ⟨by omega, by omega, ?_⟩
  -- z + n is not below 0
  have g1 := Int.mul_le_mul_of_nonneg_left (show r ≤ 115292150460684697 by omega) hz0
  omega

theorem resR_range {v z : Int} (hv0 : 536870912 ≤ v) (hv : v ≤ 1073741823) (hz : 0 ≤ z) (h1 : -115292150460684697 ≤ resR v z) (h2 : resR v z ≤ 115292150460684697) : 268435456 ≤ z ∧ z ≤ 1288490188 := by
  unfold resR at *
  constructor
  · rcases Int.lt_or_le z 268435456 with h | h
    · exfalso
      obtain ⟨a1, a2⟩ := mul_bd0 (by omega : 0 ≤ v) hv hz (show z ≤ 268435455 by omega)
      omega
    · exact h
  · rcases Int.lt_or_le 1288490188 z with h | h
    · exfalso
      have a2 := Int.mul_le_mul hv0 (show 1288490189 ≤ z by omega) (by decide) (by omega)
      omega
    · exact h

theorem mul_two (a b c d : Int) : (a - c) * (d - b) = a * d - a * b - c * d + c * b := by grind
theorem mul_two' (a b c d : Int) : (a - c) * (b - d) = a * b - a * d - c * b + c * d := by grind

theorem stepR_chain {v z R R' : Int} (hv0 : 536870912 ≤ v) (hv : v ≤ 1073741823) (hz : 0 ≤ z) (h1 : -R ≤ resR v z) (h2 : resR v z ≤ R) (hR : R ≤ 115292150460684697)
    (hR' : R * R + 4209074924794907629544087544 ≤ 1152921504606846976 * R') : 0 ≤ stepR v z ∧ -R' ≤ resR v (stepR v z) ∧ resR v (stepR v z) ≤ R' := by
  obtain ⟨r1, r2⟩ := resR_range hv0 hv hz (by omega) (by omega)
  obtain ⟨s1, s2, s3⟩ := stepR_res hv0 hv hz r2 h1 h2 hR
  refine ⟨s3, ?_, ?_⟩ <;> (generalize R * R = V at *; omega)

/-- behind four steps -/
theorem recip_res {v : Int} (hv0 : 536870912 ≤ v) (hv : v ≤ 1073741823) :
    0 ≤ stepR v (stepR v (stepR v (stepR v (1564549212 - v)))) ∧ -3758096384 ≤ resR v (stepR v (stepR v (stepR v (stepR v (1564549212 - v))))) ∧ resR v (stepR v (stepR v (stepR v (stepR v (1564549212 - v))))) ≤ 3758096384 := by
  have a : 0 ≤ 1564549212 - v ∧ -103762935414616228 ≤ resR v (1564549212 - v) ∧ resR v (1564549212 - v) ≤ 103762935414616228 := by
    unfold resR
    have g1 : 0 ≤ (v - 536870912) * (1073741824 - v) := Int.mul_nonneg (by omega) (by omega)
    have g2 := sq_nonneg' (v - 782274606)
    have k1 : v * (1564549212 - v) = 1564549212 * v - v * v := by rw [Int.mul_sub, Int.mul_comm v 1564549212]
    have k2 : (v - 536870912) * (1073741824 - v) = 1610612736 * v - v * v - 576460752303423488 := by
      rw [mul_two v v 536870912 1073741824]; omega
    have k3 : (v - 782274606) * (v - 782274606) = v * v - 1564549212 * v + 611953559192455236 := by
      rw [mul_two' v v 782274606 782274606]; omega
    rw [k1]
    rw [k2] at g1
    rw [k3] at g2
    refine ⟨by omega, by omega, by omega⟩
  obtain ⟨a0, a1, a2⟩ := a
  obtain ⟨b0, b1, b2⟩ := stepR_chain (R' := 9453956337776146) hv0 hv a0 a1 a2 (by decide) (by decide)
  obtain ⟨c0, c1, c2⟩ := stepR_chain (R' := 78398662313265) hv0 hv b0 b1 b2 (by decide) (by decide)
  obtain ⟨d0, d1, d2⟩ := stepR_chain (R' := 9019431322) hv0 hv c0 c1 c2 (by decide) (by decide)
  exact stepR_chain (R' := 3758096384) hv0 hv d0 d1 d2 (by decide) (by decide)
end Go.Eng
