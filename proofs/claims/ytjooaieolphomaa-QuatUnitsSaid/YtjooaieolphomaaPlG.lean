/-
  Plain laws of numbers, part G: rounded products of numbers within a half.
-/
import Derived.Test.YtjooaieolphomaaPlF
set_option linter.unusedVariables false
set_option linter.unusedSimpArgs false
namespace Go.Eng

theorem mulqZ_comm (a b : Int) : mulqZ a b = mulqZ b a := by rw [mulqZ_eq, mulqZ_eq, Int.mul_comm]
theorem mulqZ_neg_neg (a b : Int) : mulqZ (-a) (-b) = mulqZ a b := by rw [mulqZ_eq, mulqZ_eq, Int.neg_mul_neg]
theorem mulqZ_half {a b : Int} (a1 : -536870912 ≤ a) (a2 : a ≤ 536870912) (b1 : -536870912 ≤ b) (b2 : b ≤ 536870912) : -268435456 ≤ mulqZ a b ∧ mulqZ a b ≤ 268435456 := by
  obtain ⟨h1, h2⟩ := mul_bd a1 a2 b1 b2
  have := mulq_near (x := a) (y := b) rfl (by omega) (by omega)
  omega
theorem mulqZ_neg_r {a b : Int} (a1 : -536870912 ≤ a) (a2 : a ≤ 536870912) (b1 : -536870912 ≤ b) (b2 : b ≤ 536870912) : -1 ≤ mulqZ a (-b) + mulqZ a b ∧ mulqZ a (-b) + mulqZ a b ≤ 1 := by
  obtain ⟨h1, h2⟩ := mul_bd a1 a2 b1 b2
  have e : a * (-b) = -(a * b) := Int.mul_neg a b
  have k1 := mulq_near (x := a) (y := b) rfl (by omega) (by omega)
  have k2 := mulq_near (x := a) (y := -b) e (by omega) (by omega)
  omega
theorem mulqZ_neg_l {a b : Int} (a1 : -536870912 ≤ a) (a2 : a ≤ 536870912) (b1 : -536870912 ≤ b) (b2 : b ≤ 536870912) : -1 ≤ mulqZ (-a) b + mulqZ a b ∧ mulqZ (-a) b + mulqZ a b ≤ 1 := by
  rw [mulqZ_comm (-a) b, mulqZ_comm a b]
  exact mulqZ_neg_r b1 b2 a1 a2
end Go.Eng
