/-
  Plain laws of numbers: sums are made of bits.
-/
import Derived.Test.YtjooaieolphomaaDoorQlR
set_option linter.unusedVariables false
set_option linter.unusedSimpArgs false
namespace Go.Eng

abbrev b32 (x : Int) : BitVec 32 := BitVec.ofInt 32 x

theorem wi_b (x : Int) : IntKind.wrap .i32 x = (b32 x).toInt := by
  rw [wi32, BitVec.toInt_ofInt]
  have h : (((2 ^ 32 : Nat)) : Int) = 4294967296 := by decide
  simp only [Int.bmod, h]
  split <;> split <;> omega
theorem b_self {x : Int} (h1 : -2147483648 ≤ x) (h2 : x ≤ 2147483647) : (b32 x).toInt = x := by
  rw [← wi_b, wi32]; split <;> omega
theorem b_nat (z : BitVec 32) : b32 (z.toNat : Int) = z := by
  apply BitVec.eq_of_toNat_eq
  rw [BitVec.toNat_ofInt]
  have := z.isLt
  omega
theorem b_int (z : BitVec 32) : b32 z.toInt = z := BitVec.ofInt_toInt ..
theorem b_wrap (x : Int) : b32 (IntKind.wrap .i32 x) = b32 x := by rw [wi_b, b_int]
theorem b_add (x y : Int) : b32 (x + y) = b32 x + b32 y := BitVec.ofInt_add ..
theorem b_sub (x y : Int) : b32 (x - y) = b32 x - b32 y := by
  apply BitVec.eq_of_toInt_eq
  rw [BitVec.toInt_sub, BitVec.toInt_ofInt, BitVec.toInt_ofInt, BitVec.toInt_ofInt]
  simp
theorem b_mul (x y : Int) : b32 (x * y) = b32 x * b32 y := BitVec.ofInt_mul ..
theorem band_b (x y : Int) : band .i32 x y = (b32 x &&& b32 y).toInt := by
  have : IntKind.wrap .i32 ((b32 x &&& b32 y).toNat : Int) = (b32 x &&& b32 y).toInt := by rw [wi_b, b_nat]
  exact this
theorem bor_b (x y : Int) : bor .i32 x y = (b32 x ||| b32 y).toInt := by
  have : IntKind.wrap .i32 ((b32 x ||| b32 y).toNat : Int) = (b32 x ||| b32 y).toInt := by rw [wi_b, b_nat]
  exact this
theorem bxor_b (x y : Int) : bxor .i32 x y = (b32 x ^^^ b32 y).toInt := by
  have : IntKind.wrap .i32 ((b32 x ^^^ b32 y).toNat : Int) = (b32 x ^^^ b32 y).toInt := by rw [wi_b, b_nat]
  exact this
theorem bandn_b (x y : Int) : bandn .i32 x y = (b32 x &&& ~~~ b32 y).toInt := by
  have : IntKind.wrap .i32 ((b32 x &&& ~~~ b32 y).toNat : Int) = (b32 x &&& ~~~ b32 y).toInt := by rw [wi_b, b_nat]
  exact this

section
variable (A B : BitVec 32)
theorem split_and : A = (A &&& ~~~B) + (A &&& B) := by
  rw [BitVec.add_eq_or_of_and_eq_zero]
  · ext i; simp; cases A[i] <;> cases B[i] <;> rfl
  · ext i; simp; cases A[i] <;> cases B[i] <;> decide
theorem or_split : A ||| B = A + (B &&& ~~~A) := by
  rw [BitVec.add_eq_or_of_and_eq_zero]
  · ext i; simp; cases A[i] <;> cases B[i] <;> rfl
  · ext i; simp; cases A[i] <;> cases B[i] <;> decide
theorem or_xor : A ||| B = (A ^^^ B) + (A &&& B) := by
  rw [BitVec.add_eq_or_of_and_eq_zero]
  · ext i; simp; cases A[i] <;> cases B[i] <;> rfl
  · ext i; simp; cases A[i] <;> cases B[i] <;> decide
theorem add_or_and : A + B = (A ||| B) + (A &&& B) := by
  have h1 := or_split A B
  have h2 := split_and B A
  rw [BitVec.and_comm B A] at h2
  rw [h1, BitVec.add_assoc, ← h2]
theorem add_xor_and : A + B = (A ^^^ B) + 2#32 * (A &&& B) := by
  rw [add_or_and, or_xor, BitVec.add_assoc, BitVec.two_mul]
theorem sub_andn : A - B = (A &&& ~~~B) - (B &&& ~~~A) := by
  have h1 := split_and A B
  have h2 := split_and B A
  rw [BitVec.and_comm B A] at h2
  generalize A &&& ~~~B = C at *
  generalize B &&& ~~~A = D at *
  generalize A &&& B = F at *
  bv_omega
theorem xor_xor : (A ^^^ B) ^^^ B = A := by ext i; simp
theorem or_andn_and : (A &&& ~~~B) ||| (A &&& B) = A := by ext i; simp; cases A[i] <;> cases B[i] <;> rfl
end

end Go.Eng
