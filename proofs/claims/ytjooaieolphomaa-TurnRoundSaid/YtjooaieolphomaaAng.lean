/-
  The trees of an angle, and of a sine and a cosine, in whole numbers. No program.
-/
import Derived.Test.YtjooaieolphomaaTrP
import Derived.Test.YtjooaieolphomaaEngT
import Derived.Test.YtjooaieolphomaaPlV
/-! The program's words for a turn against whole numbers. No program. -/
section
namespace Go.Eng
open Go.Tr
set_option linter.unusedSectionVars false

def dd (y : Int) : Int := if y < 0 then -1 else 0
theorem wr32 {x : Int} (l : -2147483648 ≤ x) (u : x ≤ 2147483647) : IntKind.wrap .i32 x = x := wrap_in .i32 x (by simpa [klo] using l) (by simpa [khi] using u)
theorem shr_div {v n : Int} {k : Nat} (hn : n = (k : Int)) (hk : k ≤ 32) : shrZ .i32 v n = v / 2 ^ k := by
  subst hn
  show v.fdiv (2 ^ (Nat.min (k : Int).toNat 32)) = _
  have : Nat.min (k : Int).toNat 32 = k := by rw [Int.toNat_natCast]; exact Nat.min_eq_left hk
  rw [this, Int.fdiv_eq_ediv_of_nonneg _ (Int.le_of_lt (Int.pow_pos (by decide)))]
theorem shr_dd {y : Int} (l : -2147483648 ≤ y) (u : y ≤ 2147483647) : shrZ .i32 y 31 = dd y := by
  rw [shr_div (k := 31) (n := 31) rfl (by omega)]
  unfold dd
  split <;> omega
theorem wrap_bv32 (x : Int) : IntKind.wrap .i32 (BitVec.ofInt 32 x).toNat = IntKind.wrap .i32 x := by
  rw [wi32, wi32, BitVec.toNat_ofInt]
  have e : (((x % ((2 ^ 32 : Nat) : Int)).toNat : Nat) : Int) % 4294967296 = x % 4294967296 := by omega
  rw [e]
theorem bxor_zero {x : Int} (l : -2147483648 ≤ x) (u : x ≤ 2147483647) : bxor .i32 x 0 = x := by
  show IntKind.wrap .i32 (BitVec.ofInt 32 x ^^^ BitVec.ofInt 32 0).toNat = _
  rw [show BitVec.ofInt 32 0 = 0#32 from by decide, BitVec.xor_zero, wrap_bv32, wr32 l u]
theorem bxor_neg1 {x : Int} (l : -2147483648 ≤ x) (u : x ≤ 2147483647) : bxor .i32 x (-1) = -x - 1 := by
  show IntKind.wrap .i32 (BitVec.ofInt 32 x ^^^ BitVec.ofInt 32 (-1)).toNat = _
  rw [show BitVec.ofInt 32 (-1) = BitVec.allOnes 32 from by decide, BitVec.xor_allOnes, BitVec.toNat_not, BitVec.toNat_ofInt, wi32]
  have : (((x % ((2 ^ 32 : Nat) : Int)).toNat : Nat) : Int) = x % 4294967296 := by omega
  omega
theorem flip_sg {v : Int} (y : Int) (l : -2147483647 ≤ v) (u : v ≤ 2147483647) : bxor .i32 v (dd y) - dd y = sg y * v := by
  unfold dd sg
  split
  · rw [bxor_neg1 (by omega) (by omega)]; omega
  · rw [bxor_zero (by omega) (by omega)]; omega
theorem wrap_sg {v : Int} (y : Int) (l : -2147483647 ≤ v) (u : v ≤ 2147483647) : IntKind.wrap .i32 (sg y * v) = sg y * v := by
  have : -2147483647 ≤ sg y * v ∧ sg y * v ≤ 2147483647 := by unfold sg; split <;> omega
  exact wr32 (by omega) (by omega)
theorem div_small {v B : Int} (k : Nat) (l : -B ≤ v) (u : v ≤ B) : -B ≤ v / 2 ^ k ∧ v / 2 ^ k ≤ B := by
  have hp : (0 : Int) < 2 ^ k := Int.pow_pos (by decide)
  have h1 : v / 2 ^ k ≤ B := by
    rcases Int.le_total 0 v with h | h
    · have := Int.ediv_le_self (2 ^ k) h; omega
    · have : v / 2 ^ k ≤ 0 := by
        rcases Int.lt_or_le v 0 with h0 | h0
        · exact Int.le_of_lt (Int.ediv_neg_of_neg_of_pos h0 hp)
        · obtain rfl : v = 0 := by omega
          simp
      omega
  refine ⟨?_, h1⟩
  refine Int.le_ediv_of_mul_le hp ?_
  have hB : 0 ≤ B := by omega
  have : B * 1 ≤ B * 2 ^ k := Int.mul_le_mul_of_nonneg_left (by omega) hB
  rw [Int.neg_mul]; omega

/-! ### turning to 0 -/
structure VOk (x0 y0 : Int) : Prop where
  h1 : 268435456 ≤ x0
  h2 : x0 < 536870912
  h3 : 0 ≤ y0
  h4 : y0 ≤ x0
def vX (x0 y0 : Int) (k : Nat) : Int := (vst x0 y0 k).1
def vY (x0 y0 : Int) (k : Nat) : Int := (vst x0 y0 k).2.1
def vA (x0 y0 : Int) (k : Nat) : Int := (vst x0 y0 k).2.2
section
variable {x0 y0 : Int} (H : VOk x0 y0)
include H
theorem vB (k : Nat) (hk : k ≤ 28) : -1250998262 ≤ vX x0 y0 k ∧ vX x0 y0 k ≤ 1250998262 ∧ -1250998262 ≤ vY x0 y0 k ∧ vY x0 y0 k ≤ 1250998262 := vec_bd H.1 H.2 H.3 H.4 k hk
theorem vD (k : Nat) (hk : k ≤ 28) : shrZ .i32 (vY x0 y0 k) 31 = dd (vY x0 y0 k) := shr_dd (by have := vB H k hk; omega) (by have := vB H k hk; omega)
theorem vSX (k : Nat) (hk : k ≤ 28) {n : Int} (hn : n = (k : Int)) : shrZ .i32 (vX x0 y0 k) n = vX x0 y0 k / 2 ^ k := shr_div hn (by omega)
theorem vSY (k : Nat) (hk : k ≤ 28) {n : Int} (hn : n = (k : Int)) : shrZ .i32 (vY x0 y0 k) n = vY x0 y0 k / 2 ^ k := shr_div hn (by omega)
theorem vFX (k : Nat) (hk : k ≤ 28) : bxor .i32 (vX x0 y0 k / 2 ^ k) (dd (vY x0 y0 k)) - dd (vY x0 y0 k) = sg (vY x0 y0 k) * (vX x0 y0 k / 2 ^ k) := by
  have h := vB H k hk
  have := div_small k (B := 1250998262) (by omega) h.2.1
  exact flip_sg _ (by omega) (by omega)
theorem vFY (k : Nat) (hk : k ≤ 28) : bxor .i32 (vY x0 y0 k / 2 ^ k) (dd (vY x0 y0 k)) - dd (vY x0 y0 k) = sg (vY x0 y0 k) * (vY x0 y0 k / 2 ^ k) := by
  have h := vB H k hk
  have := div_small k (B := 1250998262) (by omega) h.2.2.2
  exact flip_sg _ (by omega) (by omega)
theorem vWX (k : Nat) (hk : k ≤ 28) : IntKind.wrap .i32 (sg (vY x0 y0 k) * (vX x0 y0 k / 2 ^ k)) = sg (vY x0 y0 k) * (vX x0 y0 k / 2 ^ k) := by
  have h := vB H k hk
  have := div_small k (B := 1250998262) (by omega) h.2.1
  exact wrap_sg _ (by omega) (by omega)
theorem vWY (k : Nat) (hk : k ≤ 28) : IntKind.wrap .i32 (sg (vY x0 y0 k) * (vY x0 y0 k / 2 ^ k)) = sg (vY x0 y0 k) * (vY x0 y0 k / 2 ^ k) := by
  have h := vB H k hk
  have := div_small k (B := 1250998262) (by omega) h.2.2.2
  exact wrap_sg _ (by omega) (by omega)
theorem vNX (k : Nat) (hk : k + 1 ≤ 28) : IntKind.wrap .i32 (vX x0 y0 k + sg (vY x0 y0 k) * (vY x0 y0 k / 2 ^ k)) = vX x0 y0 (k + 1) := by
  have h := vB H (k + 1) hk
  exact wr32 (x := vX x0 y0 (k + 1)) (by omega) (by omega)
theorem vNY (k : Nat) (hk : k + 1 ≤ 28) : IntKind.wrap .i32 (vY x0 y0 k - sg (vY x0 y0 k) * (vX x0 y0 k / 2 ^ k)) = vY x0 y0 (k + 1) := by
  have h := vB H (k + 1) hk
  exact wr32 (x := vY x0 y0 (k + 1)) (by omega) (by omega)
theorem vNA (k : Nat) (hk : k + 1 ≤ 28) {t : Int} (ht : t = Tr.T k) : IntKind.wrap .i32 (vA x0 y0 k + sg (vY x0 y0 k) * t) = vA x0 y0 (k + 1) := by
  subst ht
  have h := vec_a H.1 H.2 H.3 H.4 (k + 1) hk
  exact wr32 (x := vA x0 y0 (k + 1)) (by unfold vA; omega) (by unfold vA; omega)
end

theorem vA1 {x0 y0 : Int} : sg (vY x0 y0 0) * 421657428 = vA x0 y0 1 := by
  show _ = 0 + sg y0 * Tr.T 0
  rw [Int.zero_add]; rfl
/-! ### turning back -/
def wX (b0 : Int) (k : Nat) : Int := (wst b0 k).1
def wY (b0 : Int) (k : Nat) : Int := (wst b0 k).2.1
def wB (b0 : Int) (k : Nat) : Int := (wst b0 k).2.2
structure WOk (b0 : Int) : Prop where
  h1 : -843314857 ≤ b0
  h2 : b0 ≤ 843314857
section
variable {b0 : Int} (H : WOk b0)
include H
theorem wBd (k : Nat) (hk : k ≤ 28) : -1073741867 ≤ wX b0 k ∧ wX b0 k ≤ 1073741867 ∧ -1073741867 ≤ wY b0 k ∧ wY b0 k ≤ 1073741867 := wst_bd b0 k hk
theorem wBb (k : Nat) (hk : k ≤ 28) : -935919877 ≤ wB b0 k ∧ wB b0 k ≤ 935919877 := by
  have h := wst_b H.1 H.2 k hk
  have : 0 ≤ Ts k := by
    have : ∀ j, 0 ≤ Ts j := fun j => by
      induction j with
      | zero => exact Int.le_refl 0
      | succ j ih => have := T_nn j; simp only [Ts]; omega
    exact this k
  unfold wB; omega
theorem wD (k : Nat) (hk : k ≤ 28) : shrZ .i32 (wB b0 k) 31 = dd (wB b0 k) := shr_dd (by have := wBb H k hk; omega) (by have := wBb H k hk; omega)
theorem wSX (k : Nat) (hk : k ≤ 28) {n : Int} (hn : n = (k : Int)) : shrZ .i32 (wX b0 k) n = wX b0 k / 2 ^ k := shr_div hn (by omega)
theorem wSY (k : Nat) (hk : k ≤ 28) {n : Int} (hn : n = (k : Int)) : shrZ .i32 (wY b0 k) n = wY b0 k / 2 ^ k := shr_div hn (by omega)
theorem wFX (k : Nat) (hk : k ≤ 28) : bxor .i32 (wX b0 k / 2 ^ k) (dd (wB b0 k)) - dd (wB b0 k) = sg (wB b0 k) * (wX b0 k / 2 ^ k) := by
  have h := wBd H k hk
  have := div_small k (B := 1073741867) (by omega) h.2.1
  exact flip_sg _ (by omega) (by omega)
theorem wFY (k : Nat) (hk : k ≤ 28) : bxor .i32 (wY b0 k / 2 ^ k) (dd (wB b0 k)) - dd (wB b0 k) = sg (wB b0 k) * (wY b0 k / 2 ^ k) := by
  have h := wBd H k hk
  have := div_small k (B := 1073741867) (by omega) h.2.2.2
  exact flip_sg _ (by omega) (by omega)
theorem wWX (k : Nat) (hk : k ≤ 28) : IntKind.wrap .i32 (sg (wB b0 k) * (wX b0 k / 2 ^ k)) = sg (wB b0 k) * (wX b0 k / 2 ^ k) := by
  have h := wBd H k hk
  have := div_small k (B := 1073741867) (by omega) h.2.1
  exact wrap_sg _ (by omega) (by omega)
theorem wWY (k : Nat) (hk : k ≤ 28) : IntKind.wrap .i32 (sg (wB b0 k) * (wY b0 k / 2 ^ k)) = sg (wB b0 k) * (wY b0 k / 2 ^ k) := by
  have h := wBd H k hk
  have := div_small k (B := 1073741867) (by omega) h.2.2.2
  exact wrap_sg _ (by omega) (by omega)
theorem wNX (k : Nat) (hk : k + 1 ≤ 28) : IntKind.wrap .i32 (wX b0 k - sg (wB b0 k) * (wY b0 k / 2 ^ k)) = wX b0 (k + 1) := by
  have h := wBd H (k + 1) hk
  exact wr32 (x := wX b0 (k + 1)) (by omega) (by omega)
theorem wNY (k : Nat) (hk : k + 1 ≤ 28) : IntKind.wrap .i32 (wY b0 k + sg (wB b0 k) * (wX b0 k / 2 ^ k)) = wY b0 (k + 1) := by
  have h := wBd H (k + 1) hk
  exact wr32 (x := wY b0 (k + 1)) (by omega) (by omega)
theorem wNB (k : Nat) (hk : k + 1 ≤ 28) {t : Int} (ht : t = Tr.T k) : IntKind.wrap .i32 (wB b0 k - sg (wB b0 k) * t) = wB b0 (k + 1) := by
  subst ht
  have h := wBb H (k + 1) hk
  exact wr32 (x := wB b0 (k + 1)) (by omega) (by omega)
end
theorem wX0 {b0 : Int} : wX b0 0 = 652032874 := rfl
theorem wY0 {b0 : Int} : wY b0 0 / 2 ^ 0 = 0 := rfl
theorem wX0d {b0 : Int} : wX b0 0 / 2 ^ 0 = 652032874 := by rw [wX0]; decide
theorem wY1 {b0 : Int} : sg (wB b0 0) * (wX b0 0 / 2 ^ 0) = wY b0 1 := by
  show _ = 0 + sg b0 * (652032874 / 2 ^ 0)
  rw [Int.zero_add]; rfl
end Go.Eng
end

/-! The tree of an angle, in whole numbers. Printed by program. -/
section
set_option linter.unusedVariables false
set_option maxRecDepth 100000
namespace Go.Eng
open Go.Tr

/-- the greater amount's level: 2 to this power makes it as great as may be -/
def lvl (g : Int) : Nat := (31 - blen g).toNat
def gZ (y x : Int) : Int := if amt x < amt y then amt y else amt x
def lZ (y x : Int) : Int := if amt x < amt y then amt x else amt y
def x0Z (y x : Int) : Int := gZ y x * 2 ^ lvl (gZ y x) / 4
def y0Z (y x : Int) : Int := lZ y x * 2 ^ lvl (gZ y x) / 4
/-- an angle -/
def angZ (y x : Int) : Int := fold (vst (x0Z y x) (y0Z y x) 28).2.2 (amt x) (amt y) x y

theorem amt_abs {x : Int} (l : -2147483647 ≤ x) (u : x ≤ 2147483647) : maxZ x (minZ (0 - x) 2147483647) = amt x := by
  unfold maxZ minZ amt; split <;> split <;> (try split) <;> omega
theorem amt_bd {x : Int} (l : -2147483647 ≤ x) (u : x ≤ 2147483647) : 0 ≤ amt x ∧ amt x ≤ 2147483647 := by
  unfold amt; split <;> omega
theorem blen_of' {g : Int} (h0 : 1 ≤ g) (h1 : g ≤ 2147483647) : ∃ k : Nat, k ≤ 30 ∧ 2 ^ k ≤ g ∧ g < 2 ^ (k + 1) ∧ blen g = (k : Int) + 1 := by
  obtain ⟨k, hk, a, b, c⟩ := blen_cases (x := g) (by omega) (by omega)
  refine ⟨k, ?_, a, b, c⟩
  rcases Nat.lt_or_ge 30 k with h | h
  · have : (2 : Int) ^ 31 ≤ 2 ^ k := by exact_mod_cast Nat.pow_le_pow_right (by omega) (show 31 ≤ k by omega)
    have h3 : (2 : Int) ^ 31 = 2147483648 := by decide
    omega
  · exact h
/-- the level: between 2^30 and 2^31 -/
theorem lvl_bd {g : Int} (h0 : 1 ≤ g) (h1 : g ≤ 2147483647) : lvl g ≤ 30 ∧ 1073741824 ≤ g * 2 ^ lvl g ∧ g * 2 ^ lvl g < 2147483648 ∧ ((lvl g : Nat) : Int) = 31 - blen g := by
  obtain ⟨k, hk, a, b, c⟩ := blen_of' h0 h1
  have e : lvl g = 30 - k := by unfold lvl; rw [c]; omega
  rw [e]
  have p : (2 : Int) ^ k * 2 ^ (30 - k) = 1073741824 := by
    rw [← Int.pow_add, show k + (30 - k) = 30 by omega]; decide
  have p2 : (2 : Int) ^ (k + 1) = 2 ^ k * 2 := Int.pow_succ 2 k
  have q : (0 : Int) < 2 ^ (30 - k) := Int.pow_pos (by decide)
  have m1 : 2 ^ k * 2 ^ (30 - k) ≤ g * 2 ^ (30 - k) := Int.mul_le_mul_of_nonneg_right a (Int.le_of_lt q)
  have m2 : g * 2 ^ (30 - k) < 2 ^ (k + 1) * 2 ^ (30 - k) := Int.mul_lt_mul_of_pos_right b q
  have m3 : (2 : Int) ^ (k + 1) * 2 ^ (30 - k) = 2147483648 := by rw [p2, Int.mul_comm (2 ^ k) 2, Int.mul_assoc, p]; decide
  refine ⟨by omega, by omega, by omega, by rw [c]; omega⟩
/-- a number shifted by the level -/
theorem shl_lvl {g v : Int} (h0 : 1 ≤ g) (h1 : g ≤ 2147483647) (v0 : 0 ≤ v) (v1 : v ≤ g) :
    IntKind.wrap .i32 (shlZ .u32 (IntKind.wrap .u32 v) (band .i32 ((32 - blen (IntKind.wrap .u32 g)) - 1) 31)) = v * 2 ^ lvl g ∧ shrZ .u32 (IntKind.wrap .u32 (v * 2 ^ lvl g)) 2 = v * 2 ^ lvl g / 4 := by
  obtain ⟨b1, b2, b3, b4⟩ := lvl_bd h0 h1
  have w1 : IntKind.wrap .u32 g = g := by rw [wu32]; omega
  have w2 : IntKind.wrap .u32 v = v := by rw [wu32]; omega
  have q : (0 : Int) < 2 ^ lvl g := Int.pow_pos (by decide)
  have m1 : v * 2 ^ lvl g ≤ g * 2 ^ lvl g := Int.mul_le_mul_of_nonneg_right v1 (Int.le_of_lt q)
  have m0 : 0 ≤ v * 2 ^ lvl g := Int.mul_nonneg v0 (Int.le_of_lt q)
  have e : (32 - blen g) - 1 = ((lvl g : Nat) : Int) := by omega
  have hs : shlZ .u32 v ((lvl g : Nat) : Int) = IntKind.wrap .u32 (v * 2 ^ lvl g) := by
    show IntKind.wrap .u32 (v * 2 ^ (Nat.min ((lvl g : Nat) : Int).toNat 32)) = _
    have : Nat.min ((lvl g : Nat) : Int).toNat 32 = lvl g := by rw [Int.toNat_natCast]; exact Nat.min_eq_left (by omega)
    rw [this]
  have w3 : IntKind.wrap .u32 (v * 2 ^ lvl g) = v * 2 ^ lvl g := by rw [wu32]; omega
  refine ⟨?_, ?_⟩
  · rw [w1, w2, band31_mod (by omega) (by omega), e, show ((lvl g : Nat) : Int) % 32 = ((lvl g : Nat) : Int) by omega, hs, w3]
    exact wr32 (by omega) (by omega)
  · rw [w3]
    show (v * 2 ^ lvl g).fdiv (2 ^ (Nat.min (2 : Int).toNat 32)) = _
    rw [show (2 : Int) ^ (Nat.min (2 : Int).toNat 32) = 4 by decide, Int.fdiv_eq_ediv_of_nonneg _ (by omega)]
theorem gl_bd {y x : Int} (l0 : -2147483647 ≤ y) (u0 : y ≤ 2147483647) (l1 : -2147483647 ≤ x) (u1 : x ≤ 2147483647) (hz : y ≠ 0 ∨ x ≠ 0) : 1 ≤ gZ y x ∧ gZ y x ≤ 2147483647 ∧ 0 ≤ lZ y x ∧ lZ y x ≤ gZ y x := by
  unfold gZ lZ amt
  repeat' split
  all_goals omega
theorem z_ok {y x : Int} (l0 : -2147483647 ≤ y) (u0 : y ≤ 2147483647) (l1 : -2147483647 ≤ x) (u1 : x ≤ 2147483647) (hz : y ≠ 0 ∨ x ≠ 0) : VOk (x0Z y x) (y0Z y x) := by
  obtain ⟨g1, g2, g3, g4⟩ := gl_bd l0 u0 l1 u1 hz
  obtain ⟨b1, b2, b3, _⟩ := lvl_bd g1 g2
  have q : (0 : Int) < 2 ^ lvl (gZ y x) := Int.pow_pos (by decide)
  have m1 : lZ y x * 2 ^ lvl (gZ y x) ≤ gZ y x * 2 ^ lvl (gZ y x) := Int.mul_le_mul_of_nonneg_right g4 (Int.le_of_lt q)
  have m0 : 0 ≤ lZ y x * 2 ^ lvl (gZ y x) := Int.mul_nonneg g3 (Int.le_of_lt q)
  unfold x0Z y0Z
  exact ⟨by omega, by omega, by omega, by omega⟩
theorem bool_mask (p : Prop) [Decidable p] : (0 : Int) - iteZ (bool01 (decide p)) 1 0 = if p then -1 else 0 := by
  by_cases h : p <;> simp [h, bool01, iteZ]
theorem sel_mask {p : Prop} [Decidable p] {x y : Int} (lx : -2147483648 ≤ x) (ux : x ≤ 2147483647) (ly : -2147483648 ≤ y) (uy : y ≤ 2147483647) :
    bor .i32 (band .i32 (IntKind.wrap .i32 x) (if p then -1 else 0)) (bandn .i32 y (if p then -1 else 0)) = if p then x else y := by
  have wx := wr32 lx ux
  have wy := wr32 ly uy
  have o0 : ∀ v : Int, bor .i32 v 0 = IntKind.wrap .i32 v := fun v => by
    show IntKind.wrap .i32 (BitVec.ofInt 32 v ||| BitVec.ofInt 32 0).toNat = _
    rw [show BitVec.ofInt 32 0 = 0#32 from by decide, BitVec.or_zero, wrap_bv32]
  have o1 : ∀ v : Int, bor .i32 0 v = IntKind.wrap .i32 v := fun v => by
    show IntKind.wrap .i32 (BitVec.ofInt 32 0 ||| BitVec.ofInt 32 v).toNat = _
    rw [show BitVec.ofInt 32 0 = 0#32 from by decide, BitVec.zero_or, wrap_bv32]
  have n1 : ∀ v : Int, band .i32 v (-1) = IntKind.wrap .i32 v := fun v => by
    show IntKind.wrap .i32 (BitVec.ofInt 32 v &&& BitVec.ofInt 32 (-1)).toNat = _
    rw [show BitVec.ofInt 32 (-1) = BitVec.allOnes 32 from by decide, BitVec.and_allOnes, wrap_bv32]
  have n0 : ∀ v : Int, band .i32 v 0 = 0 := fun v => by
    show IntKind.wrap .i32 (BitVec.ofInt 32 v &&& BitVec.ofInt 32 0).toNat = _
    rw [show BitVec.ofInt 32 0 = 0#32 from by decide, BitVec.and_zero]; decide
  have a1 : ∀ v : Int, bandn .i32 v (-1) = 0 := fun v => by
    show IntKind.wrap .i32 (BitVec.ofInt 32 v &&& ~~~(BitVec.ofInt 32 (-1))).toNat = _
    rw [show ~~~(BitVec.ofInt 32 (-1)) = 0#32 from by decide, BitVec.and_zero]; decide
  have a0 : ∀ v : Int, bandn .i32 v 0 = IntKind.wrap .i32 v := fun v => by
    show IntKind.wrap .i32 (BitVec.ofInt 32 v &&& ~~~(BitVec.ofInt 32 0)).toNat = _
    rw [show ~~~(BitVec.ofInt 32 0) = BitVec.allOnes 32 from by decide, BitVec.and_allOnes, wrap_bv32]
  by_cases h : p
  · simp only [if_pos h, n1, a1, o0, wx]
  · simp only [if_neg h, n0, a0, o1, wy]
theorem dd_if (y : Int) : dd y = if y < 0 then -1 else 0 := rfl
theorem flip_if {p : Prop} [Decidable p] {v : Int} (l : -2147483647 ≤ v) (u : v ≤ 2147483647) : IntKind.wrap .i32 ((bxor .i32 v (if p then -1 else 0)) - (if p then -1 else 0)) = if p then -v else v := by
  by_cases h : p
  · simp only [if_pos h]; rw [bxor_neg1 (by omega) (by omega), wr32 (by omega) (by omega)]; omega
  · simp only [if_neg h]; rw [bxor_zero (by omega) (by omega), wr32 (by omega) (by omega)]; omega

def PA (R : List Int → Prop) (a0 a1 : Int) : Prop :=
 ∀ y1000 : Int, y1000 = (maxZ a1 (minZ (0 - a1) 2147483647)) → (-2147483647 ≤ y1000 ∧ y1000 ≤ 2147483647) →
 ∀ y1001 : Int, y1001 = (maxZ a0 (minZ (0 - a0) 2147483647)) → (-2147483647 ≤ y1001 ∧ y1001 ≤ 2147483647) →
 ∀ y1002 : Int, y1002 = ((32 - (blen (IntKind.wrap .u32 (maxZ y1000 y1001)))) - 1) → (-1 ≤ y1002 ∧ y1002 ≤ 31) →
 ∀ y1003 : Int, y1003 = (IntKind.wrap .i32 (shlZ .u32 (IntKind.wrap .u32 (maxZ y1000 y1001)) (band .i32 y1002 31))) → (-2147483648 ≤ y1003 ∧ y1003 ≤ 2147483647) →
 ∀ y1004 : Int, y1004 = (IntKind.wrap .i32 (shlZ .u32 (IntKind.wrap .u32 (minZ y1000 y1001)) (band .i32 y1002 31))) → (-2147483648 ≤ y1004 ∧ y1004 ≤ 2147483647) →
 ∀ y1005 : Int, y1005 = (shrZ .i32 (shrZ .u32 (IntKind.wrap .u32 y1004) 2) 31) → (0 ≤ y1005 ∧ y1005 ≤ 0) →
 ∀ y1006 : Int, y1006 = (shrZ .i32 (shrZ .u32 (IntKind.wrap .u32 y1004) 2) 0) → (0 ≤ y1006 ∧ y1006 ≤ 1073741823) →
 ∀ y1007 : Int, y1007 = (IntKind.wrap .i32 ((shrZ .u32 (IntKind.wrap .u32 y1003) 2) + ((bxor .i32 y1006 y1005) - y1005))) → (-2147483648 ≤ y1007 ∧ y1007 ≤ 2147483647) →
 ∀ y1008 : Int, y1008 = (shrZ .i32 (shrZ .u32 (IntKind.wrap .u32 y1003) 2) 0) → (0 ≤ y1008 ∧ y1008 ≤ 1073741823) →
 ∀ y1009 : Int, y1009 = (IntKind.wrap .i32 ((shrZ .u32 (IntKind.wrap .u32 y1004) 2) - ((bxor .i32 y1008 y1005) - y1005))) → (-2147483648 ≤ y1009 ∧ y1009 ≤ 2147483647) →
 ∀ y1010 : Int, y1010 = (IntKind.wrap .i32 ((bxor .i32 (shrZ .i32 y1009 1) (shrZ .i32 y1009 31)) - (shrZ .i32 y1009 31))) → (-2147483648 ≤ y1010 ∧ y1010 ≤ 2147483647) →
 ∀ y1011 : Int, y1011 = (IntKind.wrap .i32 ((bxor .i32 (shrZ .i32 y1007 1) (shrZ .i32 y1009 31)) - (shrZ .i32 y1009 31))) → (-2147483648 ≤ y1011 ∧ y1011 ≤ 2147483647) →
 ∀ y1012 : Int, y1012 = (IntKind.wrap .i32 ((bxor .i32 248918915 (shrZ .i32 y1009 31)) - (shrZ .i32 y1009 31))) → (-2147483648 ≤ y1012 ∧ y1012 ≤ 2147483647) →
 ∀ y1013 : Int, y1013 = (IntKind.wrap .i32 (((bxor .i32 421657428 y1005) - y1005) + y1012)) → (-2147483648 ≤ y1013 ∧ y1013 ≤ 2147483647) →
 ∀ y1014 : Int, y1014 = (shrZ .i32 (IntKind.wrap .i32 (y1009 - y1011)) 31) → (-1 ≤ y1014 ∧ y1014 ≤ 0) →
 ∀ y1015 : Int, y1015 = (shrZ .i32 (IntKind.wrap .i32 (y1009 - y1011)) 2) → (-536870912 ≤ y1015 ∧ y1015 ≤ 536870911) →
 ∀ y1016 : Int, y1016 = (IntKind.wrap .i32 ((bxor .i32 y1015 y1014) - y1014)) → (-2147483648 ≤ y1016 ∧ y1016 ≤ 2147483647) →
 ∀ y1017 : Int, y1017 = (IntKind.wrap .i32 ((IntKind.wrap .i32 (y1007 + y1010)) + y1016)) → (-2147483648 ≤ y1017 ∧ y1017 ≤ 2147483647) →
 ∀ y1018 : Int, y1018 = (shrZ .i32 (IntKind.wrap .i32 (y1007 + y1010)) 2) → (-536870912 ≤ y1018 ∧ y1018 ≤ 536870911) →
 ∀ y1019 : Int, y1019 = (IntKind.wrap .i32 ((bxor .i32 y1018 y1014) - y1014)) → (-2147483648 ≤ y1019 ∧ y1019 ≤ 2147483647) →
 ∀ y1020 : Int, y1020 = (IntKind.wrap .i32 ((IntKind.wrap .i32 (y1009 - y1011)) - y1019)) → (-2147483648 ≤ y1020 ∧ y1020 ≤ 2147483647) →
 ∀ y1021 : Int, y1021 = (IntKind.wrap .i32 ((bxor .i32 131521918 y1014) - y1014)) → (-2147483648 ≤ y1021 ∧ y1021 ≤ 2147483647) →
 ∀ y1022 : Int, y1022 = (IntKind.wrap .i32 ((bxor .i32 (shrZ .i32 y1020 3) (shrZ .i32 y1020 31)) - (shrZ .i32 y1020 31))) → (-2147483648 ≤ y1022 ∧ y1022 ≤ 2147483647) →
 ∀ y1023 : Int, y1023 = (IntKind.wrap .i32 ((bxor .i32 (shrZ .i32 y1017 3) (shrZ .i32 y1020 31)) - (shrZ .i32 y1020 31))) → (-2147483648 ≤ y1023 ∧ y1023 ≤ 2147483647) →
 ∀ y1024 : Int, y1024 = (IntKind.wrap .i32 ((bxor .i32 66762579 (shrZ .i32 y1020 31)) - (shrZ .i32 y1020 31))) → (-2147483648 ≤ y1024 ∧ y1024 ≤ 2147483647) →
 ∀ y1025 : Int, y1025 = (IntKind.wrap .i32 ((IntKind.wrap .i32 (y1013 + y1021)) + y1024)) → (-2147483648 ≤ y1025 ∧ y1025 ≤ 2147483647) →
 ∀ y1026 : Int, y1026 = (shrZ .i32 (IntKind.wrap .i32 (y1020 - y1023)) 31) → (-1 ≤ y1026 ∧ y1026 ≤ 0) →
 ∀ y1027 : Int, y1027 = (shrZ .i32 (IntKind.wrap .i32 (y1020 - y1023)) 4) → (-134217728 ≤ y1027 ∧ y1027 ≤ 134217727) →
 ∀ y1028 : Int, y1028 = (IntKind.wrap .i32 ((bxor .i32 y1027 y1026) - y1026)) → (-2147483648 ≤ y1028 ∧ y1028 ≤ 2147483647) →
 ∀ y1029 : Int, y1029 = (IntKind.wrap .i32 ((IntKind.wrap .i32 (y1017 + y1022)) + y1028)) → (-2147483648 ≤ y1029 ∧ y1029 ≤ 2147483647) →
 ∀ y1030 : Int, y1030 = (shrZ .i32 (IntKind.wrap .i32 (y1017 + y1022)) 4) → (-134217728 ≤ y1030 ∧ y1030 ≤ 134217727) →
 ∀ y1031 : Int, y1031 = (IntKind.wrap .i32 ((bxor .i32 y1030 y1026) - y1026)) → (-2147483648 ≤ y1031 ∧ y1031 ≤ 2147483647) →
 ∀ y1032 : Int, y1032 = (IntKind.wrap .i32 ((IntKind.wrap .i32 (y1020 - y1023)) - y1031)) → (-2147483648 ≤ y1032 ∧ y1032 ≤ 2147483647) →
 ∀ y1033 : Int, y1033 = (IntKind.wrap .i32 ((bxor .i32 33510843 y1026) - y1026)) → (-2147483648 ≤ y1033 ∧ y1033 ≤ 2147483647) →
 ∀ y1034 : Int, y1034 = (IntKind.wrap .i32 ((bxor .i32 (shrZ .i32 y1032 5) (shrZ .i32 y1032 31)) - (shrZ .i32 y1032 31))) → (-2147483648 ≤ y1034 ∧ y1034 ≤ 2147483647) →
 ∀ y1035 : Int, y1035 = (IntKind.wrap .i32 ((bxor .i32 (shrZ .i32 y1029 5) (shrZ .i32 y1032 31)) - (shrZ .i32 y1032 31))) → (-2147483648 ≤ y1035 ∧ y1035 ≤ 2147483647) →
 ∀ y1036 : Int, y1036 = (IntKind.wrap .i32 ((bxor .i32 16771758 (shrZ .i32 y1032 31)) - (shrZ .i32 y1032 31))) → (-2147483648 ≤ y1036 ∧ y1036 ≤ 2147483647) →
 ∀ y1037 : Int, y1037 = (IntKind.wrap .i32 ((IntKind.wrap .i32 (y1025 + y1033)) + y1036)) → (-2147483648 ≤ y1037 ∧ y1037 ≤ 2147483647) →
 ∀ y1038 : Int, y1038 = (shrZ .i32 (IntKind.wrap .i32 (y1032 - y1035)) 31) → (-1 ≤ y1038 ∧ y1038 ≤ 0) →
 ∀ y1039 : Int, y1039 = (shrZ .i32 (IntKind.wrap .i32 (y1032 - y1035)) 6) → (-33554432 ≤ y1039 ∧ y1039 ≤ 33554431) →
 ∀ y1040 : Int, y1040 = (IntKind.wrap .i32 ((bxor .i32 y1039 y1038) - y1038)) → (-2147483648 ≤ y1040 ∧ y1040 ≤ 2147483647) →
 ∀ y1041 : Int, y1041 = (IntKind.wrap .i32 ((IntKind.wrap .i32 (y1029 + y1034)) + y1040)) → (-2147483648 ≤ y1041 ∧ y1041 ≤ 2147483647) →
 ∀ y1042 : Int, y1042 = (shrZ .i32 (IntKind.wrap .i32 (y1029 + y1034)) 6) → (-33554432 ≤ y1042 ∧ y1042 ≤ 33554431) →
 ∀ y1043 : Int, y1043 = (IntKind.wrap .i32 ((bxor .i32 y1042 y1038) - y1038)) → (-2147483648 ≤ y1043 ∧ y1043 ≤ 2147483647) →
 ∀ y1044 : Int, y1044 = (IntKind.wrap .i32 ((IntKind.wrap .i32 (y1032 - y1035)) - y1043)) → (-2147483648 ≤ y1044 ∧ y1044 ≤ 2147483647) →
 ∀ y1045 : Int, y1045 = (IntKind.wrap .i32 ((bxor .i32 8387925 y1038) - y1038)) → (-2147483648 ≤ y1045 ∧ y1045 ≤ 2147483647) →
 ∀ y1046 : Int, y1046 = (IntKind.wrap .i32 ((bxor .i32 (shrZ .i32 y1044 7) (shrZ .i32 y1044 31)) - (shrZ .i32 y1044 31))) → (-2147483648 ≤ y1046 ∧ y1046 ≤ 2147483647) →
 ∀ y1047 : Int, y1047 = (IntKind.wrap .i32 ((bxor .i32 (shrZ .i32 y1041 7) (shrZ .i32 y1044 31)) - (shrZ .i32 y1044 31))) → (-2147483648 ≤ y1047 ∧ y1047 ≤ 2147483647) →
 ∀ y1048 : Int, y1048 = (IntKind.wrap .i32 ((bxor .i32 4194219 (shrZ .i32 y1044 31)) - (shrZ .i32 y1044 31))) → (-2147483648 ≤ y1048 ∧ y1048 ≤ 2147483647) →
 ∀ y1049 : Int, y1049 = (IntKind.wrap .i32 ((IntKind.wrap .i32 (y1037 + y1045)) + y1048)) → (-2147483648 ≤ y1049 ∧ y1049 ≤ 2147483647) →
 ∀ y1050 : Int, y1050 = (shrZ .i32 (IntKind.wrap .i32 (y1044 - y1047)) 31) → (-1 ≤ y1050 ∧ y1050 ≤ 0) →
 ∀ y1051 : Int, y1051 = (shrZ .i32 (IntKind.wrap .i32 (y1044 - y1047)) 8) → (-8388608 ≤ y1051 ∧ y1051 ≤ 8388607) →
 ∀ y1052 : Int, y1052 = (IntKind.wrap .i32 ((bxor .i32 y1051 y1050) - y1050)) → (-2147483648 ≤ y1052 ∧ y1052 ≤ 2147483647) →
 ∀ y1053 : Int, y1053 = (IntKind.wrap .i32 ((IntKind.wrap .i32 (y1041 + y1046)) + y1052)) → (-2147483648 ≤ y1053 ∧ y1053 ≤ 2147483647) →
 ∀ y1054 : Int, y1054 = (shrZ .i32 (IntKind.wrap .i32 (y1041 + y1046)) 8) → (-8388608 ≤ y1054 ∧ y1054 ≤ 8388607) →
 ∀ y1055 : Int, y1055 = (IntKind.wrap .i32 ((bxor .i32 y1054 y1050) - y1050)) → (-2147483648 ≤ y1055 ∧ y1055 ≤ 2147483647) →
 ∀ y1056 : Int, y1056 = (IntKind.wrap .i32 ((IntKind.wrap .i32 (y1044 - y1047)) - y1055)) → (-2147483648 ≤ y1056 ∧ y1056 ≤ 2147483647) →
 ∀ y1057 : Int, y1057 = (IntKind.wrap .i32 ((bxor .i32 2097141 y1050) - y1050)) → (-2147483648 ≤ y1057 ∧ y1057 ≤ 2147483647) →
 ∀ y1058 : Int, y1058 = (IntKind.wrap .i32 ((bxor .i32 (shrZ .i32 y1056 9) (shrZ .i32 y1056 31)) - (shrZ .i32 y1056 31))) → (-2147483648 ≤ y1058 ∧ y1058 ≤ 2147483647) →
 ∀ y1059 : Int, y1059 = (IntKind.wrap .i32 ((bxor .i32 (shrZ .i32 y1053 9) (shrZ .i32 y1056 31)) - (shrZ .i32 y1056 31))) → (-2147483648 ≤ y1059 ∧ y1059 ≤ 2147483647) →
 ∀ y1060 : Int, y1060 = (IntKind.wrap .i32 ((bxor .i32 1048575 (shrZ .i32 y1056 31)) - (shrZ .i32 y1056 31))) → (-2147483648 ≤ y1060 ∧ y1060 ≤ 2147483647) →
 ∀ y1061 : Int, y1061 = (IntKind.wrap .i32 ((IntKind.wrap .i32 (y1049 + y1057)) + y1060)) → (-2147483648 ≤ y1061 ∧ y1061 ≤ 2147483647) →
 ∀ y1062 : Int, y1062 = (shrZ .i32 (IntKind.wrap .i32 (y1056 - y1059)) 31) → (-1 ≤ y1062 ∧ y1062 ≤ 0) →
 ∀ y1063 : Int, y1063 = (shrZ .i32 (IntKind.wrap .i32 (y1056 - y1059)) 10) → (-2097152 ≤ y1063 ∧ y1063 ≤ 2097151) →
 ∀ y1064 : Int, y1064 = (IntKind.wrap .i32 ((bxor .i32 y1063 y1062) - y1062)) → (-2147483648 ≤ y1064 ∧ y1064 ≤ 2147483647) →
 ∀ y1065 : Int, y1065 = (IntKind.wrap .i32 ((IntKind.wrap .i32 (y1053 + y1058)) + y1064)) → (-2147483648 ≤ y1065 ∧ y1065 ≤ 2147483647) →
 ∀ y1066 : Int, y1066 = (shrZ .i32 (IntKind.wrap .i32 (y1053 + y1058)) 10) → (-2097152 ≤ y1066 ∧ y1066 ≤ 2097151) →
 ∀ y1067 : Int, y1067 = (IntKind.wrap .i32 ((bxor .i32 y1066 y1062) - y1062)) → (-2147483648 ≤ y1067 ∧ y1067 ≤ 2147483647) →
 ∀ y1068 : Int, y1068 = (IntKind.wrap .i32 ((IntKind.wrap .i32 (y1056 - y1059)) - y1067)) → (-2147483648 ≤ y1068 ∧ y1068 ≤ 2147483647) →
 ∀ y1069 : Int, y1069 = (IntKind.wrap .i32 ((bxor .i32 524288 y1062) - y1062)) → (-2147483648 ≤ y1069 ∧ y1069 ≤ 2147483647) →
 ∀ y1070 : Int, y1070 = (IntKind.wrap .i32 ((bxor .i32 (shrZ .i32 y1068 11) (shrZ .i32 y1068 31)) - (shrZ .i32 y1068 31))) → (-2147483648 ≤ y1070 ∧ y1070 ≤ 2147483647) →
 ∀ y1071 : Int, y1071 = (IntKind.wrap .i32 ((bxor .i32 (shrZ .i32 y1065 11) (shrZ .i32 y1068 31)) - (shrZ .i32 y1068 31))) → (-2147483648 ≤ y1071 ∧ y1071 ≤ 2147483647) →
 ∀ y1072 : Int, y1072 = (IntKind.wrap .i32 ((bxor .i32 262144 (shrZ .i32 y1068 31)) - (shrZ .i32 y1068 31))) → (-2147483648 ≤ y1072 ∧ y1072 ≤ 2147483647) →
 ∀ y1073 : Int, y1073 = (IntKind.wrap .i32 ((IntKind.wrap .i32 (y1061 + y1069)) + y1072)) → (-2147483648 ≤ y1073 ∧ y1073 ≤ 2147483647) →
 ∀ y1074 : Int, y1074 = (shrZ .i32 (IntKind.wrap .i32 (y1068 - y1071)) 31) → (-1 ≤ y1074 ∧ y1074 ≤ 0) →
 ∀ y1075 : Int, y1075 = (shrZ .i32 (IntKind.wrap .i32 (y1068 - y1071)) 12) → (-524288 ≤ y1075 ∧ y1075 ≤ 524287) →
 ∀ y1076 : Int, y1076 = (IntKind.wrap .i32 ((bxor .i32 y1075 y1074) - y1074)) → (-2147483648 ≤ y1076 ∧ y1076 ≤ 2147483647) →
 ∀ y1077 : Int, y1077 = (IntKind.wrap .i32 ((IntKind.wrap .i32 (y1065 + y1070)) + y1076)) → (-2147483648 ≤ y1077 ∧ y1077 ≤ 2147483647) →
 ∀ y1078 : Int, y1078 = (shrZ .i32 (IntKind.wrap .i32 (y1065 + y1070)) 12) → (-524288 ≤ y1078 ∧ y1078 ≤ 524287) →
 ∀ y1079 : Int, y1079 = (IntKind.wrap .i32 ((bxor .i32 y1078 y1074) - y1074)) → (-2147483648 ≤ y1079 ∧ y1079 ≤ 2147483647) →
 ∀ y1080 : Int, y1080 = (IntKind.wrap .i32 ((IntKind.wrap .i32 (y1068 - y1071)) - y1079)) → (-2147483648 ≤ y1080 ∧ y1080 ≤ 2147483647) →
 ∀ y1081 : Int, y1081 = (IntKind.wrap .i32 ((bxor .i32 131072 y1074) - y1074)) → (-2147483648 ≤ y1081 ∧ y1081 ≤ 2147483647) →
 ∀ y1082 : Int, y1082 = (IntKind.wrap .i32 ((bxor .i32 (shrZ .i32 y1080 13) (shrZ .i32 y1080 31)) - (shrZ .i32 y1080 31))) → (-2147483648 ≤ y1082 ∧ y1082 ≤ 2147483647) →
 ∀ y1083 : Int, y1083 = (IntKind.wrap .i32 ((bxor .i32 (shrZ .i32 y1077 13) (shrZ .i32 y1080 31)) - (shrZ .i32 y1080 31))) → (-2147483648 ≤ y1083 ∧ y1083 ≤ 2147483647) →
 ∀ y1084 : Int, y1084 = (IntKind.wrap .i32 ((bxor .i32 65536 (shrZ .i32 y1080 31)) - (shrZ .i32 y1080 31))) → (-2147483648 ≤ y1084 ∧ y1084 ≤ 2147483647) →
 ∀ y1085 : Int, y1085 = (IntKind.wrap .i32 ((IntKind.wrap .i32 (y1073 + y1081)) + y1084)) → (-2147483648 ≤ y1085 ∧ y1085 ≤ 2147483647) →
 ∀ y1086 : Int, y1086 = (shrZ .i32 (IntKind.wrap .i32 (y1080 - y1083)) 31) → (-1 ≤ y1086 ∧ y1086 ≤ 0) →
 ∀ y1087 : Int, y1087 = (shrZ .i32 (IntKind.wrap .i32 (y1080 - y1083)) 14) → (-131072 ≤ y1087 ∧ y1087 ≤ 131071) →
 ∀ y1088 : Int, y1088 = (IntKind.wrap .i32 ((bxor .i32 y1087 y1086) - y1086)) → (-2147483648 ≤ y1088 ∧ y1088 ≤ 2147483647) →
 ∀ y1089 : Int, y1089 = (IntKind.wrap .i32 ((IntKind.wrap .i32 (y1077 + y1082)) + y1088)) → (-2147483648 ≤ y1089 ∧ y1089 ≤ 2147483647) →
 ∀ y1090 : Int, y1090 = (shrZ .i32 (IntKind.wrap .i32 (y1077 + y1082)) 14) → (-131072 ≤ y1090 ∧ y1090 ≤ 131071) →
 ∀ y1091 : Int, y1091 = (IntKind.wrap .i32 ((bxor .i32 y1090 y1086) - y1086)) → (-2147483648 ≤ y1091 ∧ y1091 ≤ 2147483647) →
 ∀ y1092 : Int, y1092 = (IntKind.wrap .i32 ((IntKind.wrap .i32 (y1080 - y1083)) - y1091)) → (-2147483648 ≤ y1092 ∧ y1092 ≤ 2147483647) →
 ∀ y1093 : Int, y1093 = (IntKind.wrap .i32 ((bxor .i32 32768 y1086) - y1086)) → (-2147483648 ≤ y1093 ∧ y1093 ≤ 2147483647) →
 ∀ y1094 : Int, y1094 = (IntKind.wrap .i32 ((bxor .i32 (shrZ .i32 y1092 15) (shrZ .i32 y1092 31)) - (shrZ .i32 y1092 31))) → (-2147483648 ≤ y1094 ∧ y1094 ≤ 2147483647) →
 ∀ y1095 : Int, y1095 = (IntKind.wrap .i32 ((bxor .i32 (shrZ .i32 y1089 15) (shrZ .i32 y1092 31)) - (shrZ .i32 y1092 31))) → (-2147483648 ≤ y1095 ∧ y1095 ≤ 2147483647) →
 ∀ y1096 : Int, y1096 = (IntKind.wrap .i32 ((bxor .i32 16384 (shrZ .i32 y1092 31)) - (shrZ .i32 y1092 31))) → (-2147483648 ≤ y1096 ∧ y1096 ≤ 2147483647) →
 ∀ y1097 : Int, y1097 = (IntKind.wrap .i32 ((IntKind.wrap .i32 (y1085 + y1093)) + y1096)) → (-2147483648 ≤ y1097 ∧ y1097 ≤ 2147483647) →
 ∀ y1098 : Int, y1098 = (shrZ .i32 (IntKind.wrap .i32 (y1092 - y1095)) 31) → (-1 ≤ y1098 ∧ y1098 ≤ 0) →
 ∀ y1099 : Int, y1099 = (shrZ .i32 (IntKind.wrap .i32 (y1092 - y1095)) 16) → (-32768 ≤ y1099 ∧ y1099 ≤ 32767) →
 ∀ y1100 : Int, y1100 = (IntKind.wrap .i32 ((bxor .i32 y1099 y1098) - y1098)) → (-2147483648 ≤ y1100 ∧ y1100 ≤ 2147483647) →
 ∀ y1101 : Int, y1101 = (IntKind.wrap .i32 ((IntKind.wrap .i32 (y1089 + y1094)) + y1100)) → (-2147483648 ≤ y1101 ∧ y1101 ≤ 2147483647) →
 ∀ y1102 : Int, y1102 = (shrZ .i32 (IntKind.wrap .i32 (y1089 + y1094)) 16) → (-32768 ≤ y1102 ∧ y1102 ≤ 32767) →
 ∀ y1103 : Int, y1103 = (IntKind.wrap .i32 ((bxor .i32 y1102 y1098) - y1098)) → (-2147483648 ≤ y1103 ∧ y1103 ≤ 2147483647) →
 ∀ y1104 : Int, y1104 = (IntKind.wrap .i32 ((IntKind.wrap .i32 (y1092 - y1095)) - y1103)) → (-2147483648 ≤ y1104 ∧ y1104 ≤ 2147483647) →
 ∀ y1105 : Int, y1105 = (IntKind.wrap .i32 ((bxor .i32 8192 y1098) - y1098)) → (-2147483648 ≤ y1105 ∧ y1105 ≤ 2147483647) →
 ∀ y1106 : Int, y1106 = (IntKind.wrap .i32 ((bxor .i32 (shrZ .i32 y1104 17) (shrZ .i32 y1104 31)) - (shrZ .i32 y1104 31))) → (-2147483648 ≤ y1106 ∧ y1106 ≤ 2147483647) →
 ∀ y1107 : Int, y1107 = (IntKind.wrap .i32 ((bxor .i32 (shrZ .i32 y1101 17) (shrZ .i32 y1104 31)) - (shrZ .i32 y1104 31))) → (-2147483648 ≤ y1107 ∧ y1107 ≤ 2147483647) →
 ∀ y1108 : Int, y1108 = (IntKind.wrap .i32 ((bxor .i32 4096 (shrZ .i32 y1104 31)) - (shrZ .i32 y1104 31))) → (-2147483648 ≤ y1108 ∧ y1108 ≤ 2147483647) →
 ∀ y1109 : Int, y1109 = (IntKind.wrap .i32 ((IntKind.wrap .i32 (y1097 + y1105)) + y1108)) → (-2147483648 ≤ y1109 ∧ y1109 ≤ 2147483647) →
 ∀ y1110 : Int, y1110 = (shrZ .i32 (IntKind.wrap .i32 (y1104 - y1107)) 31) → (-1 ≤ y1110 ∧ y1110 ≤ 0) →
 ∀ y1111 : Int, y1111 = (shrZ .i32 (IntKind.wrap .i32 (y1104 - y1107)) 18) → (-8192 ≤ y1111 ∧ y1111 ≤ 8191) →
 ∀ y1112 : Int, y1112 = (IntKind.wrap .i32 ((bxor .i32 y1111 y1110) - y1110)) → (-2147483648 ≤ y1112 ∧ y1112 ≤ 2147483647) →
 ∀ y1113 : Int, y1113 = (IntKind.wrap .i32 ((IntKind.wrap .i32 (y1101 + y1106)) + y1112)) → (-2147483648 ≤ y1113 ∧ y1113 ≤ 2147483647) →
 ∀ y1114 : Int, y1114 = (shrZ .i32 (IntKind.wrap .i32 (y1101 + y1106)) 18) → (-8192 ≤ y1114 ∧ y1114 ≤ 8191) →
 ∀ y1115 : Int, y1115 = (IntKind.wrap .i32 ((bxor .i32 y1114 y1110) - y1110)) → (-2147483648 ≤ y1115 ∧ y1115 ≤ 2147483647) →
 ∀ y1116 : Int, y1116 = (IntKind.wrap .i32 ((IntKind.wrap .i32 (y1104 - y1107)) - y1115)) → (-2147483648 ≤ y1116 ∧ y1116 ≤ 2147483647) →
 ∀ y1117 : Int, y1117 = (IntKind.wrap .i32 ((bxor .i32 2048 y1110) - y1110)) → (-2147483648 ≤ y1117 ∧ y1117 ≤ 2147483647) →
 ∀ y1118 : Int, y1118 = (IntKind.wrap .i32 ((bxor .i32 (shrZ .i32 y1116 19) (shrZ .i32 y1116 31)) - (shrZ .i32 y1116 31))) → (-2147483648 ≤ y1118 ∧ y1118 ≤ 2147483647) →
 ∀ y1119 : Int, y1119 = (IntKind.wrap .i32 ((bxor .i32 (shrZ .i32 y1113 19) (shrZ .i32 y1116 31)) - (shrZ .i32 y1116 31))) → (-2147483648 ≤ y1119 ∧ y1119 ≤ 2147483647) →
 ∀ y1120 : Int, y1120 = (IntKind.wrap .i32 ((bxor .i32 1024 (shrZ .i32 y1116 31)) - (shrZ .i32 y1116 31))) → (-2147483648 ≤ y1120 ∧ y1120 ≤ 2147483647) →
 ∀ y1121 : Int, y1121 = (IntKind.wrap .i32 ((IntKind.wrap .i32 (y1109 + y1117)) + y1120)) → (-2147483648 ≤ y1121 ∧ y1121 ≤ 2147483647) →
 ∀ y1122 : Int, y1122 = (shrZ .i32 (IntKind.wrap .i32 (y1116 - y1119)) 31) → (-1 ≤ y1122 ∧ y1122 ≤ 0) →
 ∀ y1123 : Int, y1123 = (shrZ .i32 (IntKind.wrap .i32 (y1116 - y1119)) 20) → (-2048 ≤ y1123 ∧ y1123 ≤ 2047) →
 ∀ y1124 : Int, y1124 = (IntKind.wrap .i32 ((bxor .i32 y1123 y1122) - y1122)) → (-2147483648 ≤ y1124 ∧ y1124 ≤ 2147483647) →
 ∀ y1125 : Int, y1125 = (IntKind.wrap .i32 ((IntKind.wrap .i32 (y1113 + y1118)) + y1124)) → (-2147483648 ≤ y1125 ∧ y1125 ≤ 2147483647) →
 ∀ y1126 : Int, y1126 = (shrZ .i32 (IntKind.wrap .i32 (y1113 + y1118)) 20) → (-2048 ≤ y1126 ∧ y1126 ≤ 2047) →
 ∀ y1127 : Int, y1127 = (IntKind.wrap .i32 ((bxor .i32 y1126 y1122) - y1122)) → (-2147483648 ≤ y1127 ∧ y1127 ≤ 2147483647) →
 ∀ y1128 : Int, y1128 = (IntKind.wrap .i32 ((IntKind.wrap .i32 (y1116 - y1119)) - y1127)) → (-2147483648 ≤ y1128 ∧ y1128 ≤ 2147483647) →
 ∀ y1129 : Int, y1129 = (IntKind.wrap .i32 ((bxor .i32 512 y1122) - y1122)) → (-2147483648 ≤ y1129 ∧ y1129 ≤ 2147483647) →
 ∀ y1130 : Int, y1130 = (IntKind.wrap .i32 ((bxor .i32 (shrZ .i32 y1128 21) (shrZ .i32 y1128 31)) - (shrZ .i32 y1128 31))) → (-2147483648 ≤ y1130 ∧ y1130 ≤ 2147483647) →
 ∀ y1131 : Int, y1131 = (IntKind.wrap .i32 ((bxor .i32 (shrZ .i32 y1125 21) (shrZ .i32 y1128 31)) - (shrZ .i32 y1128 31))) → (-2147483648 ≤ y1131 ∧ y1131 ≤ 2147483647) →
 ∀ y1132 : Int, y1132 = (IntKind.wrap .i32 ((bxor .i32 256 (shrZ .i32 y1128 31)) - (shrZ .i32 y1128 31))) → (-2147483648 ≤ y1132 ∧ y1132 ≤ 2147483647) →
 ∀ y1133 : Int, y1133 = (IntKind.wrap .i32 ((IntKind.wrap .i32 (y1121 + y1129)) + y1132)) → (-2147483648 ≤ y1133 ∧ y1133 ≤ 2147483647) →
 ∀ y1134 : Int, y1134 = (shrZ .i32 (IntKind.wrap .i32 (y1128 - y1131)) 31) → (-1 ≤ y1134 ∧ y1134 ≤ 0) →
 ∀ y1135 : Int, y1135 = (shrZ .i32 (IntKind.wrap .i32 (y1128 - y1131)) 22) → (-512 ≤ y1135 ∧ y1135 ≤ 511) →
 ∀ y1136 : Int, y1136 = (IntKind.wrap .i32 ((bxor .i32 y1135 y1134) - y1134)) → (-2147483648 ≤ y1136 ∧ y1136 ≤ 2147483647) →
 ∀ y1137 : Int, y1137 = (IntKind.wrap .i32 ((IntKind.wrap .i32 (y1125 + y1130)) + y1136)) → (-2147483648 ≤ y1137 ∧ y1137 ≤ 2147483647) →
 ∀ y1138 : Int, y1138 = (shrZ .i32 (IntKind.wrap .i32 (y1125 + y1130)) 22) → (-512 ≤ y1138 ∧ y1138 ≤ 511) →
 ∀ y1139 : Int, y1139 = (IntKind.wrap .i32 ((bxor .i32 y1138 y1134) - y1134)) → (-2147483648 ≤ y1139 ∧ y1139 ≤ 2147483647) →
 ∀ y1140 : Int, y1140 = (IntKind.wrap .i32 ((IntKind.wrap .i32 (y1128 - y1131)) - y1139)) → (-2147483648 ≤ y1140 ∧ y1140 ≤ 2147483647) →
 ∀ y1141 : Int, y1141 = (IntKind.wrap .i32 ((bxor .i32 128 y1134) - y1134)) → (-2147483648 ≤ y1141 ∧ y1141 ≤ 2147483647) →
 ∀ y1142 : Int, y1142 = (IntKind.wrap .i32 ((bxor .i32 (shrZ .i32 y1140 23) (shrZ .i32 y1140 31)) - (shrZ .i32 y1140 31))) → (-2147483648 ≤ y1142 ∧ y1142 ≤ 2147483647) →
 ∀ y1143 : Int, y1143 = (IntKind.wrap .i32 ((bxor .i32 (shrZ .i32 y1137 23) (shrZ .i32 y1140 31)) - (shrZ .i32 y1140 31))) → (-2147483648 ≤ y1143 ∧ y1143 ≤ 2147483647) →
 ∀ y1144 : Int, y1144 = (IntKind.wrap .i32 ((bxor .i32 64 (shrZ .i32 y1140 31)) - (shrZ .i32 y1140 31))) → (-2147483648 ≤ y1144 ∧ y1144 ≤ 2147483647) →
 ∀ y1145 : Int, y1145 = (IntKind.wrap .i32 ((IntKind.wrap .i32 (y1133 + y1141)) + y1144)) → (-2147483648 ≤ y1145 ∧ y1145 ≤ 2147483647) →
 ∀ y1146 : Int, y1146 = (shrZ .i32 (IntKind.wrap .i32 (y1140 - y1143)) 31) → (-1 ≤ y1146 ∧ y1146 ≤ 0) →
 ∀ y1147 : Int, y1147 = (shrZ .i32 (IntKind.wrap .i32 (y1140 - y1143)) 24) → (-128 ≤ y1147 ∧ y1147 ≤ 127) →
 ∀ y1148 : Int, y1148 = (IntKind.wrap .i32 ((bxor .i32 y1147 y1146) - y1146)) → (-2147483648 ≤ y1148 ∧ y1148 ≤ 2147483647) →
 ∀ y1149 : Int, y1149 = (IntKind.wrap .i32 ((IntKind.wrap .i32 (y1137 + y1142)) + y1148)) → (-2147483648 ≤ y1149 ∧ y1149 ≤ 2147483647) →
 ∀ y1150 : Int, y1150 = (shrZ .i32 (IntKind.wrap .i32 (y1137 + y1142)) 24) → (-128 ≤ y1150 ∧ y1150 ≤ 127) →
 ∀ y1151 : Int, y1151 = (IntKind.wrap .i32 ((bxor .i32 y1150 y1146) - y1146)) → (-2147483648 ≤ y1151 ∧ y1151 ≤ 2147483647) →
 ∀ y1152 : Int, y1152 = (IntKind.wrap .i32 ((IntKind.wrap .i32 (y1140 - y1143)) - y1151)) → (-2147483648 ≤ y1152 ∧ y1152 ≤ 2147483647) →
 ∀ y1153 : Int, y1153 = (IntKind.wrap .i32 ((bxor .i32 32 y1146) - y1146)) → (-2147483648 ≤ y1153 ∧ y1153 ≤ 2147483647) →
 ∀ y1154 : Int, y1154 = (IntKind.wrap .i32 ((bxor .i32 (shrZ .i32 y1152 25) (shrZ .i32 y1152 31)) - (shrZ .i32 y1152 31))) → (-2147483648 ≤ y1154 ∧ y1154 ≤ 2147483647) →
 ∀ y1155 : Int, y1155 = (IntKind.wrap .i32 ((bxor .i32 (shrZ .i32 y1149 25) (shrZ .i32 y1152 31)) - (shrZ .i32 y1152 31))) → (-2147483648 ≤ y1155 ∧ y1155 ≤ 2147483647) →
 ∀ y1156 : Int, y1156 = (IntKind.wrap .i32 ((bxor .i32 16 (shrZ .i32 y1152 31)) - (shrZ .i32 y1152 31))) → (-2147483648 ≤ y1156 ∧ y1156 ≤ 2147483647) →
 ∀ y1157 : Int, y1157 = (IntKind.wrap .i32 ((IntKind.wrap .i32 (y1145 + y1153)) + y1156)) → (-2147483648 ≤ y1157 ∧ y1157 ≤ 2147483647) →
 ∀ y1158 : Int, y1158 = (shrZ .i32 (IntKind.wrap .i32 (y1152 - y1155)) 31) → (-1 ≤ y1158 ∧ y1158 ≤ 0) →
 ∀ y1159 : Int, y1159 = (shrZ .i32 (IntKind.wrap .i32 (y1152 - y1155)) 26) → (-32 ≤ y1159 ∧ y1159 ≤ 31) →
 ∀ y1160 : Int, y1160 = (IntKind.wrap .i32 ((bxor .i32 y1159 y1158) - y1158)) → (-2147483648 ≤ y1160 ∧ y1160 ≤ 2147483647) →
 ∀ y1161 : Int, y1161 = (IntKind.wrap .i32 ((IntKind.wrap .i32 (y1149 + y1154)) + y1160)) → (-2147483648 ≤ y1161 ∧ y1161 ≤ 2147483647) →
 ∀ y1162 : Int, y1162 = (shrZ .i32 (IntKind.wrap .i32 (y1149 + y1154)) 26) → (-32 ≤ y1162 ∧ y1162 ≤ 31) →
 ∀ y1163 : Int, y1163 = (IntKind.wrap .i32 ((bxor .i32 y1162 y1158) - y1158)) → (-2147483648 ≤ y1163 ∧ y1163 ≤ 2147483647) →
 ∀ y1164 : Int, y1164 = (IntKind.wrap .i32 ((IntKind.wrap .i32 (y1152 - y1155)) - y1163)) → (-2147483648 ≤ y1164 ∧ y1164 ≤ 2147483647) →
 ∀ y1165 : Int, y1165 = (IntKind.wrap .i32 ((bxor .i32 8 y1158) - y1158)) → (-2147483648 ≤ y1165 ∧ y1165 ≤ 2147483647) →
 ∀ y1166 : Int, y1166 = (IntKind.wrap .i32 ((bxor .i32 (shrZ .i32 y1164 27) (shrZ .i32 y1164 31)) - (shrZ .i32 y1164 31))) → (-2147483648 ≤ y1166 ∧ y1166 ≤ 2147483647) →
 ∀ y1167 : Int, y1167 = (IntKind.wrap .i32 ((bxor .i32 (shrZ .i32 y1161 27) (shrZ .i32 y1164 31)) - (shrZ .i32 y1164 31))) → (-2147483648 ≤ y1167 ∧ y1167 ≤ 2147483647) →
 ∀ y1168 : Int, y1168 = (IntKind.wrap .i32 ((bxor .i32 4 (shrZ .i32 y1164 31)) - (shrZ .i32 y1164 31))) → (-2147483648 ≤ y1168 ∧ y1168 ≤ 2147483647) →
 ∀ y1169 : Int, y1169 = (IntKind.wrap .i32 ((IntKind.wrap .i32 (y1157 + y1165)) + y1168)) → (-2147483648 ≤ y1169 ∧ y1169 ≤ 2147483647) →
 ∀ y1170 : Int, y1170 = (0 - (iteZ (bool01 (decide (y1000 < y1001))) 1 0)) → (-1 ≤ y1170 ∧ y1170 ≤ 0) →
 ∀ y1171 : Int, y1171 = (bor .i32 (band .i32 (IntKind.wrap .i32 (843314857 - y1169)) y1170) (bandn .i32 y1169 y1170)) → (-2147483648 ≤ y1171 ∧ y1171 ≤ 2147483647) →
 ∀ y1172 : Int, y1172 = (bor .i32 (band .i32 (IntKind.wrap .i32 (1686629713 - y1171)) (shrZ .i32 a1 31)) (bandn .i32 y1171 (shrZ .i32 a1 31))) → (-2147483648 ≤ y1172 ∧ y1172 ≤ 2147483647) →
 ∀ y1173 : Int, y1173 = (IntKind.wrap .i32 ((bxor .i32 y1172 (shrZ .i32 a0 31)) - (shrZ .i32 a0 31))) → (-2147483648 ≤ y1173 ∧ y1173 ≤ 2147483647) →
 R [y1173]

set_option maxHeartbeats 4000000 in
set_option maxRecDepth 100000 in
theorem angE (R : List Int → Prop) (a0 a1 : Int) (l0 : -2147483647 ≤ a0) (u0 : a0 ≤ 2147483647) (l1 : -2147483647 ≤ a1) (u1 : a1 ≤ 2147483647) (hz : a0 ≠ 0 ∨ a1 ≠ 0) (hR : R [angZ a0 a1]) : PA R a0 a1 := by
  unfold PA
  intro y1000 e1000 b1000 y1001 e1001 b1001 y1002 e1002 b1002 y1003 e1003 b1003 y1004 e1004 b1004
  clear b1000 b1001 b1002 b1003 b1004
  rw [amt_abs l1 u1] at e1000
  rw [amt_abs l0 u0] at e1001
  have d1 := amt_bd l1 u1
  have d0 := amt_bd l0 u0
  have hmx : maxZ y1000 y1001 = gZ a0 a1 := by rw [e1000, e1001]; unfold maxZ gZ; rfl
  have hmn : minZ y1000 y1001 = lZ a0 a1 := by rw [e1000, e1001]; unfold minZ lZ; split <;> split <;> omega
  obtain ⟨g1, g2, g3, g4⟩ := gl_bd l0 u0 l1 u1 hz
  have H := z_ok l0 u0 l1 u1 hz
  obtain ⟨s1, s2⟩ := shl_lvl g1 g2 (by omega) (Int.le_refl _)
  obtain ⟨t1, t2⟩ := shl_lvl g1 g2 g3 g4
  have hX : shrZ .u32 (IntKind.wrap .u32 y1003) 2 = vX (x0Z a0 a1) (y0Z a0 a1) 0 := by rw [e1003, e1002, hmx, s1]; exact s2
  have hY : shrZ .u32 (IntKind.wrap .u32 y1004) 2 = vY (x0Z a0 a1) (y0Z a0 a1) 0 := by rw [e1004, e1002, hmx, hmn, t1]; exact t2
  clear s1 s2 t1 t2 hmx hmn e1002 e1003 e1004
  generalize hx0 : x0Z a0 a1 = x0 at *
  generalize hy0 : y0Z a0 a1 = y0 at *
  intro y1005 e1005 b1005
  clear b1005
  have q1 : (shrZ .i32 (shrZ .u32 (IntKind.wrap .u32 y1004) 2) 31) = (dd (vY x0 y0 0)) := by rw [hY]; exact vD H 0 (by decide)
  obtain rfl : y1005 = (dd (vY x0 y0 0)) := e1005.trans q1
  clear q1
  intro y1006 e1006 b1006
  clear b1006
  have q2 : (shrZ .i32 (shrZ .u32 (IntKind.wrap .u32 y1004) 2) 0) = (vY x0 y0 0 / 2 ^ 0) := by rw [hY]; exact vSY H 0 (by decide) rfl
  obtain rfl : y1006 = (vY x0 y0 0 / 2 ^ 0) := e1006.trans q2
  clear q2
  intro y1007 e1007 b1007
  clear b1007
  have q3 : ((bxor .i32 (vY x0 y0 0 / 2 ^ 0) (dd (vY x0 y0 0))) - (dd (vY x0 y0 0))) = (sg (vY x0 y0 0) * (vY x0 y0 0 / 2 ^ 0)) := by exact vFY H 0 (by decide)
  have q4 : ((shrZ .u32 (IntKind.wrap .u32 y1003) 2) + ((bxor .i32 (vY x0 y0 0 / 2 ^ 0) (dd (vY x0 y0 0))) - (dd (vY x0 y0 0)))) = ((vX x0 y0 0) + (sg (vY x0 y0 0) * (vY x0 y0 0 / 2 ^ 0))) := by rw [hX, q3]
  have q5 : (IntKind.wrap .i32 ((shrZ .u32 (IntKind.wrap .u32 y1003) 2) + ((bxor .i32 (vY x0 y0 0 / 2 ^ 0) (dd (vY x0 y0 0))) - (dd (vY x0 y0 0))))) = (vX x0 y0 1) := by rw [q4]; exact vNX H 0 (by decide)
  obtain rfl : y1007 = (vX x0 y0 1) := e1007.trans q5
  clear q3 q4 q5
  intro y1008 e1008 b1008
  clear b1008
  have q6 : (shrZ .i32 (shrZ .u32 (IntKind.wrap .u32 y1003) 2) 0) = (vX x0 y0 0 / 2 ^ 0) := by rw [hX]; exact vSX H 0 (by decide) rfl
  obtain rfl : y1008 = (vX x0 y0 0 / 2 ^ 0) := e1008.trans q6
  clear q6
  intro y1009 e1009 b1009
  clear b1009
  have q7 : ((bxor .i32 (vX x0 y0 0 / 2 ^ 0) (dd (vY x0 y0 0))) - (dd (vY x0 y0 0))) = (sg (vY x0 y0 0) * (vX x0 y0 0 / 2 ^ 0)) := by exact vFX H 0 (by decide)
  have q8 : ((shrZ .u32 (IntKind.wrap .u32 y1004) 2) - ((bxor .i32 (vX x0 y0 0 / 2 ^ 0) (dd (vY x0 y0 0))) - (dd (vY x0 y0 0)))) = ((vY x0 y0 0) - (sg (vY x0 y0 0) * (vX x0 y0 0 / 2 ^ 0))) := by rw [hY, q7]
  have q9 : (IntKind.wrap .i32 ((shrZ .u32 (IntKind.wrap .u32 y1004) 2) - ((bxor .i32 (vX x0 y0 0 / 2 ^ 0) (dd (vY x0 y0 0))) - (dd (vY x0 y0 0))))) = (vY x0 y0 1) := by rw [q8]; exact vNY H 0 (by decide)
  obtain rfl : y1009 = (vY x0 y0 1) := e1009.trans q9
  clear q7 q8 q9
  intro y1010 e1010 b1010
  clear b1010
  have q10 : (shrZ .i32 (vY x0 y0 1) 1) = (vY x0 y0 1 / 2 ^ 1) := by exact vSY H 1 (by decide) rfl
  have q11 : (shrZ .i32 (vY x0 y0 1) 31) = (dd (vY x0 y0 1)) := by exact vD H 1 (by decide)
  have q12 : (bxor .i32 (shrZ .i32 (vY x0 y0 1) 1) (shrZ .i32 (vY x0 y0 1) 31)) = (bxor .i32 (vY x0 y0 1 / 2 ^ 1) (dd (vY x0 y0 1))) := by rw [q10, q11]
  have q13 : (shrZ .i32 (vY x0 y0 1) 31) = (dd (vY x0 y0 1)) := by exact vD H 1 (by decide)
  have q14 : ((bxor .i32 (shrZ .i32 (vY x0 y0 1) 1) (shrZ .i32 (vY x0 y0 1) 31)) - (shrZ .i32 (vY x0 y0 1) 31)) = (sg (vY x0 y0 1) * (vY x0 y0 1 / 2 ^ 1)) := by rw [q12, q13]; exact vFY H 1 (by decide)
  have q15 : (IntKind.wrap .i32 ((bxor .i32 (shrZ .i32 (vY x0 y0 1) 1) (shrZ .i32 (vY x0 y0 1) 31)) - (shrZ .i32 (vY x0 y0 1) 31))) = (sg (vY x0 y0 1) * (vY x0 y0 1 / 2 ^ 1)) := by rw [q14]; exact vWY H 1 (by decide)
  obtain rfl : y1010 = (sg (vY x0 y0 1) * (vY x0 y0 1 / 2 ^ 1)) := e1010.trans q15
  clear q10 q11 q12 q13 q14 q15
  intro y1011 e1011 b1011
  clear b1011
  have q16 : (shrZ .i32 (vX x0 y0 1) 1) = (vX x0 y0 1 / 2 ^ 1) := by exact vSX H 1 (by decide) rfl
  have q17 : (shrZ .i32 (vY x0 y0 1) 31) = (dd (vY x0 y0 1)) := by exact vD H 1 (by decide)
  have q18 : (bxor .i32 (shrZ .i32 (vX x0 y0 1) 1) (shrZ .i32 (vY x0 y0 1) 31)) = (bxor .i32 (vX x0 y0 1 / 2 ^ 1) (dd (vY x0 y0 1))) := by rw [q16, q17]
  have q19 : (shrZ .i32 (vY x0 y0 1) 31) = (dd (vY x0 y0 1)) := by exact vD H 1 (by decide)
  have q20 : ((bxor .i32 (shrZ .i32 (vX x0 y0 1) 1) (shrZ .i32 (vY x0 y0 1) 31)) - (shrZ .i32 (vY x0 y0 1) 31)) = (sg (vY x0 y0 1) * (vX x0 y0 1 / 2 ^ 1)) := by rw [q18, q19]; exact vFX H 1 (by decide)
  have q21 : (IntKind.wrap .i32 ((bxor .i32 (shrZ .i32 (vX x0 y0 1) 1) (shrZ .i32 (vY x0 y0 1) 31)) - (shrZ .i32 (vY x0 y0 1) 31))) = (sg (vY x0 y0 1) * (vX x0 y0 1 / 2 ^ 1)) := by rw [q20]; exact vWX H 1 (by decide)
  obtain rfl : y1011 = (sg (vY x0 y0 1) * (vX x0 y0 1 / 2 ^ 1)) := e1011.trans q21
  clear q16 q17 q18 q19 q20 q21
  intro y1012 e1012 b1012
  clear b1012
  have q22 : (shrZ .i32 (vY x0 y0 1) 31) = (dd (vY x0 y0 1)) := by exact vD H 1 (by decide)
  have q23 : (bxor .i32 248918915 (shrZ .i32 (vY x0 y0 1) 31)) = (bxor .i32 248918915 (dd (vY x0 y0 1))) := by rw [q22]
  have q24 : (shrZ .i32 (vY x0 y0 1) 31) = (dd (vY x0 y0 1)) := by exact vD H 1 (by decide)
  have q25 : ((bxor .i32 248918915 (shrZ .i32 (vY x0 y0 1) 31)) - (shrZ .i32 (vY x0 y0 1) 31)) = (sg (vY x0 y0 1) * 248918915) := by rw [q23, q24]; exact flip_sg _ (by decide) (by decide)
  have q26 : (IntKind.wrap .i32 ((bxor .i32 248918915 (shrZ .i32 (vY x0 y0 1) 31)) - (shrZ .i32 (vY x0 y0 1) 31))) = (sg (vY x0 y0 1) * 248918915) := by rw [q25]; exact wrap_sg _ (by decide) (by decide)
  obtain rfl : y1012 = (sg (vY x0 y0 1) * 248918915) := e1012.trans q26
  clear q22 q23 q24 q25 q26
  intro y1013 e1013 b1013
  clear b1013
  have q27 : ((bxor .i32 421657428 (dd (vY x0 y0 0))) - (dd (vY x0 y0 0))) = (sg (vY x0 y0 0) * 421657428) := by exact flip_sg _ (by decide) (by decide)
  have q28 : (((bxor .i32 421657428 (dd (vY x0 y0 0))) - (dd (vY x0 y0 0))) + (sg (vY x0 y0 1) * 248918915)) = ((sg (vY x0 y0 0) * 421657428) + (sg (vY x0 y0 1) * 248918915)) := by rw [q27]
  have q29 : (sg (vY x0 y0 0) * 421657428) = (vA x0 y0 1) := vA1
  have q30 : (IntKind.wrap .i32 (((bxor .i32 421657428 (dd (vY x0 y0 0))) - (dd (vY x0 y0 0))) + (sg (vY x0 y0 1) * 248918915))) = (vA x0 y0 2) := by rw [q28]; rw [q29]; exact vNA H 1 (by decide) rfl
  obtain rfl : y1013 = (vA x0 y0 2) := e1013.trans q30
  clear q27 q28 q29 q30
  intro y1014 e1014 b1014
  clear b1014
  have q31 : (IntKind.wrap .i32 ((vY x0 y0 1) - (sg (vY x0 y0 1) * (vX x0 y0 1 / 2 ^ 1)))) = (vY x0 y0 2) := by exact vNY H 1 (by decide)
  have q32 : (shrZ .i32 (IntKind.wrap .i32 ((vY x0 y0 1) - (sg (vY x0 y0 1) * (vX x0 y0 1 / 2 ^ 1)))) 31) = (dd (vY x0 y0 2)) := by rw [q31]; exact vD H 2 (by decide)
  obtain rfl : y1014 = (dd (vY x0 y0 2)) := e1014.trans q32
  clear q31 q32
  intro y1015 e1015 b1015
  clear b1015
  have q33 : (IntKind.wrap .i32 ((vY x0 y0 1) - (sg (vY x0 y0 1) * (vX x0 y0 1 / 2 ^ 1)))) = (vY x0 y0 2) := by exact vNY H 1 (by decide)
  have q34 : (shrZ .i32 (IntKind.wrap .i32 ((vY x0 y0 1) - (sg (vY x0 y0 1) * (vX x0 y0 1 / 2 ^ 1)))) 2) = (vY x0 y0 2 / 2 ^ 2) := by rw [q33]; exact vSY H 2 (by decide) rfl
  obtain rfl : y1015 = (vY x0 y0 2 / 2 ^ 2) := e1015.trans q34
  clear q33 q34
  intro y1016 e1016 b1016
  clear b1016
  have q35 : ((bxor .i32 (vY x0 y0 2 / 2 ^ 2) (dd (vY x0 y0 2))) - (dd (vY x0 y0 2))) = (sg (vY x0 y0 2) * (vY x0 y0 2 / 2 ^ 2)) := by exact vFY H 2 (by decide)
  have q36 : (IntKind.wrap .i32 ((bxor .i32 (vY x0 y0 2 / 2 ^ 2) (dd (vY x0 y0 2))) - (dd (vY x0 y0 2)))) = (sg (vY x0 y0 2) * (vY x0 y0 2 / 2 ^ 2)) := by rw [q35]; exact vWY H 2 (by decide)
  obtain rfl : y1016 = (sg (vY x0 y0 2) * (vY x0 y0 2 / 2 ^ 2)) := e1016.trans q36
  clear q35 q36
  intro y1017 e1017 b1017
  clear b1017
  have q37 : (IntKind.wrap .i32 ((vX x0 y0 1) + (sg (vY x0 y0 1) * (vY x0 y0 1 / 2 ^ 1)))) = (vX x0 y0 2) := by exact vNX H 1 (by decide)
  have q38 : ((IntKind.wrap .i32 ((vX x0 y0 1) + (sg (vY x0 y0 1) * (vY x0 y0 1 / 2 ^ 1)))) + (sg (vY x0 y0 2) * (vY x0 y0 2 / 2 ^ 2))) = ((vX x0 y0 2) + (sg (vY x0 y0 2) * (vY x0 y0 2 / 2 ^ 2))) := by rw [q37]
  have q39 : (IntKind.wrap .i32 ((IntKind.wrap .i32 ((vX x0 y0 1) + (sg (vY x0 y0 1) * (vY x0 y0 1 / 2 ^ 1)))) + (sg (vY x0 y0 2) * (vY x0 y0 2 / 2 ^ 2)))) = (vX x0 y0 3) := by rw [q38]; exact vNX H 2 (by decide)
  obtain rfl : y1017 = (vX x0 y0 3) := e1017.trans q39
  clear q37 q38 q39
  intro y1018 e1018 b1018
  clear b1018
  have q40 : (IntKind.wrap .i32 ((vX x0 y0 1) + (sg (vY x0 y0 1) * (vY x0 y0 1 / 2 ^ 1)))) = (vX x0 y0 2) := by exact vNX H 1 (by decide)
  have q41 : (shrZ .i32 (IntKind.wrap .i32 ((vX x0 y0 1) + (sg (vY x0 y0 1) * (vY x0 y0 1 / 2 ^ 1)))) 2) = (vX x0 y0 2 / 2 ^ 2) := by rw [q40]; exact vSX H 2 (by decide) rfl
  obtain rfl : y1018 = (vX x0 y0 2 / 2 ^ 2) := e1018.trans q41
  clear q40 q41
  intro y1019 e1019 b1019
  clear b1019
  have q42 : ((bxor .i32 (vX x0 y0 2 / 2 ^ 2) (dd (vY x0 y0 2))) - (dd (vY x0 y0 2))) = (sg (vY x0 y0 2) * (vX x0 y0 2 / 2 ^ 2)) := by exact vFX H 2 (by decide)
  have q43 : (IntKind.wrap .i32 ((bxor .i32 (vX x0 y0 2 / 2 ^ 2) (dd (vY x0 y0 2))) - (dd (vY x0 y0 2)))) = (sg (vY x0 y0 2) * (vX x0 y0 2 / 2 ^ 2)) := by rw [q42]; exact vWX H 2 (by decide)
  obtain rfl : y1019 = (sg (vY x0 y0 2) * (vX x0 y0 2 / 2 ^ 2)) := e1019.trans q43
  clear q42 q43
  intro y1020 e1020 b1020
  clear b1020
  have q44 : (IntKind.wrap .i32 ((vY x0 y0 1) - (sg (vY x0 y0 1) * (vX x0 y0 1 / 2 ^ 1)))) = (vY x0 y0 2) := by exact vNY H 1 (by decide)
  have q45 : ((IntKind.wrap .i32 ((vY x0 y0 1) - (sg (vY x0 y0 1) * (vX x0 y0 1 / 2 ^ 1)))) - (sg (vY x0 y0 2) * (vX x0 y0 2 / 2 ^ 2))) = ((vY x0 y0 2) - (sg (vY x0 y0 2) * (vX x0 y0 2 / 2 ^ 2))) := by rw [q44]
  have q46 : (IntKind.wrap .i32 ((IntKind.wrap .i32 ((vY x0 y0 1) - (sg (vY x0 y0 1) * (vX x0 y0 1 / 2 ^ 1)))) - (sg (vY x0 y0 2) * (vX x0 y0 2 / 2 ^ 2)))) = (vY x0 y0 3) := by rw [q45]; exact vNY H 2 (by decide)
  obtain rfl : y1020 = (vY x0 y0 3) := e1020.trans q46
  clear q44 q45 q46
  intro y1021 e1021 b1021
  clear b1021
  have q47 : ((bxor .i32 131521918 (dd (vY x0 y0 2))) - (dd (vY x0 y0 2))) = (sg (vY x0 y0 2) * 131521918) := by exact flip_sg _ (by decide) (by decide)
  have q48 : (IntKind.wrap .i32 ((bxor .i32 131521918 (dd (vY x0 y0 2))) - (dd (vY x0 y0 2)))) = (sg (vY x0 y0 2) * 131521918) := by rw [q47]; exact wrap_sg _ (by decide) (by decide)
  obtain rfl : y1021 = (sg (vY x0 y0 2) * 131521918) := e1021.trans q48
  clear q47 q48
  intro y1022 e1022 b1022
  clear b1022
  have q49 : (shrZ .i32 (vY x0 y0 3) 3) = (vY x0 y0 3 / 2 ^ 3) := by exact vSY H 3 (by decide) rfl
  have q50 : (shrZ .i32 (vY x0 y0 3) 31) = (dd (vY x0 y0 3)) := by exact vD H 3 (by decide)
  have q51 : (bxor .i32 (shrZ .i32 (vY x0 y0 3) 3) (shrZ .i32 (vY x0 y0 3) 31)) = (bxor .i32 (vY x0 y0 3 / 2 ^ 3) (dd (vY x0 y0 3))) := by rw [q49, q50]
  have q52 : (shrZ .i32 (vY x0 y0 3) 31) = (dd (vY x0 y0 3)) := by exact vD H 3 (by decide)
  have q53 : ((bxor .i32 (shrZ .i32 (vY x0 y0 3) 3) (shrZ .i32 (vY x0 y0 3) 31)) - (shrZ .i32 (vY x0 y0 3) 31)) = (sg (vY x0 y0 3) * (vY x0 y0 3 / 2 ^ 3)) := by rw [q51, q52]; exact vFY H 3 (by decide)
  have q54 : (IntKind.wrap .i32 ((bxor .i32 (shrZ .i32 (vY x0 y0 3) 3) (shrZ .i32 (vY x0 y0 3) 31)) - (shrZ .i32 (vY x0 y0 3) 31))) = (sg (vY x0 y0 3) * (vY x0 y0 3 / 2 ^ 3)) := by rw [q53]; exact vWY H 3 (by decide)
  obtain rfl : y1022 = (sg (vY x0 y0 3) * (vY x0 y0 3 / 2 ^ 3)) := e1022.trans q54
  clear q49 q50 q51 q52 q53 q54
  intro y1023 e1023 b1023
  clear b1023
  have q55 : (shrZ .i32 (vX x0 y0 3) 3) = (vX x0 y0 3 / 2 ^ 3) := by exact vSX H 3 (by decide) rfl
  have q56 : (shrZ .i32 (vY x0 y0 3) 31) = (dd (vY x0 y0 3)) := by exact vD H 3 (by decide)
  have q57 : (bxor .i32 (shrZ .i32 (vX x0 y0 3) 3) (shrZ .i32 (vY x0 y0 3) 31)) = (bxor .i32 (vX x0 y0 3 / 2 ^ 3) (dd (vY x0 y0 3))) := by rw [q55, q56]
  have q58 : (shrZ .i32 (vY x0 y0 3) 31) = (dd (vY x0 y0 3)) := by exact vD H 3 (by decide)
  have q59 : ((bxor .i32 (shrZ .i32 (vX x0 y0 3) 3) (shrZ .i32 (vY x0 y0 3) 31)) - (shrZ .i32 (vY x0 y0 3) 31)) = (sg (vY x0 y0 3) * (vX x0 y0 3 / 2 ^ 3)) := by rw [q57, q58]; exact vFX H 3 (by decide)
  have q60 : (IntKind.wrap .i32 ((bxor .i32 (shrZ .i32 (vX x0 y0 3) 3) (shrZ .i32 (vY x0 y0 3) 31)) - (shrZ .i32 (vY x0 y0 3) 31))) = (sg (vY x0 y0 3) * (vX x0 y0 3 / 2 ^ 3)) := by rw [q59]; exact vWX H 3 (by decide)
  obtain rfl : y1023 = (sg (vY x0 y0 3) * (vX x0 y0 3 / 2 ^ 3)) := e1023.trans q60
  clear q55 q56 q57 q58 q59 q60
  intro y1024 e1024 b1024
  clear b1024
  have q61 : (shrZ .i32 (vY x0 y0 3) 31) = (dd (vY x0 y0 3)) := by exact vD H 3 (by decide)
  have q62 : (bxor .i32 66762579 (shrZ .i32 (vY x0 y0 3) 31)) = (bxor .i32 66762579 (dd (vY x0 y0 3))) := by rw [q61]
  have q63 : (shrZ .i32 (vY x0 y0 3) 31) = (dd (vY x0 y0 3)) := by exact vD H 3 (by decide)
  have q64 : ((bxor .i32 66762579 (shrZ .i32 (vY x0 y0 3) 31)) - (shrZ .i32 (vY x0 y0 3) 31)) = (sg (vY x0 y0 3) * 66762579) := by rw [q62, q63]; exact flip_sg _ (by decide) (by decide)
  have q65 : (IntKind.wrap .i32 ((bxor .i32 66762579 (shrZ .i32 (vY x0 y0 3) 31)) - (shrZ .i32 (vY x0 y0 3) 31))) = (sg (vY x0 y0 3) * 66762579) := by rw [q64]; exact wrap_sg _ (by decide) (by decide)
  obtain rfl : y1024 = (sg (vY x0 y0 3) * 66762579) := e1024.trans q65
  clear q61 q62 q63 q64 q65
  intro y1025 e1025 b1025
  clear b1025
  have q66 : (IntKind.wrap .i32 ((vA x0 y0 2) + (sg (vY x0 y0 2) * 131521918))) = (vA x0 y0 3) := by exact vNA H 2 (by decide) rfl
  have q67 : ((IntKind.wrap .i32 ((vA x0 y0 2) + (sg (vY x0 y0 2) * 131521918))) + (sg (vY x0 y0 3) * 66762579)) = ((vA x0 y0 3) + (sg (vY x0 y0 3) * 66762579)) := by rw [q66]
  have q68 : (IntKind.wrap .i32 ((IntKind.wrap .i32 ((vA x0 y0 2) + (sg (vY x0 y0 2) * 131521918))) + (sg (vY x0 y0 3) * 66762579))) = (vA x0 y0 4) := by rw [q67]; exact vNA H 3 (by decide) rfl
  obtain rfl : y1025 = (vA x0 y0 4) := e1025.trans q68
  clear q66 q67 q68
  intro y1026 e1026 b1026
  clear b1026
  have q69 : (IntKind.wrap .i32 ((vY x0 y0 3) - (sg (vY x0 y0 3) * (vX x0 y0 3 / 2 ^ 3)))) = (vY x0 y0 4) := by exact vNY H 3 (by decide)
  have q70 : (shrZ .i32 (IntKind.wrap .i32 ((vY x0 y0 3) - (sg (vY x0 y0 3) * (vX x0 y0 3 / 2 ^ 3)))) 31) = (dd (vY x0 y0 4)) := by rw [q69]; exact vD H 4 (by decide)
  obtain rfl : y1026 = (dd (vY x0 y0 4)) := e1026.trans q70
  clear q69 q70
  intro y1027 e1027 b1027
  clear b1027
  have q71 : (IntKind.wrap .i32 ((vY x0 y0 3) - (sg (vY x0 y0 3) * (vX x0 y0 3 / 2 ^ 3)))) = (vY x0 y0 4) := by exact vNY H 3 (by decide)
  have q72 : (shrZ .i32 (IntKind.wrap .i32 ((vY x0 y0 3) - (sg (vY x0 y0 3) * (vX x0 y0 3 / 2 ^ 3)))) 4) = (vY x0 y0 4 / 2 ^ 4) := by rw [q71]; exact vSY H 4 (by decide) rfl
  obtain rfl : y1027 = (vY x0 y0 4 / 2 ^ 4) := e1027.trans q72
  clear q71 q72
  intro y1028 e1028 b1028
  clear b1028
  have q73 : ((bxor .i32 (vY x0 y0 4 / 2 ^ 4) (dd (vY x0 y0 4))) - (dd (vY x0 y0 4))) = (sg (vY x0 y0 4) * (vY x0 y0 4 / 2 ^ 4)) := by exact vFY H 4 (by decide)
  have q74 : (IntKind.wrap .i32 ((bxor .i32 (vY x0 y0 4 / 2 ^ 4) (dd (vY x0 y0 4))) - (dd (vY x0 y0 4)))) = (sg (vY x0 y0 4) * (vY x0 y0 4 / 2 ^ 4)) := by rw [q73]; exact vWY H 4 (by decide)
  obtain rfl : y1028 = (sg (vY x0 y0 4) * (vY x0 y0 4 / 2 ^ 4)) := e1028.trans q74
  clear q73 q74
  intro y1029 e1029 b1029
  clear b1029
  have q75 : (IntKind.wrap .i32 ((vX x0 y0 3) + (sg (vY x0 y0 3) * (vY x0 y0 3 / 2 ^ 3)))) = (vX x0 y0 4) := by exact vNX H 3 (by decide)
  have q76 : ((IntKind.wrap .i32 ((vX x0 y0 3) + (sg (vY x0 y0 3) * (vY x0 y0 3 / 2 ^ 3)))) + (sg (vY x0 y0 4) * (vY x0 y0 4 / 2 ^ 4))) = ((vX x0 y0 4) + (sg (vY x0 y0 4) * (vY x0 y0 4 / 2 ^ 4))) := by rw [q75]
  have q77 : (IntKind.wrap .i32 ((IntKind.wrap .i32 ((vX x0 y0 3) + (sg (vY x0 y0 3) * (vY x0 y0 3 / 2 ^ 3)))) + (sg (vY x0 y0 4) * (vY x0 y0 4 / 2 ^ 4)))) = (vX x0 y0 5) := by rw [q76]; exact vNX H 4 (by decide)
  obtain rfl : y1029 = (vX x0 y0 5) := e1029.trans q77
  clear q75 q76 q77
  intro y1030 e1030 b1030
  clear b1030
  have q78 : (IntKind.wrap .i32 ((vX x0 y0 3) + (sg (vY x0 y0 3) * (vY x0 y0 3 / 2 ^ 3)))) = (vX x0 y0 4) := by exact vNX H 3 (by decide)
  have q79 : (shrZ .i32 (IntKind.wrap .i32 ((vX x0 y0 3) + (sg (vY x0 y0 3) * (vY x0 y0 3 / 2 ^ 3)))) 4) = (vX x0 y0 4 / 2 ^ 4) := by rw [q78]; exact vSX H 4 (by decide) rfl
  obtain rfl : y1030 = (vX x0 y0 4 / 2 ^ 4) := e1030.trans q79
  clear q78 q79
  intro y1031 e1031 b1031
  clear b1031
  have q80 : ((bxor .i32 (vX x0 y0 4 / 2 ^ 4) (dd (vY x0 y0 4))) - (dd (vY x0 y0 4))) = (sg (vY x0 y0 4) * (vX x0 y0 4 / 2 ^ 4)) := by exact vFX H 4 (by decide)
  have q81 : (IntKind.wrap .i32 ((bxor .i32 (vX x0 y0 4 / 2 ^ 4) (dd (vY x0 y0 4))) - (dd (vY x0 y0 4)))) = (sg (vY x0 y0 4) * (vX x0 y0 4 / 2 ^ 4)) := by rw [q80]; exact vWX H 4 (by decide)
  obtain rfl : y1031 = (sg (vY x0 y0 4) * (vX x0 y0 4 / 2 ^ 4)) := e1031.trans q81
  clear q80 q81
  intro y1032 e1032 b1032
  clear b1032
  have q82 : (IntKind.wrap .i32 ((vY x0 y0 3) - (sg (vY x0 y0 3) * (vX x0 y0 3 / 2 ^ 3)))) = (vY x0 y0 4) := by exact vNY H 3 (by decide)
  have q83 : ((IntKind.wrap .i32 ((vY x0 y0 3) - (sg (vY x0 y0 3) * (vX x0 y0 3 / 2 ^ 3)))) - (sg (vY x0 y0 4) * (vX x0 y0 4 / 2 ^ 4))) = ((vY x0 y0 4) - (sg (vY x0 y0 4) * (vX x0 y0 4 / 2 ^ 4))) := by rw [q82]
  have q84 : (IntKind.wrap .i32 ((IntKind.wrap .i32 ((vY x0 y0 3) - (sg (vY x0 y0 3) * (vX x0 y0 3 / 2 ^ 3)))) - (sg (vY x0 y0 4) * (vX x0 y0 4 / 2 ^ 4)))) = (vY x0 y0 5) := by rw [q83]; exact vNY H 4 (by decide)
  obtain rfl : y1032 = (vY x0 y0 5) := e1032.trans q84
  clear q82 q83 q84
  intro y1033 e1033 b1033
  clear b1033
  have q85 : ((bxor .i32 33510843 (dd (vY x0 y0 4))) - (dd (vY x0 y0 4))) = (sg (vY x0 y0 4) * 33510843) := by exact flip_sg _ (by decide) (by decide)
  have q86 : (IntKind.wrap .i32 ((bxor .i32 33510843 (dd (vY x0 y0 4))) - (dd (vY x0 y0 4)))) = (sg (vY x0 y0 4) * 33510843) := by rw [q85]; exact wrap_sg _ (by decide) (by decide)
  obtain rfl : y1033 = (sg (vY x0 y0 4) * 33510843) := e1033.trans q86
  clear q85 q86
  intro y1034 e1034 b1034
  clear b1034
  have q87 : (shrZ .i32 (vY x0 y0 5) 5) = (vY x0 y0 5 / 2 ^ 5) := by exact vSY H 5 (by decide) rfl
  have q88 : (shrZ .i32 (vY x0 y0 5) 31) = (dd (vY x0 y0 5)) := by exact vD H 5 (by decide)
  have q89 : (bxor .i32 (shrZ .i32 (vY x0 y0 5) 5) (shrZ .i32 (vY x0 y0 5) 31)) = (bxor .i32 (vY x0 y0 5 / 2 ^ 5) (dd (vY x0 y0 5))) := by rw [q87, q88]
  have q90 : (shrZ .i32 (vY x0 y0 5) 31) = (dd (vY x0 y0 5)) := by exact vD H 5 (by decide)
  have q91 : ((bxor .i32 (shrZ .i32 (vY x0 y0 5) 5) (shrZ .i32 (vY x0 y0 5) 31)) - (shrZ .i32 (vY x0 y0 5) 31)) = (sg (vY x0 y0 5) * (vY x0 y0 5 / 2 ^ 5)) := by rw [q89, q90]; exact vFY H 5 (by decide)
  have q92 : (IntKind.wrap .i32 ((bxor .i32 (shrZ .i32 (vY x0 y0 5) 5) (shrZ .i32 (vY x0 y0 5) 31)) - (shrZ .i32 (vY x0 y0 5) 31))) = (sg (vY x0 y0 5) * (vY x0 y0 5 / 2 ^ 5)) := by rw [q91]; exact vWY H 5 (by decide)
  obtain rfl : y1034 = (sg (vY x0 y0 5) * (vY x0 y0 5 / 2 ^ 5)) := e1034.trans q92
  clear q87 q88 q89 q90 q91 q92
  intro y1035 e1035 b1035
  clear b1035
  have q93 : (shrZ .i32 (vX x0 y0 5) 5) = (vX x0 y0 5 / 2 ^ 5) := by exact vSX H 5 (by decide) rfl
  have q94 : (shrZ .i32 (vY x0 y0 5) 31) = (dd (vY x0 y0 5)) := by exact vD H 5 (by decide)
  have q95 : (bxor .i32 (shrZ .i32 (vX x0 y0 5) 5) (shrZ .i32 (vY x0 y0 5) 31)) = (bxor .i32 (vX x0 y0 5 / 2 ^ 5) (dd (vY x0 y0 5))) := by rw [q93, q94]
  have q96 : (shrZ .i32 (vY x0 y0 5) 31) = (dd (vY x0 y0 5)) := by exact vD H 5 (by decide)
  have q97 : ((bxor .i32 (shrZ .i32 (vX x0 y0 5) 5) (shrZ .i32 (vY x0 y0 5) 31)) - (shrZ .i32 (vY x0 y0 5) 31)) = (sg (vY x0 y0 5) * (vX x0 y0 5 / 2 ^ 5)) := by rw [q95, q96]; exact vFX H 5 (by decide)
  have q98 : (IntKind.wrap .i32 ((bxor .i32 (shrZ .i32 (vX x0 y0 5) 5) (shrZ .i32 (vY x0 y0 5) 31)) - (shrZ .i32 (vY x0 y0 5) 31))) = (sg (vY x0 y0 5) * (vX x0 y0 5 / 2 ^ 5)) := by rw [q97]; exact vWX H 5 (by decide)
  obtain rfl : y1035 = (sg (vY x0 y0 5) * (vX x0 y0 5 / 2 ^ 5)) := e1035.trans q98
  clear q93 q94 q95 q96 q97 q98
  intro y1036 e1036 b1036
  clear b1036
  have q99 : (shrZ .i32 (vY x0 y0 5) 31) = (dd (vY x0 y0 5)) := by exact vD H 5 (by decide)
  have q100 : (bxor .i32 16771758 (shrZ .i32 (vY x0 y0 5) 31)) = (bxor .i32 16771758 (dd (vY x0 y0 5))) := by rw [q99]
  have q101 : (shrZ .i32 (vY x0 y0 5) 31) = (dd (vY x0 y0 5)) := by exact vD H 5 (by decide)
  have q102 : ((bxor .i32 16771758 (shrZ .i32 (vY x0 y0 5) 31)) - (shrZ .i32 (vY x0 y0 5) 31)) = (sg (vY x0 y0 5) * 16771758) := by rw [q100, q101]; exact flip_sg _ (by decide) (by decide)
  have q103 : (IntKind.wrap .i32 ((bxor .i32 16771758 (shrZ .i32 (vY x0 y0 5) 31)) - (shrZ .i32 (vY x0 y0 5) 31))) = (sg (vY x0 y0 5) * 16771758) := by rw [q102]; exact wrap_sg _ (by decide) (by decide)
  obtain rfl : y1036 = (sg (vY x0 y0 5) * 16771758) := e1036.trans q103
  clear q99 q100 q101 q102 q103
  intro y1037 e1037 b1037
  clear b1037
  have q104 : (IntKind.wrap .i32 ((vA x0 y0 4) + (sg (vY x0 y0 4) * 33510843))) = (vA x0 y0 5) := by exact vNA H 4 (by decide) rfl
  have q105 : ((IntKind.wrap .i32 ((vA x0 y0 4) + (sg (vY x0 y0 4) * 33510843))) + (sg (vY x0 y0 5) * 16771758)) = ((vA x0 y0 5) + (sg (vY x0 y0 5) * 16771758)) := by rw [q104]
  have q106 : (IntKind.wrap .i32 ((IntKind.wrap .i32 ((vA x0 y0 4) + (sg (vY x0 y0 4) * 33510843))) + (sg (vY x0 y0 5) * 16771758))) = (vA x0 y0 6) := by rw [q105]; exact vNA H 5 (by decide) rfl
  obtain rfl : y1037 = (vA x0 y0 6) := e1037.trans q106
  clear q104 q105 q106
  intro y1038 e1038 b1038
  clear b1038
  have q107 : (IntKind.wrap .i32 ((vY x0 y0 5) - (sg (vY x0 y0 5) * (vX x0 y0 5 / 2 ^ 5)))) = (vY x0 y0 6) := by exact vNY H 5 (by decide)
  have q108 : (shrZ .i32 (IntKind.wrap .i32 ((vY x0 y0 5) - (sg (vY x0 y0 5) * (vX x0 y0 5 / 2 ^ 5)))) 31) = (dd (vY x0 y0 6)) := by rw [q107]; exact vD H 6 (by decide)
  obtain rfl : y1038 = (dd (vY x0 y0 6)) := e1038.trans q108
  clear q107 q108
  intro y1039 e1039 b1039
  clear b1039
  have q109 : (IntKind.wrap .i32 ((vY x0 y0 5) - (sg (vY x0 y0 5) * (vX x0 y0 5 / 2 ^ 5)))) = (vY x0 y0 6) := by exact vNY H 5 (by decide)
  have q110 : (shrZ .i32 (IntKind.wrap .i32 ((vY x0 y0 5) - (sg (vY x0 y0 5) * (vX x0 y0 5 / 2 ^ 5)))) 6) = (vY x0 y0 6 / 2 ^ 6) := by rw [q109]; exact vSY H 6 (by decide) rfl
  obtain rfl : y1039 = (vY x0 y0 6 / 2 ^ 6) := e1039.trans q110
  clear q109 q110
  intro y1040 e1040 b1040
  clear b1040
  have q111 : ((bxor .i32 (vY x0 y0 6 / 2 ^ 6) (dd (vY x0 y0 6))) - (dd (vY x0 y0 6))) = (sg (vY x0 y0 6) * (vY x0 y0 6 / 2 ^ 6)) := by exact vFY H 6 (by decide)
  have q112 : (IntKind.wrap .i32 ((bxor .i32 (vY x0 y0 6 / 2 ^ 6) (dd (vY x0 y0 6))) - (dd (vY x0 y0 6)))) = (sg (vY x0 y0 6) * (vY x0 y0 6 / 2 ^ 6)) := by rw [q111]; exact vWY H 6 (by decide)
  obtain rfl : y1040 = (sg (vY x0 y0 6) * (vY x0 y0 6 / 2 ^ 6)) := e1040.trans q112
  clear q111 q112
  intro y1041 e1041 b1041
  clear b1041
  have q113 : (IntKind.wrap .i32 ((vX x0 y0 5) + (sg (vY x0 y0 5) * (vY x0 y0 5 / 2 ^ 5)))) = (vX x0 y0 6) := by exact vNX H 5 (by decide)
  have q114 : ((IntKind.wrap .i32 ((vX x0 y0 5) + (sg (vY x0 y0 5) * (vY x0 y0 5 / 2 ^ 5)))) + (sg (vY x0 y0 6) * (vY x0 y0 6 / 2 ^ 6))) = ((vX x0 y0 6) + (sg (vY x0 y0 6) * (vY x0 y0 6 / 2 ^ 6))) := by rw [q113]
  have q115 : (IntKind.wrap .i32 ((IntKind.wrap .i32 ((vX x0 y0 5) + (sg (vY x0 y0 5) * (vY x0 y0 5 / 2 ^ 5)))) + (sg (vY x0 y0 6) * (vY x0 y0 6 / 2 ^ 6)))) = (vX x0 y0 7) := by rw [q114]; exact vNX H 6 (by decide)
  obtain rfl : y1041 = (vX x0 y0 7) := e1041.trans q115
  clear q113 q114 q115
  intro y1042 e1042 b1042
  clear b1042
  have q116 : (IntKind.wrap .i32 ((vX x0 y0 5) + (sg (vY x0 y0 5) * (vY x0 y0 5 / 2 ^ 5)))) = (vX x0 y0 6) := by exact vNX H 5 (by decide)
  have q117 : (shrZ .i32 (IntKind.wrap .i32 ((vX x0 y0 5) + (sg (vY x0 y0 5) * (vY x0 y0 5 / 2 ^ 5)))) 6) = (vX x0 y0 6 / 2 ^ 6) := by rw [q116]; exact vSX H 6 (by decide) rfl
  obtain rfl : y1042 = (vX x0 y0 6 / 2 ^ 6) := e1042.trans q117
  clear q116 q117
  intro y1043 e1043 b1043
  clear b1043
  have q118 : ((bxor .i32 (vX x0 y0 6 / 2 ^ 6) (dd (vY x0 y0 6))) - (dd (vY x0 y0 6))) = (sg (vY x0 y0 6) * (vX x0 y0 6 / 2 ^ 6)) := by exact vFX H 6 (by decide)
  have q119 : (IntKind.wrap .i32 ((bxor .i32 (vX x0 y0 6 / 2 ^ 6) (dd (vY x0 y0 6))) - (dd (vY x0 y0 6)))) = (sg (vY x0 y0 6) * (vX x0 y0 6 / 2 ^ 6)) := by rw [q118]; exact vWX H 6 (by decide)
  obtain rfl : y1043 = (sg (vY x0 y0 6) * (vX x0 y0 6 / 2 ^ 6)) := e1043.trans q119
  clear q118 q119
  intro y1044 e1044 b1044
  clear b1044
  have q120 : (IntKind.wrap .i32 ((vY x0 y0 5) - (sg (vY x0 y0 5) * (vX x0 y0 5 / 2 ^ 5)))) = (vY x0 y0 6) := by exact vNY H 5 (by decide)
  have q121 : ((IntKind.wrap .i32 ((vY x0 y0 5) - (sg (vY x0 y0 5) * (vX x0 y0 5 / 2 ^ 5)))) - (sg (vY x0 y0 6) * (vX x0 y0 6 / 2 ^ 6))) = ((vY x0 y0 6) - (sg (vY x0 y0 6) * (vX x0 y0 6 / 2 ^ 6))) := by rw [q120]
  have q122 : (IntKind.wrap .i32 ((IntKind.wrap .i32 ((vY x0 y0 5) - (sg (vY x0 y0 5) * (vX x0 y0 5 / 2 ^ 5)))) - (sg (vY x0 y0 6) * (vX x0 y0 6 / 2 ^ 6)))) = (vY x0 y0 7) := by rw [q121]; exact vNY H 6 (by decide)
  obtain rfl : y1044 = (vY x0 y0 7) := e1044.trans q122
  clear q120 q121 q122
  intro y1045 e1045 b1045
  clear b1045
  have q123 : ((bxor .i32 8387925 (dd (vY x0 y0 6))) - (dd (vY x0 y0 6))) = (sg (vY x0 y0 6) * 8387925) := by exact flip_sg _ (by decide) (by decide)
  have q124 : (IntKind.wrap .i32 ((bxor .i32 8387925 (dd (vY x0 y0 6))) - (dd (vY x0 y0 6)))) = (sg (vY x0 y0 6) * 8387925) := by rw [q123]; exact wrap_sg _ (by decide) (by decide)
  obtain rfl : y1045 = (sg (vY x0 y0 6) * 8387925) := e1045.trans q124
  clear q123 q124
  intro y1046 e1046 b1046
  clear b1046
  have q125 : (shrZ .i32 (vY x0 y0 7) 7) = (vY x0 y0 7 / 2 ^ 7) := by exact vSY H 7 (by decide) rfl
  have q126 : (shrZ .i32 (vY x0 y0 7) 31) = (dd (vY x0 y0 7)) := by exact vD H 7 (by decide)
  have q127 : (bxor .i32 (shrZ .i32 (vY x0 y0 7) 7) (shrZ .i32 (vY x0 y0 7) 31)) = (bxor .i32 (vY x0 y0 7 / 2 ^ 7) (dd (vY x0 y0 7))) := by rw [q125, q126]
  have q128 : (shrZ .i32 (vY x0 y0 7) 31) = (dd (vY x0 y0 7)) := by exact vD H 7 (by decide)
  have q129 : ((bxor .i32 (shrZ .i32 (vY x0 y0 7) 7) (shrZ .i32 (vY x0 y0 7) 31)) - (shrZ .i32 (vY x0 y0 7) 31)) = (sg (vY x0 y0 7) * (vY x0 y0 7 / 2 ^ 7)) := by rw [q127, q128]; exact vFY H 7 (by decide)
  have q130 : (IntKind.wrap .i32 ((bxor .i32 (shrZ .i32 (vY x0 y0 7) 7) (shrZ .i32 (vY x0 y0 7) 31)) - (shrZ .i32 (vY x0 y0 7) 31))) = (sg (vY x0 y0 7) * (vY x0 y0 7 / 2 ^ 7)) := by rw [q129]; exact vWY H 7 (by decide)
  obtain rfl : y1046 = (sg (vY x0 y0 7) * (vY x0 y0 7 / 2 ^ 7)) := e1046.trans q130
  clear q125 q126 q127 q128 q129 q130
  intro y1047 e1047 b1047
  clear b1047
  have q131 : (shrZ .i32 (vX x0 y0 7) 7) = (vX x0 y0 7 / 2 ^ 7) := by exact vSX H 7 (by decide) rfl
  have q132 : (shrZ .i32 (vY x0 y0 7) 31) = (dd (vY x0 y0 7)) := by exact vD H 7 (by decide)
  have q133 : (bxor .i32 (shrZ .i32 (vX x0 y0 7) 7) (shrZ .i32 (vY x0 y0 7) 31)) = (bxor .i32 (vX x0 y0 7 / 2 ^ 7) (dd (vY x0 y0 7))) := by rw [q131, q132]
  have q134 : (shrZ .i32 (vY x0 y0 7) 31) = (dd (vY x0 y0 7)) := by exact vD H 7 (by decide)
  have q135 : ((bxor .i32 (shrZ .i32 (vX x0 y0 7) 7) (shrZ .i32 (vY x0 y0 7) 31)) - (shrZ .i32 (vY x0 y0 7) 31)) = (sg (vY x0 y0 7) * (vX x0 y0 7 / 2 ^ 7)) := by rw [q133, q134]; exact vFX H 7 (by decide)
  have q136 : (IntKind.wrap .i32 ((bxor .i32 (shrZ .i32 (vX x0 y0 7) 7) (shrZ .i32 (vY x0 y0 7) 31)) - (shrZ .i32 (vY x0 y0 7) 31))) = (sg (vY x0 y0 7) * (vX x0 y0 7 / 2 ^ 7)) := by rw [q135]; exact vWX H 7 (by decide)
  obtain rfl : y1047 = (sg (vY x0 y0 7) * (vX x0 y0 7 / 2 ^ 7)) := e1047.trans q136
  clear q131 q132 q133 q134 q135 q136
  intro y1048 e1048 b1048
  clear b1048
  have q137 : (shrZ .i32 (vY x0 y0 7) 31) = (dd (vY x0 y0 7)) := by exact vD H 7 (by decide)
  have q138 : (bxor .i32 4194219 (shrZ .i32 (vY x0 y0 7) 31)) = (bxor .i32 4194219 (dd (vY x0 y0 7))) := by rw [q137]
  have q139 : (shrZ .i32 (vY x0 y0 7) 31) = (dd (vY x0 y0 7)) := by exact vD H 7 (by decide)
  have q140 : ((bxor .i32 4194219 (shrZ .i32 (vY x0 y0 7) 31)) - (shrZ .i32 (vY x0 y0 7) 31)) = (sg (vY x0 y0 7) * 4194219) := by rw [q138, q139]; exact flip_sg _ (by decide) (by decide)
  have q141 : (IntKind.wrap .i32 ((bxor .i32 4194219 (shrZ .i32 (vY x0 y0 7) 31)) - (shrZ .i32 (vY x0 y0 7) 31))) = (sg (vY x0 y0 7) * 4194219) := by rw [q140]; exact wrap_sg _ (by decide) (by decide)
  obtain rfl : y1048 = (sg (vY x0 y0 7) * 4194219) := e1048.trans q141
  clear q137 q138 q139 q140 q141
  intro y1049 e1049 b1049
  clear b1049
  have q142 : (IntKind.wrap .i32 ((vA x0 y0 6) + (sg (vY x0 y0 6) * 8387925))) = (vA x0 y0 7) := by exact vNA H 6 (by decide) rfl
  have q143 : ((IntKind.wrap .i32 ((vA x0 y0 6) + (sg (vY x0 y0 6) * 8387925))) + (sg (vY x0 y0 7) * 4194219)) = ((vA x0 y0 7) + (sg (vY x0 y0 7) * 4194219)) := by rw [q142]
  have q144 : (IntKind.wrap .i32 ((IntKind.wrap .i32 ((vA x0 y0 6) + (sg (vY x0 y0 6) * 8387925))) + (sg (vY x0 y0 7) * 4194219))) = (vA x0 y0 8) := by rw [q143]; exact vNA H 7 (by decide) rfl
  obtain rfl : y1049 = (vA x0 y0 8) := e1049.trans q144
  clear q142 q143 q144
  intro y1050 e1050 b1050
  clear b1050
  have q145 : (IntKind.wrap .i32 ((vY x0 y0 7) - (sg (vY x0 y0 7) * (vX x0 y0 7 / 2 ^ 7)))) = (vY x0 y0 8) := by exact vNY H 7 (by decide)
  have q146 : (shrZ .i32 (IntKind.wrap .i32 ((vY x0 y0 7) - (sg (vY x0 y0 7) * (vX x0 y0 7 / 2 ^ 7)))) 31) = (dd (vY x0 y0 8)) := by rw [q145]; exact vD H 8 (by decide)
  obtain rfl : y1050 = (dd (vY x0 y0 8)) := e1050.trans q146
  clear q145 q146
  intro y1051 e1051 b1051
  clear b1051
  have q147 : (IntKind.wrap .i32 ((vY x0 y0 7) - (sg (vY x0 y0 7) * (vX x0 y0 7 / 2 ^ 7)))) = (vY x0 y0 8) := by exact vNY H 7 (by decide)
  have q148 : (shrZ .i32 (IntKind.wrap .i32 ((vY x0 y0 7) - (sg (vY x0 y0 7) * (vX x0 y0 7 / 2 ^ 7)))) 8) = (vY x0 y0 8 / 2 ^ 8) := by rw [q147]; exact vSY H 8 (by decide) rfl
  obtain rfl : y1051 = (vY x0 y0 8 / 2 ^ 8) := e1051.trans q148
  clear q147 q148
  intro y1052 e1052 b1052
  clear b1052
  have q149 : ((bxor .i32 (vY x0 y0 8 / 2 ^ 8) (dd (vY x0 y0 8))) - (dd (vY x0 y0 8))) = (sg (vY x0 y0 8) * (vY x0 y0 8 / 2 ^ 8)) := by exact vFY H 8 (by decide)
  have q150 : (IntKind.wrap .i32 ((bxor .i32 (vY x0 y0 8 / 2 ^ 8) (dd (vY x0 y0 8))) - (dd (vY x0 y0 8)))) = (sg (vY x0 y0 8) * (vY x0 y0 8 / 2 ^ 8)) := by rw [q149]; exact vWY H 8 (by decide)
  obtain rfl : y1052 = (sg (vY x0 y0 8) * (vY x0 y0 8 / 2 ^ 8)) := e1052.trans q150
  clear q149 q150
  intro y1053 e1053 b1053
  clear b1053
  have q151 : (IntKind.wrap .i32 ((vX x0 y0 7) + (sg (vY x0 y0 7) * (vY x0 y0 7 / 2 ^ 7)))) = (vX x0 y0 8) := by exact vNX H 7 (by decide)
  have q152 : ((IntKind.wrap .i32 ((vX x0 y0 7) + (sg (vY x0 y0 7) * (vY x0 y0 7 / 2 ^ 7)))) + (sg (vY x0 y0 8) * (vY x0 y0 8 / 2 ^ 8))) = ((vX x0 y0 8) + (sg (vY x0 y0 8) * (vY x0 y0 8 / 2 ^ 8))) := by rw [q151]
  have q153 : (IntKind.wrap .i32 ((IntKind.wrap .i32 ((vX x0 y0 7) + (sg (vY x0 y0 7) * (vY x0 y0 7 / 2 ^ 7)))) + (sg (vY x0 y0 8) * (vY x0 y0 8 / 2 ^ 8)))) = (vX x0 y0 9) := by rw [q152]; exact vNX H 8 (by decide)
  obtain rfl : y1053 = (vX x0 y0 9) := e1053.trans q153
  clear q151 q152 q153
  intro y1054 e1054 b1054
  clear b1054
  have q154 : (IntKind.wrap .i32 ((vX x0 y0 7) + (sg (vY x0 y0 7) * (vY x0 y0 7 / 2 ^ 7)))) = (vX x0 y0 8) := by exact vNX H 7 (by decide)
  have q155 : (shrZ .i32 (IntKind.wrap .i32 ((vX x0 y0 7) + (sg (vY x0 y0 7) * (vY x0 y0 7 / 2 ^ 7)))) 8) = (vX x0 y0 8 / 2 ^ 8) := by rw [q154]; exact vSX H 8 (by decide) rfl
  obtain rfl : y1054 = (vX x0 y0 8 / 2 ^ 8) := e1054.trans q155
  clear q154 q155
  intro y1055 e1055 b1055
  clear b1055
  have q156 : ((bxor .i32 (vX x0 y0 8 / 2 ^ 8) (dd (vY x0 y0 8))) - (dd (vY x0 y0 8))) = (sg (vY x0 y0 8) * (vX x0 y0 8 / 2 ^ 8)) := by exact vFX H 8 (by decide)
  have q157 : (IntKind.wrap .i32 ((bxor .i32 (vX x0 y0 8 / 2 ^ 8) (dd (vY x0 y0 8))) - (dd (vY x0 y0 8)))) = (sg (vY x0 y0 8) * (vX x0 y0 8 / 2 ^ 8)) := by rw [q156]; exact vWX H 8 (by decide)
  obtain rfl : y1055 = (sg (vY x0 y0 8) * (vX x0 y0 8 / 2 ^ 8)) := e1055.trans q157
  clear q156 q157
  intro y1056 e1056 b1056
  clear b1056
  have q158 : (IntKind.wrap .i32 ((vY x0 y0 7) - (sg (vY x0 y0 7) * (vX x0 y0 7 / 2 ^ 7)))) = (vY x0 y0 8) := by exact vNY H 7 (by decide)
  have q159 : ((IntKind.wrap .i32 ((vY x0 y0 7) - (sg (vY x0 y0 7) * (vX x0 y0 7 / 2 ^ 7)))) - (sg (vY x0 y0 8) * (vX x0 y0 8 / 2 ^ 8))) = ((vY x0 y0 8) - (sg (vY x0 y0 8) * (vX x0 y0 8 / 2 ^ 8))) := by rw [q158]
  have q160 : (IntKind.wrap .i32 ((IntKind.wrap .i32 ((vY x0 y0 7) - (sg (vY x0 y0 7) * (vX x0 y0 7 / 2 ^ 7)))) - (sg (vY x0 y0 8) * (vX x0 y0 8 / 2 ^ 8)))) = (vY x0 y0 9) := by rw [q159]; exact vNY H 8 (by decide)
  obtain rfl : y1056 = (vY x0 y0 9) := e1056.trans q160
  clear q158 q159 q160
  intro y1057 e1057 b1057
  clear b1057
  have q161 : ((bxor .i32 2097141 (dd (vY x0 y0 8))) - (dd (vY x0 y0 8))) = (sg (vY x0 y0 8) * 2097141) := by exact flip_sg _ (by decide) (by decide)
  have q162 : (IntKind.wrap .i32 ((bxor .i32 2097141 (dd (vY x0 y0 8))) - (dd (vY x0 y0 8)))) = (sg (vY x0 y0 8) * 2097141) := by rw [q161]; exact wrap_sg _ (by decide) (by decide)
  obtain rfl : y1057 = (sg (vY x0 y0 8) * 2097141) := e1057.trans q162
  clear q161 q162
  intro y1058 e1058 b1058
  clear b1058
  have q163 : (shrZ .i32 (vY x0 y0 9) 9) = (vY x0 y0 9 / 2 ^ 9) := by exact vSY H 9 (by decide) rfl
  have q164 : (shrZ .i32 (vY x0 y0 9) 31) = (dd (vY x0 y0 9)) := by exact vD H 9 (by decide)
  have q165 : (bxor .i32 (shrZ .i32 (vY x0 y0 9) 9) (shrZ .i32 (vY x0 y0 9) 31)) = (bxor .i32 (vY x0 y0 9 / 2 ^ 9) (dd (vY x0 y0 9))) := by rw [q163, q164]
  have q166 : (shrZ .i32 (vY x0 y0 9) 31) = (dd (vY x0 y0 9)) := by exact vD H 9 (by decide)
  have q167 : ((bxor .i32 (shrZ .i32 (vY x0 y0 9) 9) (shrZ .i32 (vY x0 y0 9) 31)) - (shrZ .i32 (vY x0 y0 9) 31)) = (sg (vY x0 y0 9) * (vY x0 y0 9 / 2 ^ 9)) := by rw [q165, q166]; exact vFY H 9 (by decide)
  have q168 : (IntKind.wrap .i32 ((bxor .i32 (shrZ .i32 (vY x0 y0 9) 9) (shrZ .i32 (vY x0 y0 9) 31)) - (shrZ .i32 (vY x0 y0 9) 31))) = (sg (vY x0 y0 9) * (vY x0 y0 9 / 2 ^ 9)) := by rw [q167]; exact vWY H 9 (by decide)
  obtain rfl : y1058 = (sg (vY x0 y0 9) * (vY x0 y0 9 / 2 ^ 9)) := e1058.trans q168
  clear q163 q164 q165 q166 q167 q168
  intro y1059 e1059 b1059
  clear b1059
  have q169 : (shrZ .i32 (vX x0 y0 9) 9) = (vX x0 y0 9 / 2 ^ 9) := by exact vSX H 9 (by decide) rfl
  have q170 : (shrZ .i32 (vY x0 y0 9) 31) = (dd (vY x0 y0 9)) := by exact vD H 9 (by decide)
  have q171 : (bxor .i32 (shrZ .i32 (vX x0 y0 9) 9) (shrZ .i32 (vY x0 y0 9) 31)) = (bxor .i32 (vX x0 y0 9 / 2 ^ 9) (dd (vY x0 y0 9))) := by rw [q169, q170]
  have q172 : (shrZ .i32 (vY x0 y0 9) 31) = (dd (vY x0 y0 9)) := by exact vD H 9 (by decide)
  have q173 : ((bxor .i32 (shrZ .i32 (vX x0 y0 9) 9) (shrZ .i32 (vY x0 y0 9) 31)) - (shrZ .i32 (vY x0 y0 9) 31)) = (sg (vY x0 y0 9) * (vX x0 y0 9 / 2 ^ 9)) := by rw [q171, q172]; exact vFX H 9 (by decide)
  have q174 : (IntKind.wrap .i32 ((bxor .i32 (shrZ .i32 (vX x0 y0 9) 9) (shrZ .i32 (vY x0 y0 9) 31)) - (shrZ .i32 (vY x0 y0 9) 31))) = (sg (vY x0 y0 9) * (vX x0 y0 9 / 2 ^ 9)) := by rw [q173]; exact vWX H 9 (by decide)
  obtain rfl : y1059 = (sg (vY x0 y0 9) * (vX x0 y0 9 / 2 ^ 9)) := e1059.trans q174
  clear q169 q170 q171 q172 q173 q174
  intro y1060 e1060 b1060
  clear b1060
  have q175 : (shrZ .i32 (vY x0 y0 9) 31) = (dd (vY x0 y0 9)) := by exact vD H 9 (by decide)
  have q176 : (bxor .i32 1048575 (shrZ .i32 (vY x0 y0 9) 31)) = (bxor .i32 1048575 (dd (vY x0 y0 9))) := by rw [q175]
  have q177 : (shrZ .i32 (vY x0 y0 9) 31) = (dd (vY x0 y0 9)) := by exact vD H 9 (by decide)
  have q178 : ((bxor .i32 1048575 (shrZ .i32 (vY x0 y0 9) 31)) - (shrZ .i32 (vY x0 y0 9) 31)) = (sg (vY x0 y0 9) * 1048575) := by rw [q176, q177]; exact flip_sg _ (by decide) (by decide)
  have q179 : (IntKind.wrap .i32 ((bxor .i32 1048575 (shrZ .i32 (vY x0 y0 9) 31)) - (shrZ .i32 (vY x0 y0 9) 31))) = (sg (vY x0 y0 9) * 1048575) := by rw [q178]; exact wrap_sg _ (by decide) (by decide)
  obtain rfl : y1060 = (sg (vY x0 y0 9) * 1048575) := e1060.trans q179
  clear q175 q176 q177 q178 q179
  intro y1061 e1061 b1061
  clear b1061
  have q180 : (IntKind.wrap .i32 ((vA x0 y0 8) + (sg (vY x0 y0 8) * 2097141))) = (vA x0 y0 9) := by exact vNA H 8 (by decide) rfl
  have q181 : ((IntKind.wrap .i32 ((vA x0 y0 8) + (sg (vY x0 y0 8) * 2097141))) + (sg (vY x0 y0 9) * 1048575)) = ((vA x0 y0 9) + (sg (vY x0 y0 9) * 1048575)) := by rw [q180]
  have q182 : (IntKind.wrap .i32 ((IntKind.wrap .i32 ((vA x0 y0 8) + (sg (vY x0 y0 8) * 2097141))) + (sg (vY x0 y0 9) * 1048575))) = (vA x0 y0 10) := by rw [q181]; exact vNA H 9 (by decide) rfl
  obtain rfl : y1061 = (vA x0 y0 10) := e1061.trans q182
  clear q180 q181 q182
  intro y1062 e1062 b1062
  clear b1062
  have q183 : (IntKind.wrap .i32 ((vY x0 y0 9) - (sg (vY x0 y0 9) * (vX x0 y0 9 / 2 ^ 9)))) = (vY x0 y0 10) := by exact vNY H 9 (by decide)
  have q184 : (shrZ .i32 (IntKind.wrap .i32 ((vY x0 y0 9) - (sg (vY x0 y0 9) * (vX x0 y0 9 / 2 ^ 9)))) 31) = (dd (vY x0 y0 10)) := by rw [q183]; exact vD H 10 (by decide)
  obtain rfl : y1062 = (dd (vY x0 y0 10)) := e1062.trans q184
  clear q183 q184
  intro y1063 e1063 b1063
  clear b1063
  have q185 : (IntKind.wrap .i32 ((vY x0 y0 9) - (sg (vY x0 y0 9) * (vX x0 y0 9 / 2 ^ 9)))) = (vY x0 y0 10) := by exact vNY H 9 (by decide)
  have q186 : (shrZ .i32 (IntKind.wrap .i32 ((vY x0 y0 9) - (sg (vY x0 y0 9) * (vX x0 y0 9 / 2 ^ 9)))) 10) = (vY x0 y0 10 / 2 ^ 10) := by rw [q185]; exact vSY H 10 (by decide) rfl
  obtain rfl : y1063 = (vY x0 y0 10 / 2 ^ 10) := e1063.trans q186
  clear q185 q186
  intro y1064 e1064 b1064
  clear b1064
  have q187 : ((bxor .i32 (vY x0 y0 10 / 2 ^ 10) (dd (vY x0 y0 10))) - (dd (vY x0 y0 10))) = (sg (vY x0 y0 10) * (vY x0 y0 10 / 2 ^ 10)) := by exact vFY H 10 (by decide)
  have q188 : (IntKind.wrap .i32 ((bxor .i32 (vY x0 y0 10 / 2 ^ 10) (dd (vY x0 y0 10))) - (dd (vY x0 y0 10)))) = (sg (vY x0 y0 10) * (vY x0 y0 10 / 2 ^ 10)) := by rw [q187]; exact vWY H 10 (by decide)
  obtain rfl : y1064 = (sg (vY x0 y0 10) * (vY x0 y0 10 / 2 ^ 10)) := e1064.trans q188
  clear q187 q188
  intro y1065 e1065 b1065
  clear b1065
  have q189 : (IntKind.wrap .i32 ((vX x0 y0 9) + (sg (vY x0 y0 9) * (vY x0 y0 9 / 2 ^ 9)))) = (vX x0 y0 10) := by exact vNX H 9 (by decide)
  have q190 : ((IntKind.wrap .i32 ((vX x0 y0 9) + (sg (vY x0 y0 9) * (vY x0 y0 9 / 2 ^ 9)))) + (sg (vY x0 y0 10) * (vY x0 y0 10 / 2 ^ 10))) = ((vX x0 y0 10) + (sg (vY x0 y0 10) * (vY x0 y0 10 / 2 ^ 10))) := by rw [q189]
  have q191 : (IntKind.wrap .i32 ((IntKind.wrap .i32 ((vX x0 y0 9) + (sg (vY x0 y0 9) * (vY x0 y0 9 / 2 ^ 9)))) + (sg (vY x0 y0 10) * (vY x0 y0 10 / 2 ^ 10)))) = (vX x0 y0 11) := by rw [q190]; exact vNX H 10 (by decide)
  obtain rfl : y1065 = (vX x0 y0 11) := e1065.trans q191
  clear q189 q190 q191
  intro y1066 e1066 b1066
  clear b1066
  have q192 : (IntKind.wrap .i32 ((vX x0 y0 9) + (sg (vY x0 y0 9) * (vY x0 y0 9 / 2 ^ 9)))) = (vX x0 y0 10) := by exact vNX H 9 (by decide)
  have q193 : (shrZ .i32 (IntKind.wrap .i32 ((vX x0 y0 9) + (sg (vY x0 y0 9) * (vY x0 y0 9 / 2 ^ 9)))) 10) = (vX x0 y0 10 / 2 ^ 10) := by rw [q192]; exact vSX H 10 (by decide) rfl
  obtain rfl : y1066 = (vX x0 y0 10 / 2 ^ 10) := e1066.trans q193
  clear q192 q193
  intro y1067 e1067 b1067
  clear b1067
  have q194 : ((bxor .i32 (vX x0 y0 10 / 2 ^ 10) (dd (vY x0 y0 10))) - (dd (vY x0 y0 10))) = (sg (vY x0 y0 10) * (vX x0 y0 10 / 2 ^ 10)) := by exact vFX H 10 (by decide)
  have q195 : (IntKind.wrap .i32 ((bxor .i32 (vX x0 y0 10 / 2 ^ 10) (dd (vY x0 y0 10))) - (dd (vY x0 y0 10)))) = (sg (vY x0 y0 10) * (vX x0 y0 10 / 2 ^ 10)) := by rw [q194]; exact vWX H 10 (by decide)
  obtain rfl : y1067 = (sg (vY x0 y0 10) * (vX x0 y0 10 / 2 ^ 10)) := e1067.trans q195
  clear q194 q195
  intro y1068 e1068 b1068
  clear b1068
  have q196 : (IntKind.wrap .i32 ((vY x0 y0 9) - (sg (vY x0 y0 9) * (vX x0 y0 9 / 2 ^ 9)))) = (vY x0 y0 10) := by exact vNY H 9 (by decide)
  have q197 : ((IntKind.wrap .i32 ((vY x0 y0 9) - (sg (vY x0 y0 9) * (vX x0 y0 9 / 2 ^ 9)))) - (sg (vY x0 y0 10) * (vX x0 y0 10 / 2 ^ 10))) = ((vY x0 y0 10) - (sg (vY x0 y0 10) * (vX x0 y0 10 / 2 ^ 10))) := by rw [q196]
  have q198 : (IntKind.wrap .i32 ((IntKind.wrap .i32 ((vY x0 y0 9) - (sg (vY x0 y0 9) * (vX x0 y0 9 / 2 ^ 9)))) - (sg (vY x0 y0 10) * (vX x0 y0 10 / 2 ^ 10)))) = (vY x0 y0 11) := by rw [q197]; exact vNY H 10 (by decide)
  obtain rfl : y1068 = (vY x0 y0 11) := e1068.trans q198
  clear q196 q197 q198
  intro y1069 e1069 b1069
  clear b1069
  have q199 : ((bxor .i32 524288 (dd (vY x0 y0 10))) - (dd (vY x0 y0 10))) = (sg (vY x0 y0 10) * 524288) := by exact flip_sg _ (by decide) (by decide)
  have q200 : (IntKind.wrap .i32 ((bxor .i32 524288 (dd (vY x0 y0 10))) - (dd (vY x0 y0 10)))) = (sg (vY x0 y0 10) * 524288) := by rw [q199]; exact wrap_sg _ (by decide) (by decide)
  obtain rfl : y1069 = (sg (vY x0 y0 10) * 524288) := e1069.trans q200
  clear q199 q200
  intro y1070 e1070 b1070
  clear b1070
  have q201 : (shrZ .i32 (vY x0 y0 11) 11) = (vY x0 y0 11 / 2 ^ 11) := by exact vSY H 11 (by decide) rfl
  have q202 : (shrZ .i32 (vY x0 y0 11) 31) = (dd (vY x0 y0 11)) := by exact vD H 11 (by decide)
  have q203 : (bxor .i32 (shrZ .i32 (vY x0 y0 11) 11) (shrZ .i32 (vY x0 y0 11) 31)) = (bxor .i32 (vY x0 y0 11 / 2 ^ 11) (dd (vY x0 y0 11))) := by rw [q201, q202]
  have q204 : (shrZ .i32 (vY x0 y0 11) 31) = (dd (vY x0 y0 11)) := by exact vD H 11 (by decide)
  have q205 : ((bxor .i32 (shrZ .i32 (vY x0 y0 11) 11) (shrZ .i32 (vY x0 y0 11) 31)) - (shrZ .i32 (vY x0 y0 11) 31)) = (sg (vY x0 y0 11) * (vY x0 y0 11 / 2 ^ 11)) := by rw [q203, q204]; exact vFY H 11 (by decide)
  have q206 : (IntKind.wrap .i32 ((bxor .i32 (shrZ .i32 (vY x0 y0 11) 11) (shrZ .i32 (vY x0 y0 11) 31)) - (shrZ .i32 (vY x0 y0 11) 31))) = (sg (vY x0 y0 11) * (vY x0 y0 11 / 2 ^ 11)) := by rw [q205]; exact vWY H 11 (by decide)
  obtain rfl : y1070 = (sg (vY x0 y0 11) * (vY x0 y0 11 / 2 ^ 11)) := e1070.trans q206
  clear q201 q202 q203 q204 q205 q206
  intro y1071 e1071 b1071
  clear b1071
  have q207 : (shrZ .i32 (vX x0 y0 11) 11) = (vX x0 y0 11 / 2 ^ 11) := by exact vSX H 11 (by decide) rfl
  have q208 : (shrZ .i32 (vY x0 y0 11) 31) = (dd (vY x0 y0 11)) := by exact vD H 11 (by decide)
  have q209 : (bxor .i32 (shrZ .i32 (vX x0 y0 11) 11) (shrZ .i32 (vY x0 y0 11) 31)) = (bxor .i32 (vX x0 y0 11 / 2 ^ 11) (dd (vY x0 y0 11))) := by rw [q207, q208]
  have q210 : (shrZ .i32 (vY x0 y0 11) 31) = (dd (vY x0 y0 11)) := by exact vD H 11 (by decide)
  have q211 : ((bxor .i32 (shrZ .i32 (vX x0 y0 11) 11) (shrZ .i32 (vY x0 y0 11) 31)) - (shrZ .i32 (vY x0 y0 11) 31)) = (sg (vY x0 y0 11) * (vX x0 y0 11 / 2 ^ 11)) := by rw [q209, q210]; exact vFX H 11 (by decide)
  have q212 : (IntKind.wrap .i32 ((bxor .i32 (shrZ .i32 (vX x0 y0 11) 11) (shrZ .i32 (vY x0 y0 11) 31)) - (shrZ .i32 (vY x0 y0 11) 31))) = (sg (vY x0 y0 11) * (vX x0 y0 11 / 2 ^ 11)) := by rw [q211]; exact vWX H 11 (by decide)
  obtain rfl : y1071 = (sg (vY x0 y0 11) * (vX x0 y0 11 / 2 ^ 11)) := e1071.trans q212
  clear q207 q208 q209 q210 q211 q212
  intro y1072 e1072 b1072
  clear b1072
  have q213 : (shrZ .i32 (vY x0 y0 11) 31) = (dd (vY x0 y0 11)) := by exact vD H 11 (by decide)
  have q214 : (bxor .i32 262144 (shrZ .i32 (vY x0 y0 11) 31)) = (bxor .i32 262144 (dd (vY x0 y0 11))) := by rw [q213]
  have q215 : (shrZ .i32 (vY x0 y0 11) 31) = (dd (vY x0 y0 11)) := by exact vD H 11 (by decide)
  have q216 : ((bxor .i32 262144 (shrZ .i32 (vY x0 y0 11) 31)) - (shrZ .i32 (vY x0 y0 11) 31)) = (sg (vY x0 y0 11) * 262144) := by rw [q214, q215]; exact flip_sg _ (by decide) (by decide)
  have q217 : (IntKind.wrap .i32 ((bxor .i32 262144 (shrZ .i32 (vY x0 y0 11) 31)) - (shrZ .i32 (vY x0 y0 11) 31))) = (sg (vY x0 y0 11) * 262144) := by rw [q216]; exact wrap_sg _ (by decide) (by decide)
  obtain rfl : y1072 = (sg (vY x0 y0 11) * 262144) := e1072.trans q217
  clear q213 q214 q215 q216 q217
  intro y1073 e1073 b1073
  clear b1073
  have q218 : (IntKind.wrap .i32 ((vA x0 y0 10) + (sg (vY x0 y0 10) * 524288))) = (vA x0 y0 11) := by exact vNA H 10 (by decide) rfl
  have q219 : ((IntKind.wrap .i32 ((vA x0 y0 10) + (sg (vY x0 y0 10) * 524288))) + (sg (vY x0 y0 11) * 262144)) = ((vA x0 y0 11) + (sg (vY x0 y0 11) * 262144)) := by rw [q218]
  have q220 : (IntKind.wrap .i32 ((IntKind.wrap .i32 ((vA x0 y0 10) + (sg (vY x0 y0 10) * 524288))) + (sg (vY x0 y0 11) * 262144))) = (vA x0 y0 12) := by rw [q219]; exact vNA H 11 (by decide) rfl
  obtain rfl : y1073 = (vA x0 y0 12) := e1073.trans q220
  clear q218 q219 q220
  intro y1074 e1074 b1074
  clear b1074
  have q221 : (IntKind.wrap .i32 ((vY x0 y0 11) - (sg (vY x0 y0 11) * (vX x0 y0 11 / 2 ^ 11)))) = (vY x0 y0 12) := by exact vNY H 11 (by decide)
  have q222 : (shrZ .i32 (IntKind.wrap .i32 ((vY x0 y0 11) - (sg (vY x0 y0 11) * (vX x0 y0 11 / 2 ^ 11)))) 31) = (dd (vY x0 y0 12)) := by rw [q221]; exact vD H 12 (by decide)
  obtain rfl : y1074 = (dd (vY x0 y0 12)) := e1074.trans q222
  clear q221 q222
  intro y1075 e1075 b1075
  clear b1075
  have q223 : (IntKind.wrap .i32 ((vY x0 y0 11) - (sg (vY x0 y0 11) * (vX x0 y0 11 / 2 ^ 11)))) = (vY x0 y0 12) := by exact vNY H 11 (by decide)
  have q224 : (shrZ .i32 (IntKind.wrap .i32 ((vY x0 y0 11) - (sg (vY x0 y0 11) * (vX x0 y0 11 / 2 ^ 11)))) 12) = (vY x0 y0 12 / 2 ^ 12) := by rw [q223]; exact vSY H 12 (by decide) rfl
  obtain rfl : y1075 = (vY x0 y0 12 / 2 ^ 12) := e1075.trans q224
  clear q223 q224
  intro y1076 e1076 b1076
  clear b1076
  have q225 : ((bxor .i32 (vY x0 y0 12 / 2 ^ 12) (dd (vY x0 y0 12))) - (dd (vY x0 y0 12))) = (sg (vY x0 y0 12) * (vY x0 y0 12 / 2 ^ 12)) := by exact vFY H 12 (by decide)
  have q226 : (IntKind.wrap .i32 ((bxor .i32 (vY x0 y0 12 / 2 ^ 12) (dd (vY x0 y0 12))) - (dd (vY x0 y0 12)))) = (sg (vY x0 y0 12) * (vY x0 y0 12 / 2 ^ 12)) := by rw [q225]; exact vWY H 12 (by decide)
  obtain rfl : y1076 = (sg (vY x0 y0 12) * (vY x0 y0 12 / 2 ^ 12)) := e1076.trans q226
  clear q225 q226
  intro y1077 e1077 b1077
  clear b1077
  have q227 : (IntKind.wrap .i32 ((vX x0 y0 11) + (sg (vY x0 y0 11) * (vY x0 y0 11 / 2 ^ 11)))) = (vX x0 y0 12) := by exact vNX H 11 (by decide)
  have q228 : ((IntKind.wrap .i32 ((vX x0 y0 11) + (sg (vY x0 y0 11) * (vY x0 y0 11 / 2 ^ 11)))) + (sg (vY x0 y0 12) * (vY x0 y0 12 / 2 ^ 12))) = ((vX x0 y0 12) + (sg (vY x0 y0 12) * (vY x0 y0 12 / 2 ^ 12))) := by rw [q227]
  have q229 : (IntKind.wrap .i32 ((IntKind.wrap .i32 ((vX x0 y0 11) + (sg (vY x0 y0 11) * (vY x0 y0 11 / 2 ^ 11)))) + (sg (vY x0 y0 12) * (vY x0 y0 12 / 2 ^ 12)))) = (vX x0 y0 13) := by rw [q228]; exact vNX H 12 (by decide)
  obtain rfl : y1077 = (vX x0 y0 13) := e1077.trans q229
  clear q227 q228 q229
  intro y1078 e1078 b1078
  clear b1078
  have q230 : (IntKind.wrap .i32 ((vX x0 y0 11) + (sg (vY x0 y0 11) * (vY x0 y0 11 / 2 ^ 11)))) = (vX x0 y0 12) := by exact vNX H 11 (by decide)
  have q231 : (shrZ .i32 (IntKind.wrap .i32 ((vX x0 y0 11) + (sg (vY x0 y0 11) * (vY x0 y0 11 / 2 ^ 11)))) 12) = (vX x0 y0 12 / 2 ^ 12) := by rw [q230]; exact vSX H 12 (by decide) rfl
  obtain rfl : y1078 = (vX x0 y0 12 / 2 ^ 12) := e1078.trans q231
  clear q230 q231
  intro y1079 e1079 b1079
  clear b1079
  have q232 : ((bxor .i32 (vX x0 y0 12 / 2 ^ 12) (dd (vY x0 y0 12))) - (dd (vY x0 y0 12))) = (sg (vY x0 y0 12) * (vX x0 y0 12 / 2 ^ 12)) := by exact vFX H 12 (by decide)
  have q233 : (IntKind.wrap .i32 ((bxor .i32 (vX x0 y0 12 / 2 ^ 12) (dd (vY x0 y0 12))) - (dd (vY x0 y0 12)))) = (sg (vY x0 y0 12) * (vX x0 y0 12 / 2 ^ 12)) := by rw [q232]; exact vWX H 12 (by decide)
  obtain rfl : y1079 = (sg (vY x0 y0 12) * (vX x0 y0 12 / 2 ^ 12)) := e1079.trans q233
  clear q232 q233
  intro y1080 e1080 b1080
  clear b1080
  have q234 : (IntKind.wrap .i32 ((vY x0 y0 11) - (sg (vY x0 y0 11) * (vX x0 y0 11 / 2 ^ 11)))) = (vY x0 y0 12) := by exact vNY H 11 (by decide)
  have q235 : ((IntKind.wrap .i32 ((vY x0 y0 11) - (sg (vY x0 y0 11) * (vX x0 y0 11 / 2 ^ 11)))) - (sg (vY x0 y0 12) * (vX x0 y0 12 / 2 ^ 12))) = ((vY x0 y0 12) - (sg (vY x0 y0 12) * (vX x0 y0 12 / 2 ^ 12))) := by rw [q234]
  have q236 : (IntKind.wrap .i32 ((IntKind.wrap .i32 ((vY x0 y0 11) - (sg (vY x0 y0 11) * (vX x0 y0 11 / 2 ^ 11)))) - (sg (vY x0 y0 12) * (vX x0 y0 12 / 2 ^ 12)))) = (vY x0 y0 13) := by rw [q235]; exact vNY H 12 (by decide)
  obtain rfl : y1080 = (vY x0 y0 13) := e1080.trans q236
  clear q234 q235 q236
  intro y1081 e1081 b1081
  clear b1081
  have q237 : ((bxor .i32 131072 (dd (vY x0 y0 12))) - (dd (vY x0 y0 12))) = (sg (vY x0 y0 12) * 131072) := by exact flip_sg _ (by decide) (by decide)
  have q238 : (IntKind.wrap .i32 ((bxor .i32 131072 (dd (vY x0 y0 12))) - (dd (vY x0 y0 12)))) = (sg (vY x0 y0 12) * 131072) := by rw [q237]; exact wrap_sg _ (by decide) (by decide)
  obtain rfl : y1081 = (sg (vY x0 y0 12) * 131072) := e1081.trans q238
  clear q237 q238
  intro y1082 e1082 b1082
  clear b1082
  have q239 : (shrZ .i32 (vY x0 y0 13) 13) = (vY x0 y0 13 / 2 ^ 13) := by exact vSY H 13 (by decide) rfl
  have q240 : (shrZ .i32 (vY x0 y0 13) 31) = (dd (vY x0 y0 13)) := by exact vD H 13 (by decide)
  have q241 : (bxor .i32 (shrZ .i32 (vY x0 y0 13) 13) (shrZ .i32 (vY x0 y0 13) 31)) = (bxor .i32 (vY x0 y0 13 / 2 ^ 13) (dd (vY x0 y0 13))) := by rw [q239, q240]
  have q242 : (shrZ .i32 (vY x0 y0 13) 31) = (dd (vY x0 y0 13)) := by exact vD H 13 (by decide)
  have q243 : ((bxor .i32 (shrZ .i32 (vY x0 y0 13) 13) (shrZ .i32 (vY x0 y0 13) 31)) - (shrZ .i32 (vY x0 y0 13) 31)) = (sg (vY x0 y0 13) * (vY x0 y0 13 / 2 ^ 13)) := by rw [q241, q242]; exact vFY H 13 (by decide)
  have q244 : (IntKind.wrap .i32 ((bxor .i32 (shrZ .i32 (vY x0 y0 13) 13) (shrZ .i32 (vY x0 y0 13) 31)) - (shrZ .i32 (vY x0 y0 13) 31))) = (sg (vY x0 y0 13) * (vY x0 y0 13 / 2 ^ 13)) := by rw [q243]; exact vWY H 13 (by decide)
  obtain rfl : y1082 = (sg (vY x0 y0 13) * (vY x0 y0 13 / 2 ^ 13)) := e1082.trans q244
  clear q239 q240 q241 q242 q243 q244
  intro y1083 e1083 b1083
  clear b1083
  have q245 : (shrZ .i32 (vX x0 y0 13) 13) = (vX x0 y0 13 / 2 ^ 13) := by exact vSX H 13 (by decide) rfl
  have q246 : (shrZ .i32 (vY x0 y0 13) 31) = (dd (vY x0 y0 13)) := by exact vD H 13 (by decide)
  have q247 : (bxor .i32 (shrZ .i32 (vX x0 y0 13) 13) (shrZ .i32 (vY x0 y0 13) 31)) = (bxor .i32 (vX x0 y0 13 / 2 ^ 13) (dd (vY x0 y0 13))) := by rw [q245, q246]
  have q248 : (shrZ .i32 (vY x0 y0 13) 31) = (dd (vY x0 y0 13)) := by exact vD H 13 (by decide)
  have q249 : ((bxor .i32 (shrZ .i32 (vX x0 y0 13) 13) (shrZ .i32 (vY x0 y0 13) 31)) - (shrZ .i32 (vY x0 y0 13) 31)) = (sg (vY x0 y0 13) * (vX x0 y0 13 / 2 ^ 13)) := by rw [q247, q248]; exact vFX H 13 (by decide)
  have q250 : (IntKind.wrap .i32 ((bxor .i32 (shrZ .i32 (vX x0 y0 13) 13) (shrZ .i32 (vY x0 y0 13) 31)) - (shrZ .i32 (vY x0 y0 13) 31))) = (sg (vY x0 y0 13) * (vX x0 y0 13 / 2 ^ 13)) := by rw [q249]; exact vWX H 13 (by decide)
  obtain rfl : y1083 = (sg (vY x0 y0 13) * (vX x0 y0 13 / 2 ^ 13)) := e1083.trans q250
  clear q245 q246 q247 q248 q249 q250
  intro y1084 e1084 b1084
  clear b1084
  have q251 : (shrZ .i32 (vY x0 y0 13) 31) = (dd (vY x0 y0 13)) := by exact vD H 13 (by decide)
  have q252 : (bxor .i32 65536 (shrZ .i32 (vY x0 y0 13) 31)) = (bxor .i32 65536 (dd (vY x0 y0 13))) := by rw [q251]
  have q253 : (shrZ .i32 (vY x0 y0 13) 31) = (dd (vY x0 y0 13)) := by exact vD H 13 (by decide)
  have q254 : ((bxor .i32 65536 (shrZ .i32 (vY x0 y0 13) 31)) - (shrZ .i32 (vY x0 y0 13) 31)) = (sg (vY x0 y0 13) * 65536) := by rw [q252, q253]; exact flip_sg _ (by decide) (by decide)
  have q255 : (IntKind.wrap .i32 ((bxor .i32 65536 (shrZ .i32 (vY x0 y0 13) 31)) - (shrZ .i32 (vY x0 y0 13) 31))) = (sg (vY x0 y0 13) * 65536) := by rw [q254]; exact wrap_sg _ (by decide) (by decide)
  obtain rfl : y1084 = (sg (vY x0 y0 13) * 65536) := e1084.trans q255
  clear q251 q252 q253 q254 q255
  intro y1085 e1085 b1085
  clear b1085
  have q256 : (IntKind.wrap .i32 ((vA x0 y0 12) + (sg (vY x0 y0 12) * 131072))) = (vA x0 y0 13) := by exact vNA H 12 (by decide) rfl
  have q257 : ((IntKind.wrap .i32 ((vA x0 y0 12) + (sg (vY x0 y0 12) * 131072))) + (sg (vY x0 y0 13) * 65536)) = ((vA x0 y0 13) + (sg (vY x0 y0 13) * 65536)) := by rw [q256]
  have q258 : (IntKind.wrap .i32 ((IntKind.wrap .i32 ((vA x0 y0 12) + (sg (vY x0 y0 12) * 131072))) + (sg (vY x0 y0 13) * 65536))) = (vA x0 y0 14) := by rw [q257]; exact vNA H 13 (by decide) rfl
  obtain rfl : y1085 = (vA x0 y0 14) := e1085.trans q258
  clear q256 q257 q258
  intro y1086 e1086 b1086
  clear b1086
  have q259 : (IntKind.wrap .i32 ((vY x0 y0 13) - (sg (vY x0 y0 13) * (vX x0 y0 13 / 2 ^ 13)))) = (vY x0 y0 14) := by exact vNY H 13 (by decide)
  have q260 : (shrZ .i32 (IntKind.wrap .i32 ((vY x0 y0 13) - (sg (vY x0 y0 13) * (vX x0 y0 13 / 2 ^ 13)))) 31) = (dd (vY x0 y0 14)) := by rw [q259]; exact vD H 14 (by decide)
  obtain rfl : y1086 = (dd (vY x0 y0 14)) := e1086.trans q260
  clear q259 q260
  intro y1087 e1087 b1087
  clear b1087
  have q261 : (IntKind.wrap .i32 ((vY x0 y0 13) - (sg (vY x0 y0 13) * (vX x0 y0 13 / 2 ^ 13)))) = (vY x0 y0 14) := by exact vNY H 13 (by decide)
  have q262 : (shrZ .i32 (IntKind.wrap .i32 ((vY x0 y0 13) - (sg (vY x0 y0 13) * (vX x0 y0 13 / 2 ^ 13)))) 14) = (vY x0 y0 14 / 2 ^ 14) := by rw [q261]; exact vSY H 14 (by decide) rfl
  obtain rfl : y1087 = (vY x0 y0 14 / 2 ^ 14) := e1087.trans q262
  clear q261 q262
  intro y1088 e1088 b1088
  clear b1088
  have q263 : ((bxor .i32 (vY x0 y0 14 / 2 ^ 14) (dd (vY x0 y0 14))) - (dd (vY x0 y0 14))) = (sg (vY x0 y0 14) * (vY x0 y0 14 / 2 ^ 14)) := by exact vFY H 14 (by decide)
  have q264 : (IntKind.wrap .i32 ((bxor .i32 (vY x0 y0 14 / 2 ^ 14) (dd (vY x0 y0 14))) - (dd (vY x0 y0 14)))) = (sg (vY x0 y0 14) * (vY x0 y0 14 / 2 ^ 14)) := by rw [q263]; exact vWY H 14 (by decide)
  obtain rfl : y1088 = (sg (vY x0 y0 14) * (vY x0 y0 14 / 2 ^ 14)) := e1088.trans q264
  clear q263 q264
  intro y1089 e1089 b1089
  clear b1089
  have q265 : (IntKind.wrap .i32 ((vX x0 y0 13) + (sg (vY x0 y0 13) * (vY x0 y0 13 / 2 ^ 13)))) = (vX x0 y0 14) := by exact vNX H 13 (by decide)
  have q266 : ((IntKind.wrap .i32 ((vX x0 y0 13) + (sg (vY x0 y0 13) * (vY x0 y0 13 / 2 ^ 13)))) + (sg (vY x0 y0 14) * (vY x0 y0 14 / 2 ^ 14))) = ((vX x0 y0 14) + (sg (vY x0 y0 14) * (vY x0 y0 14 / 2 ^ 14))) := by rw [q265]
  have q267 : (IntKind.wrap .i32 ((IntKind.wrap .i32 ((vX x0 y0 13) + (sg (vY x0 y0 13) * (vY x0 y0 13 / 2 ^ 13)))) + (sg (vY x0 y0 14) * (vY x0 y0 14 / 2 ^ 14)))) = (vX x0 y0 15) := by rw [q266]; exact vNX H 14 (by decide)
  obtain rfl : y1089 = (vX x0 y0 15) := e1089.trans q267
  clear q265 q266 q267
  intro y1090 e1090 b1090
  clear b1090
  have q268 : (IntKind.wrap .i32 ((vX x0 y0 13) + (sg (vY x0 y0 13) * (vY x0 y0 13 / 2 ^ 13)))) = (vX x0 y0 14) := by exact vNX H 13 (by decide)
  have q269 : (shrZ .i32 (IntKind.wrap .i32 ((vX x0 y0 13) + (sg (vY x0 y0 13) * (vY x0 y0 13 / 2 ^ 13)))) 14) = (vX x0 y0 14 / 2 ^ 14) := by rw [q268]; exact vSX H 14 (by decide) rfl
  obtain rfl : y1090 = (vX x0 y0 14 / 2 ^ 14) := e1090.trans q269
  clear q268 q269
  intro y1091 e1091 b1091
  clear b1091
  have q270 : ((bxor .i32 (vX x0 y0 14 / 2 ^ 14) (dd (vY x0 y0 14))) - (dd (vY x0 y0 14))) = (sg (vY x0 y0 14) * (vX x0 y0 14 / 2 ^ 14)) := by exact vFX H 14 (by decide)
  have q271 : (IntKind.wrap .i32 ((bxor .i32 (vX x0 y0 14 / 2 ^ 14) (dd (vY x0 y0 14))) - (dd (vY x0 y0 14)))) = (sg (vY x0 y0 14) * (vX x0 y0 14 / 2 ^ 14)) := by rw [q270]; exact vWX H 14 (by decide)
  obtain rfl : y1091 = (sg (vY x0 y0 14) * (vX x0 y0 14 / 2 ^ 14)) := e1091.trans q271
  clear q270 q271
  intro y1092 e1092 b1092
  clear b1092
  have q272 : (IntKind.wrap .i32 ((vY x0 y0 13) - (sg (vY x0 y0 13) * (vX x0 y0 13 / 2 ^ 13)))) = (vY x0 y0 14) := by exact vNY H 13 (by decide)
  have q273 : ((IntKind.wrap .i32 ((vY x0 y0 13) - (sg (vY x0 y0 13) * (vX x0 y0 13 / 2 ^ 13)))) - (sg (vY x0 y0 14) * (vX x0 y0 14 / 2 ^ 14))) = ((vY x0 y0 14) - (sg (vY x0 y0 14) * (vX x0 y0 14 / 2 ^ 14))) := by rw [q272]
  have q274 : (IntKind.wrap .i32 ((IntKind.wrap .i32 ((vY x0 y0 13) - (sg (vY x0 y0 13) * (vX x0 y0 13 / 2 ^ 13)))) - (sg (vY x0 y0 14) * (vX x0 y0 14 / 2 ^ 14)))) = (vY x0 y0 15) := by rw [q273]; exact vNY H 14 (by decide)
  obtain rfl : y1092 = (vY x0 y0 15) := e1092.trans q274
  clear q272 q273 q274
  intro y1093 e1093 b1093
  clear b1093
  have q275 : ((bxor .i32 32768 (dd (vY x0 y0 14))) - (dd (vY x0 y0 14))) = (sg (vY x0 y0 14) * 32768) := by exact flip_sg _ (by decide) (by decide)
  have q276 : (IntKind.wrap .i32 ((bxor .i32 32768 (dd (vY x0 y0 14))) - (dd (vY x0 y0 14)))) = (sg (vY x0 y0 14) * 32768) := by rw [q275]; exact wrap_sg _ (by decide) (by decide)
  obtain rfl : y1093 = (sg (vY x0 y0 14) * 32768) := e1093.trans q276
  clear q275 q276
  intro y1094 e1094 b1094
  clear b1094
  have q277 : (shrZ .i32 (vY x0 y0 15) 15) = (vY x0 y0 15 / 2 ^ 15) := by exact vSY H 15 (by decide) rfl
  have q278 : (shrZ .i32 (vY x0 y0 15) 31) = (dd (vY x0 y0 15)) := by exact vD H 15 (by decide)
  have q279 : (bxor .i32 (shrZ .i32 (vY x0 y0 15) 15) (shrZ .i32 (vY x0 y0 15) 31)) = (bxor .i32 (vY x0 y0 15 / 2 ^ 15) (dd (vY x0 y0 15))) := by rw [q277, q278]
  have q280 : (shrZ .i32 (vY x0 y0 15) 31) = (dd (vY x0 y0 15)) := by exact vD H 15 (by decide)
  have q281 : ((bxor .i32 (shrZ .i32 (vY x0 y0 15) 15) (shrZ .i32 (vY x0 y0 15) 31)) - (shrZ .i32 (vY x0 y0 15) 31)) = (sg (vY x0 y0 15) * (vY x0 y0 15 / 2 ^ 15)) := by rw [q279, q280]; exact vFY H 15 (by decide)
  have q282 : (IntKind.wrap .i32 ((bxor .i32 (shrZ .i32 (vY x0 y0 15) 15) (shrZ .i32 (vY x0 y0 15) 31)) - (shrZ .i32 (vY x0 y0 15) 31))) = (sg (vY x0 y0 15) * (vY x0 y0 15 / 2 ^ 15)) := by rw [q281]; exact vWY H 15 (by decide)
  obtain rfl : y1094 = (sg (vY x0 y0 15) * (vY x0 y0 15 / 2 ^ 15)) := e1094.trans q282
  clear q277 q278 q279 q280 q281 q282
  intro y1095 e1095 b1095
  clear b1095
  have q283 : (shrZ .i32 (vX x0 y0 15) 15) = (vX x0 y0 15 / 2 ^ 15) := by exact vSX H 15 (by decide) rfl
  have q284 : (shrZ .i32 (vY x0 y0 15) 31) = (dd (vY x0 y0 15)) := by exact vD H 15 (by decide)
  have q285 : (bxor .i32 (shrZ .i32 (vX x0 y0 15) 15) (shrZ .i32 (vY x0 y0 15) 31)) = (bxor .i32 (vX x0 y0 15 / 2 ^ 15) (dd (vY x0 y0 15))) := by rw [q283, q284]
  have q286 : (shrZ .i32 (vY x0 y0 15) 31) = (dd (vY x0 y0 15)) := by exact vD H 15 (by decide)
  have q287 : ((bxor .i32 (shrZ .i32 (vX x0 y0 15) 15) (shrZ .i32 (vY x0 y0 15) 31)) - (shrZ .i32 (vY x0 y0 15) 31)) = (sg (vY x0 y0 15) * (vX x0 y0 15 / 2 ^ 15)) := by rw [q285, q286]; exact vFX H 15 (by decide)
  have q288 : (IntKind.wrap .i32 ((bxor .i32 (shrZ .i32 (vX x0 y0 15) 15) (shrZ .i32 (vY x0 y0 15) 31)) - (shrZ .i32 (vY x0 y0 15) 31))) = (sg (vY x0 y0 15) * (vX x0 y0 15 / 2 ^ 15)) := by rw [q287]; exact vWX H 15 (by decide)
  obtain rfl : y1095 = (sg (vY x0 y0 15) * (vX x0 y0 15 / 2 ^ 15)) := e1095.trans q288
  clear q283 q284 q285 q286 q287 q288
  intro y1096 e1096 b1096
  clear b1096
  have q289 : (shrZ .i32 (vY x0 y0 15) 31) = (dd (vY x0 y0 15)) := by exact vD H 15 (by decide)
  have q290 : (bxor .i32 16384 (shrZ .i32 (vY x0 y0 15) 31)) = (bxor .i32 16384 (dd (vY x0 y0 15))) := by rw [q289]
  have q291 : (shrZ .i32 (vY x0 y0 15) 31) = (dd (vY x0 y0 15)) := by exact vD H 15 (by decide)
  have q292 : ((bxor .i32 16384 (shrZ .i32 (vY x0 y0 15) 31)) - (shrZ .i32 (vY x0 y0 15) 31)) = (sg (vY x0 y0 15) * 16384) := by rw [q290, q291]; exact flip_sg _ (by decide) (by decide)
  have q293 : (IntKind.wrap .i32 ((bxor .i32 16384 (shrZ .i32 (vY x0 y0 15) 31)) - (shrZ .i32 (vY x0 y0 15) 31))) = (sg (vY x0 y0 15) * 16384) := by rw [q292]; exact wrap_sg _ (by decide) (by decide)
  obtain rfl : y1096 = (sg (vY x0 y0 15) * 16384) := e1096.trans q293
  clear q289 q290 q291 q292 q293
  intro y1097 e1097 b1097
  clear b1097
  have q294 : (IntKind.wrap .i32 ((vA x0 y0 14) + (sg (vY x0 y0 14) * 32768))) = (vA x0 y0 15) := by exact vNA H 14 (by decide) rfl
  have q295 : ((IntKind.wrap .i32 ((vA x0 y0 14) + (sg (vY x0 y0 14) * 32768))) + (sg (vY x0 y0 15) * 16384)) = ((vA x0 y0 15) + (sg (vY x0 y0 15) * 16384)) := by rw [q294]
  have q296 : (IntKind.wrap .i32 ((IntKind.wrap .i32 ((vA x0 y0 14) + (sg (vY x0 y0 14) * 32768))) + (sg (vY x0 y0 15) * 16384))) = (vA x0 y0 16) := by rw [q295]; exact vNA H 15 (by decide) rfl
  obtain rfl : y1097 = (vA x0 y0 16) := e1097.trans q296
  clear q294 q295 q296
  intro y1098 e1098 b1098
  clear b1098
  have q297 : (IntKind.wrap .i32 ((vY x0 y0 15) - (sg (vY x0 y0 15) * (vX x0 y0 15 / 2 ^ 15)))) = (vY x0 y0 16) := by exact vNY H 15 (by decide)
  have q298 : (shrZ .i32 (IntKind.wrap .i32 ((vY x0 y0 15) - (sg (vY x0 y0 15) * (vX x0 y0 15 / 2 ^ 15)))) 31) = (dd (vY x0 y0 16)) := by rw [q297]; exact vD H 16 (by decide)
  obtain rfl : y1098 = (dd (vY x0 y0 16)) := e1098.trans q298
  clear q297 q298
  intro y1099 e1099 b1099
  clear b1099
  have q299 : (IntKind.wrap .i32 ((vY x0 y0 15) - (sg (vY x0 y0 15) * (vX x0 y0 15 / 2 ^ 15)))) = (vY x0 y0 16) := by exact vNY H 15 (by decide)
  have q300 : (shrZ .i32 (IntKind.wrap .i32 ((vY x0 y0 15) - (sg (vY x0 y0 15) * (vX x0 y0 15 / 2 ^ 15)))) 16) = (vY x0 y0 16 / 2 ^ 16) := by rw [q299]; exact vSY H 16 (by decide) rfl
  obtain rfl : y1099 = (vY x0 y0 16 / 2 ^ 16) := e1099.trans q300
  clear q299 q300
  intro y1100 e1100 b1100
  clear b1100
  have q301 : ((bxor .i32 (vY x0 y0 16 / 2 ^ 16) (dd (vY x0 y0 16))) - (dd (vY x0 y0 16))) = (sg (vY x0 y0 16) * (vY x0 y0 16 / 2 ^ 16)) := by exact vFY H 16 (by decide)
  have q302 : (IntKind.wrap .i32 ((bxor .i32 (vY x0 y0 16 / 2 ^ 16) (dd (vY x0 y0 16))) - (dd (vY x0 y0 16)))) = (sg (vY x0 y0 16) * (vY x0 y0 16 / 2 ^ 16)) := by rw [q301]; exact vWY H 16 (by decide)
  obtain rfl : y1100 = (sg (vY x0 y0 16) * (vY x0 y0 16 / 2 ^ 16)) := e1100.trans q302
  clear q301 q302
  intro y1101 e1101 b1101
  clear b1101
  have q303 : (IntKind.wrap .i32 ((vX x0 y0 15) + (sg (vY x0 y0 15) * (vY x0 y0 15 / 2 ^ 15)))) = (vX x0 y0 16) := by exact vNX H 15 (by decide)
  have q304 : ((IntKind.wrap .i32 ((vX x0 y0 15) + (sg (vY x0 y0 15) * (vY x0 y0 15 / 2 ^ 15)))) + (sg (vY x0 y0 16) * (vY x0 y0 16 / 2 ^ 16))) = ((vX x0 y0 16) + (sg (vY x0 y0 16) * (vY x0 y0 16 / 2 ^ 16))) := by rw [q303]
  have q305 : (IntKind.wrap .i32 ((IntKind.wrap .i32 ((vX x0 y0 15) + (sg (vY x0 y0 15) * (vY x0 y0 15 / 2 ^ 15)))) + (sg (vY x0 y0 16) * (vY x0 y0 16 / 2 ^ 16)))) = (vX x0 y0 17) := by rw [q304]; exact vNX H 16 (by decide)
  obtain rfl : y1101 = (vX x0 y0 17) := e1101.trans q305
  clear q303 q304 q305
  intro y1102 e1102 b1102
  clear b1102
  have q306 : (IntKind.wrap .i32 ((vX x0 y0 15) + (sg (vY x0 y0 15) * (vY x0 y0 15 / 2 ^ 15)))) = (vX x0 y0 16) := by exact vNX H 15 (by decide)
  have q307 : (shrZ .i32 (IntKind.wrap .i32 ((vX x0 y0 15) + (sg (vY x0 y0 15) * (vY x0 y0 15 / 2 ^ 15)))) 16) = (vX x0 y0 16 / 2 ^ 16) := by rw [q306]; exact vSX H 16 (by decide) rfl
  obtain rfl : y1102 = (vX x0 y0 16 / 2 ^ 16) := e1102.trans q307
  clear q306 q307
  intro y1103 e1103 b1103
  clear b1103
  have q308 : ((bxor .i32 (vX x0 y0 16 / 2 ^ 16) (dd (vY x0 y0 16))) - (dd (vY x0 y0 16))) = (sg (vY x0 y0 16) * (vX x0 y0 16 / 2 ^ 16)) := by exact vFX H 16 (by decide)
  have q309 : (IntKind.wrap .i32 ((bxor .i32 (vX x0 y0 16 / 2 ^ 16) (dd (vY x0 y0 16))) - (dd (vY x0 y0 16)))) = (sg (vY x0 y0 16) * (vX x0 y0 16 / 2 ^ 16)) := by rw [q308]; exact vWX H 16 (by decide)
  obtain rfl : y1103 = (sg (vY x0 y0 16) * (vX x0 y0 16 / 2 ^ 16)) := e1103.trans q309
  clear q308 q309
  intro y1104 e1104 b1104
  clear b1104
  have q310 : (IntKind.wrap .i32 ((vY x0 y0 15) - (sg (vY x0 y0 15) * (vX x0 y0 15 / 2 ^ 15)))) = (vY x0 y0 16) := by exact vNY H 15 (by decide)
  have q311 : ((IntKind.wrap .i32 ((vY x0 y0 15) - (sg (vY x0 y0 15) * (vX x0 y0 15 / 2 ^ 15)))) - (sg (vY x0 y0 16) * (vX x0 y0 16 / 2 ^ 16))) = ((vY x0 y0 16) - (sg (vY x0 y0 16) * (vX x0 y0 16 / 2 ^ 16))) := by rw [q310]
  have q312 : (IntKind.wrap .i32 ((IntKind.wrap .i32 ((vY x0 y0 15) - (sg (vY x0 y0 15) * (vX x0 y0 15 / 2 ^ 15)))) - (sg (vY x0 y0 16) * (vX x0 y0 16 / 2 ^ 16)))) = (vY x0 y0 17) := by rw [q311]; exact vNY H 16 (by decide)
  obtain rfl : y1104 = (vY x0 y0 17) := e1104.trans q312
  clear q310 q311 q312
  intro y1105 e1105 b1105
  clear b1105
  have q313 : ((bxor .i32 8192 (dd (vY x0 y0 16))) - (dd (vY x0 y0 16))) = (sg (vY x0 y0 16) * 8192) := by exact flip_sg _ (by decide) (by decide)
  have q314 : (IntKind.wrap .i32 ((bxor .i32 8192 (dd (vY x0 y0 16))) - (dd (vY x0 y0 16)))) = (sg (vY x0 y0 16) * 8192) := by rw [q313]; exact wrap_sg _ (by decide) (by decide)
  obtain rfl : y1105 = (sg (vY x0 y0 16) * 8192) := e1105.trans q314
  clear q313 q314
  intro y1106 e1106 b1106
  clear b1106
  have q315 : (shrZ .i32 (vY x0 y0 17) 17) = (vY x0 y0 17 / 2 ^ 17) := by exact vSY H 17 (by decide) rfl
  have q316 : (shrZ .i32 (vY x0 y0 17) 31) = (dd (vY x0 y0 17)) := by exact vD H 17 (by decide)
  have q317 : (bxor .i32 (shrZ .i32 (vY x0 y0 17) 17) (shrZ .i32 (vY x0 y0 17) 31)) = (bxor .i32 (vY x0 y0 17 / 2 ^ 17) (dd (vY x0 y0 17))) := by rw [q315, q316]
  have q318 : (shrZ .i32 (vY x0 y0 17) 31) = (dd (vY x0 y0 17)) := by exact vD H 17 (by decide)
  have q319 : ((bxor .i32 (shrZ .i32 (vY x0 y0 17) 17) (shrZ .i32 (vY x0 y0 17) 31)) - (shrZ .i32 (vY x0 y0 17) 31)) = (sg (vY x0 y0 17) * (vY x0 y0 17 / 2 ^ 17)) := by rw [q317, q318]; exact vFY H 17 (by decide)
  have q320 : (IntKind.wrap .i32 ((bxor .i32 (shrZ .i32 (vY x0 y0 17) 17) (shrZ .i32 (vY x0 y0 17) 31)) - (shrZ .i32 (vY x0 y0 17) 31))) = (sg (vY x0 y0 17) * (vY x0 y0 17 / 2 ^ 17)) := by rw [q319]; exact vWY H 17 (by decide)
  obtain rfl : y1106 = (sg (vY x0 y0 17) * (vY x0 y0 17 / 2 ^ 17)) := e1106.trans q320
  clear q315 q316 q317 q318 q319 q320
  intro y1107 e1107 b1107
  clear b1107
  have q321 : (shrZ .i32 (vX x0 y0 17) 17) = (vX x0 y0 17 / 2 ^ 17) := by exact vSX H 17 (by decide) rfl
  have q322 : (shrZ .i32 (vY x0 y0 17) 31) = (dd (vY x0 y0 17)) := by exact vD H 17 (by decide)
  have q323 : (bxor .i32 (shrZ .i32 (vX x0 y0 17) 17) (shrZ .i32 (vY x0 y0 17) 31)) = (bxor .i32 (vX x0 y0 17 / 2 ^ 17) (dd (vY x0 y0 17))) := by rw [q321, q322]
  have q324 : (shrZ .i32 (vY x0 y0 17) 31) = (dd (vY x0 y0 17)) := by exact vD H 17 (by decide)
  have q325 : ((bxor .i32 (shrZ .i32 (vX x0 y0 17) 17) (shrZ .i32 (vY x0 y0 17) 31)) - (shrZ .i32 (vY x0 y0 17) 31)) = (sg (vY x0 y0 17) * (vX x0 y0 17 / 2 ^ 17)) := by rw [q323, q324]; exact vFX H 17 (by decide)
  have q326 : (IntKind.wrap .i32 ((bxor .i32 (shrZ .i32 (vX x0 y0 17) 17) (shrZ .i32 (vY x0 y0 17) 31)) - (shrZ .i32 (vY x0 y0 17) 31))) = (sg (vY x0 y0 17) * (vX x0 y0 17 / 2 ^ 17)) := by rw [q325]; exact vWX H 17 (by decide)
  obtain rfl : y1107 = (sg (vY x0 y0 17) * (vX x0 y0 17 / 2 ^ 17)) := e1107.trans q326
  clear q321 q322 q323 q324 q325 q326
  intro y1108 e1108 b1108
  clear b1108
  have q327 : (shrZ .i32 (vY x0 y0 17) 31) = (dd (vY x0 y0 17)) := by exact vD H 17 (by decide)
  have q328 : (bxor .i32 4096 (shrZ .i32 (vY x0 y0 17) 31)) = (bxor .i32 4096 (dd (vY x0 y0 17))) := by rw [q327]
  have q329 : (shrZ .i32 (vY x0 y0 17) 31) = (dd (vY x0 y0 17)) := by exact vD H 17 (by decide)
  have q330 : ((bxor .i32 4096 (shrZ .i32 (vY x0 y0 17) 31)) - (shrZ .i32 (vY x0 y0 17) 31)) = (sg (vY x0 y0 17) * 4096) := by rw [q328, q329]; exact flip_sg _ (by decide) (by decide)
  have q331 : (IntKind.wrap .i32 ((bxor .i32 4096 (shrZ .i32 (vY x0 y0 17) 31)) - (shrZ .i32 (vY x0 y0 17) 31))) = (sg (vY x0 y0 17) * 4096) := by rw [q330]; exact wrap_sg _ (by decide) (by decide)
  obtain rfl : y1108 = (sg (vY x0 y0 17) * 4096) := e1108.trans q331
  clear q327 q328 q329 q330 q331
  intro y1109 e1109 b1109
  clear b1109
  have q332 : (IntKind.wrap .i32 ((vA x0 y0 16) + (sg (vY x0 y0 16) * 8192))) = (vA x0 y0 17) := by exact vNA H 16 (by decide) rfl
  have q333 : ((IntKind.wrap .i32 ((vA x0 y0 16) + (sg (vY x0 y0 16) * 8192))) + (sg (vY x0 y0 17) * 4096)) = ((vA x0 y0 17) + (sg (vY x0 y0 17) * 4096)) := by rw [q332]
  have q334 : (IntKind.wrap .i32 ((IntKind.wrap .i32 ((vA x0 y0 16) + (sg (vY x0 y0 16) * 8192))) + (sg (vY x0 y0 17) * 4096))) = (vA x0 y0 18) := by rw [q333]; exact vNA H 17 (by decide) rfl
  obtain rfl : y1109 = (vA x0 y0 18) := e1109.trans q334
  clear q332 q333 q334
  intro y1110 e1110 b1110
  clear b1110
  have q335 : (IntKind.wrap .i32 ((vY x0 y0 17) - (sg (vY x0 y0 17) * (vX x0 y0 17 / 2 ^ 17)))) = (vY x0 y0 18) := by exact vNY H 17 (by decide)
  have q336 : (shrZ .i32 (IntKind.wrap .i32 ((vY x0 y0 17) - (sg (vY x0 y0 17) * (vX x0 y0 17 / 2 ^ 17)))) 31) = (dd (vY x0 y0 18)) := by rw [q335]; exact vD H 18 (by decide)
  obtain rfl : y1110 = (dd (vY x0 y0 18)) := e1110.trans q336
  clear q335 q336
  intro y1111 e1111 b1111
  clear b1111
  have q337 : (IntKind.wrap .i32 ((vY x0 y0 17) - (sg (vY x0 y0 17) * (vX x0 y0 17 / 2 ^ 17)))) = (vY x0 y0 18) := by exact vNY H 17 (by decide)
  have q338 : (shrZ .i32 (IntKind.wrap .i32 ((vY x0 y0 17) - (sg (vY x0 y0 17) * (vX x0 y0 17 / 2 ^ 17)))) 18) = (vY x0 y0 18 / 2 ^ 18) := by rw [q337]; exact vSY H 18 (by decide) rfl
  obtain rfl : y1111 = (vY x0 y0 18 / 2 ^ 18) := e1111.trans q338
  clear q337 q338
  intro y1112 e1112 b1112
  clear b1112
  have q339 : ((bxor .i32 (vY x0 y0 18 / 2 ^ 18) (dd (vY x0 y0 18))) - (dd (vY x0 y0 18))) = (sg (vY x0 y0 18) * (vY x0 y0 18 / 2 ^ 18)) := by exact vFY H 18 (by decide)
  have q340 : (IntKind.wrap .i32 ((bxor .i32 (vY x0 y0 18 / 2 ^ 18) (dd (vY x0 y0 18))) - (dd (vY x0 y0 18)))) = (sg (vY x0 y0 18) * (vY x0 y0 18 / 2 ^ 18)) := by rw [q339]; exact vWY H 18 (by decide)
  obtain rfl : y1112 = (sg (vY x0 y0 18) * (vY x0 y0 18 / 2 ^ 18)) := e1112.trans q340
  clear q339 q340
  intro y1113 e1113 b1113
  clear b1113
  have q341 : (IntKind.wrap .i32 ((vX x0 y0 17) + (sg (vY x0 y0 17) * (vY x0 y0 17 / 2 ^ 17)))) = (vX x0 y0 18) := by exact vNX H 17 (by decide)
  have q342 : ((IntKind.wrap .i32 ((vX x0 y0 17) + (sg (vY x0 y0 17) * (vY x0 y0 17 / 2 ^ 17)))) + (sg (vY x0 y0 18) * (vY x0 y0 18 / 2 ^ 18))) = ((vX x0 y0 18) + (sg (vY x0 y0 18) * (vY x0 y0 18 / 2 ^ 18))) := by rw [q341]
  have q343 : (IntKind.wrap .i32 ((IntKind.wrap .i32 ((vX x0 y0 17) + (sg (vY x0 y0 17) * (vY x0 y0 17 / 2 ^ 17)))) + (sg (vY x0 y0 18) * (vY x0 y0 18 / 2 ^ 18)))) = (vX x0 y0 19) := by rw [q342]; exact vNX H 18 (by decide)
  obtain rfl : y1113 = (vX x0 y0 19) := e1113.trans q343
  clear q341 q342 q343
  intro y1114 e1114 b1114
  clear b1114
  have q344 : (IntKind.wrap .i32 ((vX x0 y0 17) + (sg (vY x0 y0 17) * (vY x0 y0 17 / 2 ^ 17)))) = (vX x0 y0 18) := by exact vNX H 17 (by decide)
  have q345 : (shrZ .i32 (IntKind.wrap .i32 ((vX x0 y0 17) + (sg (vY x0 y0 17) * (vY x0 y0 17 / 2 ^ 17)))) 18) = (vX x0 y0 18 / 2 ^ 18) := by rw [q344]; exact vSX H 18 (by decide) rfl
  obtain rfl : y1114 = (vX x0 y0 18 / 2 ^ 18) := e1114.trans q345
  clear q344 q345
  intro y1115 e1115 b1115
  clear b1115
  have q346 : ((bxor .i32 (vX x0 y0 18 / 2 ^ 18) (dd (vY x0 y0 18))) - (dd (vY x0 y0 18))) = (sg (vY x0 y0 18) * (vX x0 y0 18 / 2 ^ 18)) := by exact vFX H 18 (by decide)
  have q347 : (IntKind.wrap .i32 ((bxor .i32 (vX x0 y0 18 / 2 ^ 18) (dd (vY x0 y0 18))) - (dd (vY x0 y0 18)))) = (sg (vY x0 y0 18) * (vX x0 y0 18 / 2 ^ 18)) := by rw [q346]; exact vWX H 18 (by decide)
  obtain rfl : y1115 = (sg (vY x0 y0 18) * (vX x0 y0 18 / 2 ^ 18)) := e1115.trans q347
  clear q346 q347
  intro y1116 e1116 b1116
  clear b1116
  have q348 : (IntKind.wrap .i32 ((vY x0 y0 17) - (sg (vY x0 y0 17) * (vX x0 y0 17 / 2 ^ 17)))) = (vY x0 y0 18) := by exact vNY H 17 (by decide)
  have q349 : ((IntKind.wrap .i32 ((vY x0 y0 17) - (sg (vY x0 y0 17) * (vX x0 y0 17 / 2 ^ 17)))) - (sg (vY x0 y0 18) * (vX x0 y0 18 / 2 ^ 18))) = ((vY x0 y0 18) - (sg (vY x0 y0 18) * (vX x0 y0 18 / 2 ^ 18))) := by rw [q348]
  have q350 : (IntKind.wrap .i32 ((IntKind.wrap .i32 ((vY x0 y0 17) - (sg (vY x0 y0 17) * (vX x0 y0 17 / 2 ^ 17)))) - (sg (vY x0 y0 18) * (vX x0 y0 18 / 2 ^ 18)))) = (vY x0 y0 19) := by rw [q349]; exact vNY H 18 (by decide)
  obtain rfl : y1116 = (vY x0 y0 19) := e1116.trans q350
  clear q348 q349 q350
  intro y1117 e1117 b1117
  clear b1117
  have q351 : ((bxor .i32 2048 (dd (vY x0 y0 18))) - (dd (vY x0 y0 18))) = (sg (vY x0 y0 18) * 2048) := by exact flip_sg _ (by decide) (by decide)
  have q352 : (IntKind.wrap .i32 ((bxor .i32 2048 (dd (vY x0 y0 18))) - (dd (vY x0 y0 18)))) = (sg (vY x0 y0 18) * 2048) := by rw [q351]; exact wrap_sg _ (by decide) (by decide)
  obtain rfl : y1117 = (sg (vY x0 y0 18) * 2048) := e1117.trans q352
  clear q351 q352
  intro y1118 e1118 b1118
  clear b1118
  have q353 : (shrZ .i32 (vY x0 y0 19) 19) = (vY x0 y0 19 / 2 ^ 19) := by exact vSY H 19 (by decide) rfl
  have q354 : (shrZ .i32 (vY x0 y0 19) 31) = (dd (vY x0 y0 19)) := by exact vD H 19 (by decide)
  have q355 : (bxor .i32 (shrZ .i32 (vY x0 y0 19) 19) (shrZ .i32 (vY x0 y0 19) 31)) = (bxor .i32 (vY x0 y0 19 / 2 ^ 19) (dd (vY x0 y0 19))) := by rw [q353, q354]
  have q356 : (shrZ .i32 (vY x0 y0 19) 31) = (dd (vY x0 y0 19)) := by exact vD H 19 (by decide)
  have q357 : ((bxor .i32 (shrZ .i32 (vY x0 y0 19) 19) (shrZ .i32 (vY x0 y0 19) 31)) - (shrZ .i32 (vY x0 y0 19) 31)) = (sg (vY x0 y0 19) * (vY x0 y0 19 / 2 ^ 19)) := by rw [q355, q356]; exact vFY H 19 (by decide)
  have q358 : (IntKind.wrap .i32 ((bxor .i32 (shrZ .i32 (vY x0 y0 19) 19) (shrZ .i32 (vY x0 y0 19) 31)) - (shrZ .i32 (vY x0 y0 19) 31))) = (sg (vY x0 y0 19) * (vY x0 y0 19 / 2 ^ 19)) := by rw [q357]; exact vWY H 19 (by decide)
  obtain rfl : y1118 = (sg (vY x0 y0 19) * (vY x0 y0 19 / 2 ^ 19)) := e1118.trans q358
  clear q353 q354 q355 q356 q357 q358
  intro y1119 e1119 b1119
  clear b1119
  have q359 : (shrZ .i32 (vX x0 y0 19) 19) = (vX x0 y0 19 / 2 ^ 19) := by exact vSX H 19 (by decide) rfl
  have q360 : (shrZ .i32 (vY x0 y0 19) 31) = (dd (vY x0 y0 19)) := by exact vD H 19 (by decide)
  have q361 : (bxor .i32 (shrZ .i32 (vX x0 y0 19) 19) (shrZ .i32 (vY x0 y0 19) 31)) = (bxor .i32 (vX x0 y0 19 / 2 ^ 19) (dd (vY x0 y0 19))) := by rw [q359, q360]
  have q362 : (shrZ .i32 (vY x0 y0 19) 31) = (dd (vY x0 y0 19)) := by exact vD H 19 (by decide)
  have q363 : ((bxor .i32 (shrZ .i32 (vX x0 y0 19) 19) (shrZ .i32 (vY x0 y0 19) 31)) - (shrZ .i32 (vY x0 y0 19) 31)) = (sg (vY x0 y0 19) * (vX x0 y0 19 / 2 ^ 19)) := by rw [q361, q362]; exact vFX H 19 (by decide)
  have q364 : (IntKind.wrap .i32 ((bxor .i32 (shrZ .i32 (vX x0 y0 19) 19) (shrZ .i32 (vY x0 y0 19) 31)) - (shrZ .i32 (vY x0 y0 19) 31))) = (sg (vY x0 y0 19) * (vX x0 y0 19 / 2 ^ 19)) := by rw [q363]; exact vWX H 19 (by decide)
  obtain rfl : y1119 = (sg (vY x0 y0 19) * (vX x0 y0 19 / 2 ^ 19)) := e1119.trans q364
  clear q359 q360 q361 q362 q363 q364
  intro y1120 e1120 b1120
  clear b1120
  have q365 : (shrZ .i32 (vY x0 y0 19) 31) = (dd (vY x0 y0 19)) := by exact vD H 19 (by decide)
  have q366 : (bxor .i32 1024 (shrZ .i32 (vY x0 y0 19) 31)) = (bxor .i32 1024 (dd (vY x0 y0 19))) := by rw [q365]
  have q367 : (shrZ .i32 (vY x0 y0 19) 31) = (dd (vY x0 y0 19)) := by exact vD H 19 (by decide)
  have q368 : ((bxor .i32 1024 (shrZ .i32 (vY x0 y0 19) 31)) - (shrZ .i32 (vY x0 y0 19) 31)) = (sg (vY x0 y0 19) * 1024) := by rw [q366, q367]; exact flip_sg _ (by decide) (by decide)
  have q369 : (IntKind.wrap .i32 ((bxor .i32 1024 (shrZ .i32 (vY x0 y0 19) 31)) - (shrZ .i32 (vY x0 y0 19) 31))) = (sg (vY x0 y0 19) * 1024) := by rw [q368]; exact wrap_sg _ (by decide) (by decide)
  obtain rfl : y1120 = (sg (vY x0 y0 19) * 1024) := e1120.trans q369
  clear q365 q366 q367 q368 q369
  intro y1121 e1121 b1121
  clear b1121
  have q370 : (IntKind.wrap .i32 ((vA x0 y0 18) + (sg (vY x0 y0 18) * 2048))) = (vA x0 y0 19) := by exact vNA H 18 (by decide) rfl
  have q371 : ((IntKind.wrap .i32 ((vA x0 y0 18) + (sg (vY x0 y0 18) * 2048))) + (sg (vY x0 y0 19) * 1024)) = ((vA x0 y0 19) + (sg (vY x0 y0 19) * 1024)) := by rw [q370]
  have q372 : (IntKind.wrap .i32 ((IntKind.wrap .i32 ((vA x0 y0 18) + (sg (vY x0 y0 18) * 2048))) + (sg (vY x0 y0 19) * 1024))) = (vA x0 y0 20) := by rw [q371]; exact vNA H 19 (by decide) rfl
  obtain rfl : y1121 = (vA x0 y0 20) := e1121.trans q372
  clear q370 q371 q372
  intro y1122 e1122 b1122
  clear b1122
  have q373 : (IntKind.wrap .i32 ((vY x0 y0 19) - (sg (vY x0 y0 19) * (vX x0 y0 19 / 2 ^ 19)))) = (vY x0 y0 20) := by exact vNY H 19 (by decide)
  have q374 : (shrZ .i32 (IntKind.wrap .i32 ((vY x0 y0 19) - (sg (vY x0 y0 19) * (vX x0 y0 19 / 2 ^ 19)))) 31) = (dd (vY x0 y0 20)) := by rw [q373]; exact vD H 20 (by decide)
  obtain rfl : y1122 = (dd (vY x0 y0 20)) := e1122.trans q374
  clear q373 q374
  intro y1123 e1123 b1123
  clear b1123
  have q375 : (IntKind.wrap .i32 ((vY x0 y0 19) - (sg (vY x0 y0 19) * (vX x0 y0 19 / 2 ^ 19)))) = (vY x0 y0 20) := by exact vNY H 19 (by decide)
  have q376 : (shrZ .i32 (IntKind.wrap .i32 ((vY x0 y0 19) - (sg (vY x0 y0 19) * (vX x0 y0 19 / 2 ^ 19)))) 20) = (vY x0 y0 20 / 2 ^ 20) := by rw [q375]; exact vSY H 20 (by decide) rfl
  obtain rfl : y1123 = (vY x0 y0 20 / 2 ^ 20) := e1123.trans q376
  clear q375 q376
  intro y1124 e1124 b1124
  clear b1124
  have q377 : ((bxor .i32 (vY x0 y0 20 / 2 ^ 20) (dd (vY x0 y0 20))) - (dd (vY x0 y0 20))) = (sg (vY x0 y0 20) * (vY x0 y0 20 / 2 ^ 20)) := by exact vFY H 20 (by decide)
  have q378 : (IntKind.wrap .i32 ((bxor .i32 (vY x0 y0 20 / 2 ^ 20) (dd (vY x0 y0 20))) - (dd (vY x0 y0 20)))) = (sg (vY x0 y0 20) * (vY x0 y0 20 / 2 ^ 20)) := by rw [q377]; exact vWY H 20 (by decide)
  obtain rfl : y1124 = (sg (vY x0 y0 20) * (vY x0 y0 20 / 2 ^ 20)) := e1124.trans q378
  clear q377 q378
  intro y1125 e1125 b1125
  clear b1125
  have q379 : (IntKind.wrap .i32 ((vX x0 y0 19) + (sg (vY x0 y0 19) * (vY x0 y0 19 / 2 ^ 19)))) = (vX x0 y0 20) := by exact vNX H 19 (by decide)
  have q380 : ((IntKind.wrap .i32 ((vX x0 y0 19) + (sg (vY x0 y0 19) * (vY x0 y0 19 / 2 ^ 19)))) + (sg (vY x0 y0 20) * (vY x0 y0 20 / 2 ^ 20))) = ((vX x0 y0 20) + (sg (vY x0 y0 20) * (vY x0 y0 20 / 2 ^ 20))) := by rw [q379]
  have q381 : (IntKind.wrap .i32 ((IntKind.wrap .i32 ((vX x0 y0 19) + (sg (vY x0 y0 19) * (vY x0 y0 19 / 2 ^ 19)))) + (sg (vY x0 y0 20) * (vY x0 y0 20 / 2 ^ 20)))) = (vX x0 y0 21) := by rw [q380]; exact vNX H 20 (by decide)
  obtain rfl : y1125 = (vX x0 y0 21) := e1125.trans q381
  clear q379 q380 q381
  intro y1126 e1126 b1126
  clear b1126
  have q382 : (IntKind.wrap .i32 ((vX x0 y0 19) + (sg (vY x0 y0 19) * (vY x0 y0 19 / 2 ^ 19)))) = (vX x0 y0 20) := by exact vNX H 19 (by decide)
  have q383 : (shrZ .i32 (IntKind.wrap .i32 ((vX x0 y0 19) + (sg (vY x0 y0 19) * (vY x0 y0 19 / 2 ^ 19)))) 20) = (vX x0 y0 20 / 2 ^ 20) := by rw [q382]; exact vSX H 20 (by decide) rfl
  obtain rfl : y1126 = (vX x0 y0 20 / 2 ^ 20) := e1126.trans q383
  clear q382 q383
  intro y1127 e1127 b1127
  clear b1127
  have q384 : ((bxor .i32 (vX x0 y0 20 / 2 ^ 20) (dd (vY x0 y0 20))) - (dd (vY x0 y0 20))) = (sg (vY x0 y0 20) * (vX x0 y0 20 / 2 ^ 20)) := by exact vFX H 20 (by decide)
  have q385 : (IntKind.wrap .i32 ((bxor .i32 (vX x0 y0 20 / 2 ^ 20) (dd (vY x0 y0 20))) - (dd (vY x0 y0 20)))) = (sg (vY x0 y0 20) * (vX x0 y0 20 / 2 ^ 20)) := by rw [q384]; exact vWX H 20 (by decide)
  obtain rfl : y1127 = (sg (vY x0 y0 20) * (vX x0 y0 20 / 2 ^ 20)) := e1127.trans q385
  clear q384 q385
  intro y1128 e1128 b1128
  clear b1128
  have q386 : (IntKind.wrap .i32 ((vY x0 y0 19) - (sg (vY x0 y0 19) * (vX x0 y0 19 / 2 ^ 19)))) = (vY x0 y0 20) := by exact vNY H 19 (by decide)
  have q387 : ((IntKind.wrap .i32 ((vY x0 y0 19) - (sg (vY x0 y0 19) * (vX x0 y0 19 / 2 ^ 19)))) - (sg (vY x0 y0 20) * (vX x0 y0 20 / 2 ^ 20))) = ((vY x0 y0 20) - (sg (vY x0 y0 20) * (vX x0 y0 20 / 2 ^ 20))) := by rw [q386]
  have q388 : (IntKind.wrap .i32 ((IntKind.wrap .i32 ((vY x0 y0 19) - (sg (vY x0 y0 19) * (vX x0 y0 19 / 2 ^ 19)))) - (sg (vY x0 y0 20) * (vX x0 y0 20 / 2 ^ 20)))) = (vY x0 y0 21) := by rw [q387]; exact vNY H 20 (by decide)
  obtain rfl : y1128 = (vY x0 y0 21) := e1128.trans q388
  clear q386 q387 q388
  intro y1129 e1129 b1129
  clear b1129
  have q389 : ((bxor .i32 512 (dd (vY x0 y0 20))) - (dd (vY x0 y0 20))) = (sg (vY x0 y0 20) * 512) := by exact flip_sg _ (by decide) (by decide)
  have q390 : (IntKind.wrap .i32 ((bxor .i32 512 (dd (vY x0 y0 20))) - (dd (vY x0 y0 20)))) = (sg (vY x0 y0 20) * 512) := by rw [q389]; exact wrap_sg _ (by decide) (by decide)
  obtain rfl : y1129 = (sg (vY x0 y0 20) * 512) := e1129.trans q390
  clear q389 q390
  intro y1130 e1130 b1130
  clear b1130
  have q391 : (shrZ .i32 (vY x0 y0 21) 21) = (vY x0 y0 21 / 2 ^ 21) := by exact vSY H 21 (by decide) rfl
  have q392 : (shrZ .i32 (vY x0 y0 21) 31) = (dd (vY x0 y0 21)) := by exact vD H 21 (by decide)
  have q393 : (bxor .i32 (shrZ .i32 (vY x0 y0 21) 21) (shrZ .i32 (vY x0 y0 21) 31)) = (bxor .i32 (vY x0 y0 21 / 2 ^ 21) (dd (vY x0 y0 21))) := by rw [q391, q392]
  have q394 : (shrZ .i32 (vY x0 y0 21) 31) = (dd (vY x0 y0 21)) := by exact vD H 21 (by decide)
  have q395 : ((bxor .i32 (shrZ .i32 (vY x0 y0 21) 21) (shrZ .i32 (vY x0 y0 21) 31)) - (shrZ .i32 (vY x0 y0 21) 31)) = (sg (vY x0 y0 21) * (vY x0 y0 21 / 2 ^ 21)) := by rw [q393, q394]; exact vFY H 21 (by decide)
  have q396 : (IntKind.wrap .i32 ((bxor .i32 (shrZ .i32 (vY x0 y0 21) 21) (shrZ .i32 (vY x0 y0 21) 31)) - (shrZ .i32 (vY x0 y0 21) 31))) = (sg (vY x0 y0 21) * (vY x0 y0 21 / 2 ^ 21)) := by rw [q395]; exact vWY H 21 (by decide)
  obtain rfl : y1130 = (sg (vY x0 y0 21) * (vY x0 y0 21 / 2 ^ 21)) := e1130.trans q396
  clear q391 q392 q393 q394 q395 q396
  intro y1131 e1131 b1131
  clear b1131
  have q397 : (shrZ .i32 (vX x0 y0 21) 21) = (vX x0 y0 21 / 2 ^ 21) := by exact vSX H 21 (by decide) rfl
  have q398 : (shrZ .i32 (vY x0 y0 21) 31) = (dd (vY x0 y0 21)) := by exact vD H 21 (by decide)
  have q399 : (bxor .i32 (shrZ .i32 (vX x0 y0 21) 21) (shrZ .i32 (vY x0 y0 21) 31)) = (bxor .i32 (vX x0 y0 21 / 2 ^ 21) (dd (vY x0 y0 21))) := by rw [q397, q398]
  have q400 : (shrZ .i32 (vY x0 y0 21) 31) = (dd (vY x0 y0 21)) := by exact vD H 21 (by decide)
  have q401 : ((bxor .i32 (shrZ .i32 (vX x0 y0 21) 21) (shrZ .i32 (vY x0 y0 21) 31)) - (shrZ .i32 (vY x0 y0 21) 31)) = (sg (vY x0 y0 21) * (vX x0 y0 21 / 2 ^ 21)) := by rw [q399, q400]; exact vFX H 21 (by decide)
  have q402 : (IntKind.wrap .i32 ((bxor .i32 (shrZ .i32 (vX x0 y0 21) 21) (shrZ .i32 (vY x0 y0 21) 31)) - (shrZ .i32 (vY x0 y0 21) 31))) = (sg (vY x0 y0 21) * (vX x0 y0 21 / 2 ^ 21)) := by rw [q401]; exact vWX H 21 (by decide)
  obtain rfl : y1131 = (sg (vY x0 y0 21) * (vX x0 y0 21 / 2 ^ 21)) := e1131.trans q402
  clear q397 q398 q399 q400 q401 q402
  intro y1132 e1132 b1132
  clear b1132
  have q403 : (shrZ .i32 (vY x0 y0 21) 31) = (dd (vY x0 y0 21)) := by exact vD H 21 (by decide)
  have q404 : (bxor .i32 256 (shrZ .i32 (vY x0 y0 21) 31)) = (bxor .i32 256 (dd (vY x0 y0 21))) := by rw [q403]
  have q405 : (shrZ .i32 (vY x0 y0 21) 31) = (dd (vY x0 y0 21)) := by exact vD H 21 (by decide)
  have q406 : ((bxor .i32 256 (shrZ .i32 (vY x0 y0 21) 31)) - (shrZ .i32 (vY x0 y0 21) 31)) = (sg (vY x0 y0 21) * 256) := by rw [q404, q405]; exact flip_sg _ (by decide) (by decide)
  have q407 : (IntKind.wrap .i32 ((bxor .i32 256 (shrZ .i32 (vY x0 y0 21) 31)) - (shrZ .i32 (vY x0 y0 21) 31))) = (sg (vY x0 y0 21) * 256) := by rw [q406]; exact wrap_sg _ (by decide) (by decide)
  obtain rfl : y1132 = (sg (vY x0 y0 21) * 256) := e1132.trans q407
  clear q403 q404 q405 q406 q407
  intro y1133 e1133 b1133
  clear b1133
  have q408 : (IntKind.wrap .i32 ((vA x0 y0 20) + (sg (vY x0 y0 20) * 512))) = (vA x0 y0 21) := by exact vNA H 20 (by decide) rfl
  have q409 : ((IntKind.wrap .i32 ((vA x0 y0 20) + (sg (vY x0 y0 20) * 512))) + (sg (vY x0 y0 21) * 256)) = ((vA x0 y0 21) + (sg (vY x0 y0 21) * 256)) := by rw [q408]
  have q410 : (IntKind.wrap .i32 ((IntKind.wrap .i32 ((vA x0 y0 20) + (sg (vY x0 y0 20) * 512))) + (sg (vY x0 y0 21) * 256))) = (vA x0 y0 22) := by rw [q409]; exact vNA H 21 (by decide) rfl
  obtain rfl : y1133 = (vA x0 y0 22) := e1133.trans q410
  clear q408 q409 q410
  intro y1134 e1134 b1134
  clear b1134
  have q411 : (IntKind.wrap .i32 ((vY x0 y0 21) - (sg (vY x0 y0 21) * (vX x0 y0 21 / 2 ^ 21)))) = (vY x0 y0 22) := by exact vNY H 21 (by decide)
  have q412 : (shrZ .i32 (IntKind.wrap .i32 ((vY x0 y0 21) - (sg (vY x0 y0 21) * (vX x0 y0 21 / 2 ^ 21)))) 31) = (dd (vY x0 y0 22)) := by rw [q411]; exact vD H 22 (by decide)
  obtain rfl : y1134 = (dd (vY x0 y0 22)) := e1134.trans q412
  clear q411 q412
  intro y1135 e1135 b1135
  clear b1135
  have q413 : (IntKind.wrap .i32 ((vY x0 y0 21) - (sg (vY x0 y0 21) * (vX x0 y0 21 / 2 ^ 21)))) = (vY x0 y0 22) := by exact vNY H 21 (by decide)
  have q414 : (shrZ .i32 (IntKind.wrap .i32 ((vY x0 y0 21) - (sg (vY x0 y0 21) * (vX x0 y0 21 / 2 ^ 21)))) 22) = (vY x0 y0 22 / 2 ^ 22) := by rw [q413]; exact vSY H 22 (by decide) rfl
  obtain rfl : y1135 = (vY x0 y0 22 / 2 ^ 22) := e1135.trans q414
  clear q413 q414
  intro y1136 e1136 b1136
  clear b1136
  have q415 : ((bxor .i32 (vY x0 y0 22 / 2 ^ 22) (dd (vY x0 y0 22))) - (dd (vY x0 y0 22))) = (sg (vY x0 y0 22) * (vY x0 y0 22 / 2 ^ 22)) := by exact vFY H 22 (by decide)
  have q416 : (IntKind.wrap .i32 ((bxor .i32 (vY x0 y0 22 / 2 ^ 22) (dd (vY x0 y0 22))) - (dd (vY x0 y0 22)))) = (sg (vY x0 y0 22) * (vY x0 y0 22 / 2 ^ 22)) := by rw [q415]; exact vWY H 22 (by decide)
  obtain rfl : y1136 = (sg (vY x0 y0 22) * (vY x0 y0 22 / 2 ^ 22)) := e1136.trans q416
  clear q415 q416
  intro y1137 e1137 b1137
  clear b1137
  have q417 : (IntKind.wrap .i32 ((vX x0 y0 21) + (sg (vY x0 y0 21) * (vY x0 y0 21 / 2 ^ 21)))) = (vX x0 y0 22) := by exact vNX H 21 (by decide)
  have q418 : ((IntKind.wrap .i32 ((vX x0 y0 21) + (sg (vY x0 y0 21) * (vY x0 y0 21 / 2 ^ 21)))) + (sg (vY x0 y0 22) * (vY x0 y0 22 / 2 ^ 22))) = ((vX x0 y0 22) + (sg (vY x0 y0 22) * (vY x0 y0 22 / 2 ^ 22))) := by rw [q417]
  have q419 : (IntKind.wrap .i32 ((IntKind.wrap .i32 ((vX x0 y0 21) + (sg (vY x0 y0 21) * (vY x0 y0 21 / 2 ^ 21)))) + (sg (vY x0 y0 22) * (vY x0 y0 22 / 2 ^ 22)))) = (vX x0 y0 23) := by rw [q418]; exact vNX H 22 (by decide)
  obtain rfl : y1137 = (vX x0 y0 23) := e1137.trans q419
  clear q417 q418 q419
  intro y1138 e1138 b1138
  clear b1138
  have q420 : (IntKind.wrap .i32 ((vX x0 y0 21) + (sg (vY x0 y0 21) * (vY x0 y0 21 / 2 ^ 21)))) = (vX x0 y0 22) := by exact vNX H 21 (by decide)
  have q421 : (shrZ .i32 (IntKind.wrap .i32 ((vX x0 y0 21) + (sg (vY x0 y0 21) * (vY x0 y0 21 / 2 ^ 21)))) 22) = (vX x0 y0 22 / 2 ^ 22) := by rw [q420]; exact vSX H 22 (by decide) rfl
  obtain rfl : y1138 = (vX x0 y0 22 / 2 ^ 22) := e1138.trans q421
  clear q420 q421
  intro y1139 e1139 b1139
  clear b1139
  have q422 : ((bxor .i32 (vX x0 y0 22 / 2 ^ 22) (dd (vY x0 y0 22))) - (dd (vY x0 y0 22))) = (sg (vY x0 y0 22) * (vX x0 y0 22 / 2 ^ 22)) := by exact vFX H 22 (by decide)
  have q423 : (IntKind.wrap .i32 ((bxor .i32 (vX x0 y0 22 / 2 ^ 22) (dd (vY x0 y0 22))) - (dd (vY x0 y0 22)))) = (sg (vY x0 y0 22) * (vX x0 y0 22 / 2 ^ 22)) := by rw [q422]; exact vWX H 22 (by decide)
  obtain rfl : y1139 = (sg (vY x0 y0 22) * (vX x0 y0 22 / 2 ^ 22)) := e1139.trans q423
  clear q422 q423
  intro y1140 e1140 b1140
  clear b1140
  have q424 : (IntKind.wrap .i32 ((vY x0 y0 21) - (sg (vY x0 y0 21) * (vX x0 y0 21 / 2 ^ 21)))) = (vY x0 y0 22) := by exact vNY H 21 (by decide)
  have q425 : ((IntKind.wrap .i32 ((vY x0 y0 21) - (sg (vY x0 y0 21) * (vX x0 y0 21 / 2 ^ 21)))) - (sg (vY x0 y0 22) * (vX x0 y0 22 / 2 ^ 22))) = ((vY x0 y0 22) - (sg (vY x0 y0 22) * (vX x0 y0 22 / 2 ^ 22))) := by rw [q424]
  have q426 : (IntKind.wrap .i32 ((IntKind.wrap .i32 ((vY x0 y0 21) - (sg (vY x0 y0 21) * (vX x0 y0 21 / 2 ^ 21)))) - (sg (vY x0 y0 22) * (vX x0 y0 22 / 2 ^ 22)))) = (vY x0 y0 23) := by rw [q425]; exact vNY H 22 (by decide)
  obtain rfl : y1140 = (vY x0 y0 23) := e1140.trans q426
  clear q424 q425 q426
  intro y1141 e1141 b1141
  clear b1141
  have q427 : ((bxor .i32 128 (dd (vY x0 y0 22))) - (dd (vY x0 y0 22))) = (sg (vY x0 y0 22) * 128) := by exact flip_sg _ (by decide) (by decide)
  have q428 : (IntKind.wrap .i32 ((bxor .i32 128 (dd (vY x0 y0 22))) - (dd (vY x0 y0 22)))) = (sg (vY x0 y0 22) * 128) := by rw [q427]; exact wrap_sg _ (by decide) (by decide)
  obtain rfl : y1141 = (sg (vY x0 y0 22) * 128) := e1141.trans q428
  clear q427 q428
  intro y1142 e1142 b1142
  clear b1142
  have q429 : (shrZ .i32 (vY x0 y0 23) 23) = (vY x0 y0 23 / 2 ^ 23) := by exact vSY H 23 (by decide) rfl
  have q430 : (shrZ .i32 (vY x0 y0 23) 31) = (dd (vY x0 y0 23)) := by exact vD H 23 (by decide)
  have q431 : (bxor .i32 (shrZ .i32 (vY x0 y0 23) 23) (shrZ .i32 (vY x0 y0 23) 31)) = (bxor .i32 (vY x0 y0 23 / 2 ^ 23) (dd (vY x0 y0 23))) := by rw [q429, q430]
  have q432 : (shrZ .i32 (vY x0 y0 23) 31) = (dd (vY x0 y0 23)) := by exact vD H 23 (by decide)
  have q433 : ((bxor .i32 (shrZ .i32 (vY x0 y0 23) 23) (shrZ .i32 (vY x0 y0 23) 31)) - (shrZ .i32 (vY x0 y0 23) 31)) = (sg (vY x0 y0 23) * (vY x0 y0 23 / 2 ^ 23)) := by rw [q431, q432]; exact vFY H 23 (by decide)
  have q434 : (IntKind.wrap .i32 ((bxor .i32 (shrZ .i32 (vY x0 y0 23) 23) (shrZ .i32 (vY x0 y0 23) 31)) - (shrZ .i32 (vY x0 y0 23) 31))) = (sg (vY x0 y0 23) * (vY x0 y0 23 / 2 ^ 23)) := by rw [q433]; exact vWY H 23 (by decide)
  obtain rfl : y1142 = (sg (vY x0 y0 23) * (vY x0 y0 23 / 2 ^ 23)) := e1142.trans q434
  clear q429 q430 q431 q432 q433 q434
  intro y1143 e1143 b1143
  clear b1143
  have q435 : (shrZ .i32 (vX x0 y0 23) 23) = (vX x0 y0 23 / 2 ^ 23) := by exact vSX H 23 (by decide) rfl
  have q436 : (shrZ .i32 (vY x0 y0 23) 31) = (dd (vY x0 y0 23)) := by exact vD H 23 (by decide)
  have q437 : (bxor .i32 (shrZ .i32 (vX x0 y0 23) 23) (shrZ .i32 (vY x0 y0 23) 31)) = (bxor .i32 (vX x0 y0 23 / 2 ^ 23) (dd (vY x0 y0 23))) := by rw [q435, q436]
  have q438 : (shrZ .i32 (vY x0 y0 23) 31) = (dd (vY x0 y0 23)) := by exact vD H 23 (by decide)
  have q439 : ((bxor .i32 (shrZ .i32 (vX x0 y0 23) 23) (shrZ .i32 (vY x0 y0 23) 31)) - (shrZ .i32 (vY x0 y0 23) 31)) = (sg (vY x0 y0 23) * (vX x0 y0 23 / 2 ^ 23)) := by rw [q437, q438]; exact vFX H 23 (by decide)
  have q440 : (IntKind.wrap .i32 ((bxor .i32 (shrZ .i32 (vX x0 y0 23) 23) (shrZ .i32 (vY x0 y0 23) 31)) - (shrZ .i32 (vY x0 y0 23) 31))) = (sg (vY x0 y0 23) * (vX x0 y0 23 / 2 ^ 23)) := by rw [q439]; exact vWX H 23 (by decide)
  obtain rfl : y1143 = (sg (vY x0 y0 23) * (vX x0 y0 23 / 2 ^ 23)) := e1143.trans q440
  clear q435 q436 q437 q438 q439 q440
  intro y1144 e1144 b1144
  clear b1144
  have q441 : (shrZ .i32 (vY x0 y0 23) 31) = (dd (vY x0 y0 23)) := by exact vD H 23 (by decide)
  have q442 : (bxor .i32 64 (shrZ .i32 (vY x0 y0 23) 31)) = (bxor .i32 64 (dd (vY x0 y0 23))) := by rw [q441]
  have q443 : (shrZ .i32 (vY x0 y0 23) 31) = (dd (vY x0 y0 23)) := by exact vD H 23 (by decide)
  have q444 : ((bxor .i32 64 (shrZ .i32 (vY x0 y0 23) 31)) - (shrZ .i32 (vY x0 y0 23) 31)) = (sg (vY x0 y0 23) * 64) := by rw [q442, q443]; exact flip_sg _ (by decide) (by decide)
  have q445 : (IntKind.wrap .i32 ((bxor .i32 64 (shrZ .i32 (vY x0 y0 23) 31)) - (shrZ .i32 (vY x0 y0 23) 31))) = (sg (vY x0 y0 23) * 64) := by rw [q444]; exact wrap_sg _ (by decide) (by decide)
  obtain rfl : y1144 = (sg (vY x0 y0 23) * 64) := e1144.trans q445
  clear q441 q442 q443 q444 q445
  intro y1145 e1145 b1145
  clear b1145
  have q446 : (IntKind.wrap .i32 ((vA x0 y0 22) + (sg (vY x0 y0 22) * 128))) = (vA x0 y0 23) := by exact vNA H 22 (by decide) rfl
  have q447 : ((IntKind.wrap .i32 ((vA x0 y0 22) + (sg (vY x0 y0 22) * 128))) + (sg (vY x0 y0 23) * 64)) = ((vA x0 y0 23) + (sg (vY x0 y0 23) * 64)) := by rw [q446]
  have q448 : (IntKind.wrap .i32 ((IntKind.wrap .i32 ((vA x0 y0 22) + (sg (vY x0 y0 22) * 128))) + (sg (vY x0 y0 23) * 64))) = (vA x0 y0 24) := by rw [q447]; exact vNA H 23 (by decide) rfl
  obtain rfl : y1145 = (vA x0 y0 24) := e1145.trans q448
  clear q446 q447 q448
  intro y1146 e1146 b1146
  clear b1146
  have q449 : (IntKind.wrap .i32 ((vY x0 y0 23) - (sg (vY x0 y0 23) * (vX x0 y0 23 / 2 ^ 23)))) = (vY x0 y0 24) := by exact vNY H 23 (by decide)
  have q450 : (shrZ .i32 (IntKind.wrap .i32 ((vY x0 y0 23) - (sg (vY x0 y0 23) * (vX x0 y0 23 / 2 ^ 23)))) 31) = (dd (vY x0 y0 24)) := by rw [q449]; exact vD H 24 (by decide)
  obtain rfl : y1146 = (dd (vY x0 y0 24)) := e1146.trans q450
  clear q449 q450
  intro y1147 e1147 b1147
  clear b1147
  have q451 : (IntKind.wrap .i32 ((vY x0 y0 23) - (sg (vY x0 y0 23) * (vX x0 y0 23 / 2 ^ 23)))) = (vY x0 y0 24) := by exact vNY H 23 (by decide)
  have q452 : (shrZ .i32 (IntKind.wrap .i32 ((vY x0 y0 23) - (sg (vY x0 y0 23) * (vX x0 y0 23 / 2 ^ 23)))) 24) = (vY x0 y0 24 / 2 ^ 24) := by rw [q451]; exact vSY H 24 (by decide) rfl
  obtain rfl : y1147 = (vY x0 y0 24 / 2 ^ 24) := e1147.trans q452
  clear q451 q452
  intro y1148 e1148 b1148
  clear b1148
  have q453 : ((bxor .i32 (vY x0 y0 24 / 2 ^ 24) (dd (vY x0 y0 24))) - (dd (vY x0 y0 24))) = (sg (vY x0 y0 24) * (vY x0 y0 24 / 2 ^ 24)) := by exact vFY H 24 (by decide)
  have q454 : (IntKind.wrap .i32 ((bxor .i32 (vY x0 y0 24 / 2 ^ 24) (dd (vY x0 y0 24))) - (dd (vY x0 y0 24)))) = (sg (vY x0 y0 24) * (vY x0 y0 24 / 2 ^ 24)) := by rw [q453]; exact vWY H 24 (by decide)
  obtain rfl : y1148 = (sg (vY x0 y0 24) * (vY x0 y0 24 / 2 ^ 24)) := e1148.trans q454
  clear q453 q454
  intro y1149 e1149 b1149
  clear b1149
  have q455 : (IntKind.wrap .i32 ((vX x0 y0 23) + (sg (vY x0 y0 23) * (vY x0 y0 23 / 2 ^ 23)))) = (vX x0 y0 24) := by exact vNX H 23 (by decide)
  have q456 : ((IntKind.wrap .i32 ((vX x0 y0 23) + (sg (vY x0 y0 23) * (vY x0 y0 23 / 2 ^ 23)))) + (sg (vY x0 y0 24) * (vY x0 y0 24 / 2 ^ 24))) = ((vX x0 y0 24) + (sg (vY x0 y0 24) * (vY x0 y0 24 / 2 ^ 24))) := by rw [q455]
  have q457 : (IntKind.wrap .i32 ((IntKind.wrap .i32 ((vX x0 y0 23) + (sg (vY x0 y0 23) * (vY x0 y0 23 / 2 ^ 23)))) + (sg (vY x0 y0 24) * (vY x0 y0 24 / 2 ^ 24)))) = (vX x0 y0 25) := by rw [q456]; exact vNX H 24 (by decide)
  obtain rfl : y1149 = (vX x0 y0 25) := e1149.trans q457
  clear q455 q456 q457
  intro y1150 e1150 b1150
  clear b1150
  have q458 : (IntKind.wrap .i32 ((vX x0 y0 23) + (sg (vY x0 y0 23) * (vY x0 y0 23 / 2 ^ 23)))) = (vX x0 y0 24) := by exact vNX H 23 (by decide)
  have q459 : (shrZ .i32 (IntKind.wrap .i32 ((vX x0 y0 23) + (sg (vY x0 y0 23) * (vY x0 y0 23 / 2 ^ 23)))) 24) = (vX x0 y0 24 / 2 ^ 24) := by rw [q458]; exact vSX H 24 (by decide) rfl
  obtain rfl : y1150 = (vX x0 y0 24 / 2 ^ 24) := e1150.trans q459
  clear q458 q459
  intro y1151 e1151 b1151
  clear b1151
  have q460 : ((bxor .i32 (vX x0 y0 24 / 2 ^ 24) (dd (vY x0 y0 24))) - (dd (vY x0 y0 24))) = (sg (vY x0 y0 24) * (vX x0 y0 24 / 2 ^ 24)) := by exact vFX H 24 (by decide)
  have q461 : (IntKind.wrap .i32 ((bxor .i32 (vX x0 y0 24 / 2 ^ 24) (dd (vY x0 y0 24))) - (dd (vY x0 y0 24)))) = (sg (vY x0 y0 24) * (vX x0 y0 24 / 2 ^ 24)) := by rw [q460]; exact vWX H 24 (by decide)
  obtain rfl : y1151 = (sg (vY x0 y0 24) * (vX x0 y0 24 / 2 ^ 24)) := e1151.trans q461
  clear q460 q461
  intro y1152 e1152 b1152
  clear b1152
  have q462 : (IntKind.wrap .i32 ((vY x0 y0 23) - (sg (vY x0 y0 23) * (vX x0 y0 23 / 2 ^ 23)))) = (vY x0 y0 24) := by exact vNY H 23 (by decide)
  have q463 : ((IntKind.wrap .i32 ((vY x0 y0 23) - (sg (vY x0 y0 23) * (vX x0 y0 23 / 2 ^ 23)))) - (sg (vY x0 y0 24) * (vX x0 y0 24 / 2 ^ 24))) = ((vY x0 y0 24) - (sg (vY x0 y0 24) * (vX x0 y0 24 / 2 ^ 24))) := by rw [q462]
  have q464 : (IntKind.wrap .i32 ((IntKind.wrap .i32 ((vY x0 y0 23) - (sg (vY x0 y0 23) * (vX x0 y0 23 / 2 ^ 23)))) - (sg (vY x0 y0 24) * (vX x0 y0 24 / 2 ^ 24)))) = (vY x0 y0 25) := by rw [q463]; exact vNY H 24 (by decide)
  obtain rfl : y1152 = (vY x0 y0 25) := e1152.trans q464
  clear q462 q463 q464
  intro y1153 e1153 b1153
  clear b1153
  have q465 : ((bxor .i32 32 (dd (vY x0 y0 24))) - (dd (vY x0 y0 24))) = (sg (vY x0 y0 24) * 32) := by exact flip_sg _ (by decide) (by decide)
  have q466 : (IntKind.wrap .i32 ((bxor .i32 32 (dd (vY x0 y0 24))) - (dd (vY x0 y0 24)))) = (sg (vY x0 y0 24) * 32) := by rw [q465]; exact wrap_sg _ (by decide) (by decide)
  obtain rfl : y1153 = (sg (vY x0 y0 24) * 32) := e1153.trans q466
  clear q465 q466
  intro y1154 e1154 b1154
  clear b1154
  have q467 : (shrZ .i32 (vY x0 y0 25) 25) = (vY x0 y0 25 / 2 ^ 25) := by exact vSY H 25 (by decide) rfl
  have q468 : (shrZ .i32 (vY x0 y0 25) 31) = (dd (vY x0 y0 25)) := by exact vD H 25 (by decide)
  have q469 : (bxor .i32 (shrZ .i32 (vY x0 y0 25) 25) (shrZ .i32 (vY x0 y0 25) 31)) = (bxor .i32 (vY x0 y0 25 / 2 ^ 25) (dd (vY x0 y0 25))) := by rw [q467, q468]
  have q470 : (shrZ .i32 (vY x0 y0 25) 31) = (dd (vY x0 y0 25)) := by exact vD H 25 (by decide)
  have q471 : ((bxor .i32 (shrZ .i32 (vY x0 y0 25) 25) (shrZ .i32 (vY x0 y0 25) 31)) - (shrZ .i32 (vY x0 y0 25) 31)) = (sg (vY x0 y0 25) * (vY x0 y0 25 / 2 ^ 25)) := by rw [q469, q470]; exact vFY H 25 (by decide)
  have q472 : (IntKind.wrap .i32 ((bxor .i32 (shrZ .i32 (vY x0 y0 25) 25) (shrZ .i32 (vY x0 y0 25) 31)) - (shrZ .i32 (vY x0 y0 25) 31))) = (sg (vY x0 y0 25) * (vY x0 y0 25 / 2 ^ 25)) := by rw [q471]; exact vWY H 25 (by decide)
  obtain rfl : y1154 = (sg (vY x0 y0 25) * (vY x0 y0 25 / 2 ^ 25)) := e1154.trans q472
  clear q467 q468 q469 q470 q471 q472
  intro y1155 e1155 b1155
  clear b1155
  have q473 : (shrZ .i32 (vX x0 y0 25) 25) = (vX x0 y0 25 / 2 ^ 25) := by exact vSX H 25 (by decide) rfl
  have q474 : (shrZ .i32 (vY x0 y0 25) 31) = (dd (vY x0 y0 25)) := by exact vD H 25 (by decide)
  have q475 : (bxor .i32 (shrZ .i32 (vX x0 y0 25) 25) (shrZ .i32 (vY x0 y0 25) 31)) = (bxor .i32 (vX x0 y0 25 / 2 ^ 25) (dd (vY x0 y0 25))) := by rw [q473, q474]
  have q476 : (shrZ .i32 (vY x0 y0 25) 31) = (dd (vY x0 y0 25)) := by exact vD H 25 (by decide)
  have q477 : ((bxor .i32 (shrZ .i32 (vX x0 y0 25) 25) (shrZ .i32 (vY x0 y0 25) 31)) - (shrZ .i32 (vY x0 y0 25) 31)) = (sg (vY x0 y0 25) * (vX x0 y0 25 / 2 ^ 25)) := by rw [q475, q476]; exact vFX H 25 (by decide)
  have q478 : (IntKind.wrap .i32 ((bxor .i32 (shrZ .i32 (vX x0 y0 25) 25) (shrZ .i32 (vY x0 y0 25) 31)) - (shrZ .i32 (vY x0 y0 25) 31))) = (sg (vY x0 y0 25) * (vX x0 y0 25 / 2 ^ 25)) := by rw [q477]; exact vWX H 25 (by decide)
  obtain rfl : y1155 = (sg (vY x0 y0 25) * (vX x0 y0 25 / 2 ^ 25)) := e1155.trans q478
  clear q473 q474 q475 q476 q477 q478
  intro y1156 e1156 b1156
  clear b1156
  have q479 : (shrZ .i32 (vY x0 y0 25) 31) = (dd (vY x0 y0 25)) := by exact vD H 25 (by decide)
  have q480 : (bxor .i32 16 (shrZ .i32 (vY x0 y0 25) 31)) = (bxor .i32 16 (dd (vY x0 y0 25))) := by rw [q479]
  have q481 : (shrZ .i32 (vY x0 y0 25) 31) = (dd (vY x0 y0 25)) := by exact vD H 25 (by decide)
  have q482 : ((bxor .i32 16 (shrZ .i32 (vY x0 y0 25) 31)) - (shrZ .i32 (vY x0 y0 25) 31)) = (sg (vY x0 y0 25) * 16) := by rw [q480, q481]; exact flip_sg _ (by decide) (by decide)
  have q483 : (IntKind.wrap .i32 ((bxor .i32 16 (shrZ .i32 (vY x0 y0 25) 31)) - (shrZ .i32 (vY x0 y0 25) 31))) = (sg (vY x0 y0 25) * 16) := by rw [q482]; exact wrap_sg _ (by decide) (by decide)
  obtain rfl : y1156 = (sg (vY x0 y0 25) * 16) := e1156.trans q483
  clear q479 q480 q481 q482 q483
  intro y1157 e1157 b1157
  clear b1157
  have q484 : (IntKind.wrap .i32 ((vA x0 y0 24) + (sg (vY x0 y0 24) * 32))) = (vA x0 y0 25) := by exact vNA H 24 (by decide) rfl
  have q485 : ((IntKind.wrap .i32 ((vA x0 y0 24) + (sg (vY x0 y0 24) * 32))) + (sg (vY x0 y0 25) * 16)) = ((vA x0 y0 25) + (sg (vY x0 y0 25) * 16)) := by rw [q484]
  have q486 : (IntKind.wrap .i32 ((IntKind.wrap .i32 ((vA x0 y0 24) + (sg (vY x0 y0 24) * 32))) + (sg (vY x0 y0 25) * 16))) = (vA x0 y0 26) := by rw [q485]; exact vNA H 25 (by decide) rfl
  obtain rfl : y1157 = (vA x0 y0 26) := e1157.trans q486
  clear q484 q485 q486
  intro y1158 e1158 b1158
  clear b1158
  have q487 : (IntKind.wrap .i32 ((vY x0 y0 25) - (sg (vY x0 y0 25) * (vX x0 y0 25 / 2 ^ 25)))) = (vY x0 y0 26) := by exact vNY H 25 (by decide)
  have q488 : (shrZ .i32 (IntKind.wrap .i32 ((vY x0 y0 25) - (sg (vY x0 y0 25) * (vX x0 y0 25 / 2 ^ 25)))) 31) = (dd (vY x0 y0 26)) := by rw [q487]; exact vD H 26 (by decide)
  obtain rfl : y1158 = (dd (vY x0 y0 26)) := e1158.trans q488
  clear q487 q488
  intro y1159 e1159 b1159
  clear b1159
  have q489 : (IntKind.wrap .i32 ((vY x0 y0 25) - (sg (vY x0 y0 25) * (vX x0 y0 25 / 2 ^ 25)))) = (vY x0 y0 26) := by exact vNY H 25 (by decide)
  have q490 : (shrZ .i32 (IntKind.wrap .i32 ((vY x0 y0 25) - (sg (vY x0 y0 25) * (vX x0 y0 25 / 2 ^ 25)))) 26) = (vY x0 y0 26 / 2 ^ 26) := by rw [q489]; exact vSY H 26 (by decide) rfl
  obtain rfl : y1159 = (vY x0 y0 26 / 2 ^ 26) := e1159.trans q490
  clear q489 q490
  intro y1160 e1160 b1160
  clear b1160
  have q491 : ((bxor .i32 (vY x0 y0 26 / 2 ^ 26) (dd (vY x0 y0 26))) - (dd (vY x0 y0 26))) = (sg (vY x0 y0 26) * (vY x0 y0 26 / 2 ^ 26)) := by exact vFY H 26 (by decide)
  have q492 : (IntKind.wrap .i32 ((bxor .i32 (vY x0 y0 26 / 2 ^ 26) (dd (vY x0 y0 26))) - (dd (vY x0 y0 26)))) = (sg (vY x0 y0 26) * (vY x0 y0 26 / 2 ^ 26)) := by rw [q491]; exact vWY H 26 (by decide)
  obtain rfl : y1160 = (sg (vY x0 y0 26) * (vY x0 y0 26 / 2 ^ 26)) := e1160.trans q492
  clear q491 q492
  intro y1161 e1161 b1161
  clear b1161
  have q493 : (IntKind.wrap .i32 ((vX x0 y0 25) + (sg (vY x0 y0 25) * (vY x0 y0 25 / 2 ^ 25)))) = (vX x0 y0 26) := by exact vNX H 25 (by decide)
  have q494 : ((IntKind.wrap .i32 ((vX x0 y0 25) + (sg (vY x0 y0 25) * (vY x0 y0 25 / 2 ^ 25)))) + (sg (vY x0 y0 26) * (vY x0 y0 26 / 2 ^ 26))) = ((vX x0 y0 26) + (sg (vY x0 y0 26) * (vY x0 y0 26 / 2 ^ 26))) := by rw [q493]
  have q495 : (IntKind.wrap .i32 ((IntKind.wrap .i32 ((vX x0 y0 25) + (sg (vY x0 y0 25) * (vY x0 y0 25 / 2 ^ 25)))) + (sg (vY x0 y0 26) * (vY x0 y0 26 / 2 ^ 26)))) = (vX x0 y0 27) := by rw [q494]; exact vNX H 26 (by decide)
  obtain rfl : y1161 = (vX x0 y0 27) := e1161.trans q495
  clear q493 q494 q495
  intro y1162 e1162 b1162
  clear b1162
  have q496 : (IntKind.wrap .i32 ((vX x0 y0 25) + (sg (vY x0 y0 25) * (vY x0 y0 25 / 2 ^ 25)))) = (vX x0 y0 26) := by exact vNX H 25 (by decide)
  have q497 : (shrZ .i32 (IntKind.wrap .i32 ((vX x0 y0 25) + (sg (vY x0 y0 25) * (vY x0 y0 25 / 2 ^ 25)))) 26) = (vX x0 y0 26 / 2 ^ 26) := by rw [q496]; exact vSX H 26 (by decide) rfl
  obtain rfl : y1162 = (vX x0 y0 26 / 2 ^ 26) := e1162.trans q497
  clear q496 q497
  intro y1163 e1163 b1163
  clear b1163
  have q498 : ((bxor .i32 (vX x0 y0 26 / 2 ^ 26) (dd (vY x0 y0 26))) - (dd (vY x0 y0 26))) = (sg (vY x0 y0 26) * (vX x0 y0 26 / 2 ^ 26)) := by exact vFX H 26 (by decide)
  have q499 : (IntKind.wrap .i32 ((bxor .i32 (vX x0 y0 26 / 2 ^ 26) (dd (vY x0 y0 26))) - (dd (vY x0 y0 26)))) = (sg (vY x0 y0 26) * (vX x0 y0 26 / 2 ^ 26)) := by rw [q498]; exact vWX H 26 (by decide)
  obtain rfl : y1163 = (sg (vY x0 y0 26) * (vX x0 y0 26 / 2 ^ 26)) := e1163.trans q499
  clear q498 q499
  intro y1164 e1164 b1164
  clear b1164
  have q500 : (IntKind.wrap .i32 ((vY x0 y0 25) - (sg (vY x0 y0 25) * (vX x0 y0 25 / 2 ^ 25)))) = (vY x0 y0 26) := by exact vNY H 25 (by decide)
  have q501 : ((IntKind.wrap .i32 ((vY x0 y0 25) - (sg (vY x0 y0 25) * (vX x0 y0 25 / 2 ^ 25)))) - (sg (vY x0 y0 26) * (vX x0 y0 26 / 2 ^ 26))) = ((vY x0 y0 26) - (sg (vY x0 y0 26) * (vX x0 y0 26 / 2 ^ 26))) := by rw [q500]
  have q502 : (IntKind.wrap .i32 ((IntKind.wrap .i32 ((vY x0 y0 25) - (sg (vY x0 y0 25) * (vX x0 y0 25 / 2 ^ 25)))) - (sg (vY x0 y0 26) * (vX x0 y0 26 / 2 ^ 26)))) = (vY x0 y0 27) := by rw [q501]; exact vNY H 26 (by decide)
  obtain rfl : y1164 = (vY x0 y0 27) := e1164.trans q502
  clear q500 q501 q502
  intro y1165 e1165 b1165
  clear b1165
  have q503 : ((bxor .i32 8 (dd (vY x0 y0 26))) - (dd (vY x0 y0 26))) = (sg (vY x0 y0 26) * 8) := by exact flip_sg _ (by decide) (by decide)
  have q504 : (IntKind.wrap .i32 ((bxor .i32 8 (dd (vY x0 y0 26))) - (dd (vY x0 y0 26)))) = (sg (vY x0 y0 26) * 8) := by rw [q503]; exact wrap_sg _ (by decide) (by decide)
  obtain rfl : y1165 = (sg (vY x0 y0 26) * 8) := e1165.trans q504
  clear q503 q504
  intro y1166 e1166 b1166
  clear b1166
  have q505 : (shrZ .i32 (vY x0 y0 27) 27) = (vY x0 y0 27 / 2 ^ 27) := by exact vSY H 27 (by decide) rfl
  have q506 : (shrZ .i32 (vY x0 y0 27) 31) = (dd (vY x0 y0 27)) := by exact vD H 27 (by decide)
  have q507 : (bxor .i32 (shrZ .i32 (vY x0 y0 27) 27) (shrZ .i32 (vY x0 y0 27) 31)) = (bxor .i32 (vY x0 y0 27 / 2 ^ 27) (dd (vY x0 y0 27))) := by rw [q505, q506]
  have q508 : (shrZ .i32 (vY x0 y0 27) 31) = (dd (vY x0 y0 27)) := by exact vD H 27 (by decide)
  have q509 : ((bxor .i32 (shrZ .i32 (vY x0 y0 27) 27) (shrZ .i32 (vY x0 y0 27) 31)) - (shrZ .i32 (vY x0 y0 27) 31)) = (sg (vY x0 y0 27) * (vY x0 y0 27 / 2 ^ 27)) := by rw [q507, q508]; exact vFY H 27 (by decide)
  have q510 : (IntKind.wrap .i32 ((bxor .i32 (shrZ .i32 (vY x0 y0 27) 27) (shrZ .i32 (vY x0 y0 27) 31)) - (shrZ .i32 (vY x0 y0 27) 31))) = (sg (vY x0 y0 27) * (vY x0 y0 27 / 2 ^ 27)) := by rw [q509]; exact vWY H 27 (by decide)
  obtain rfl : y1166 = (sg (vY x0 y0 27) * (vY x0 y0 27 / 2 ^ 27)) := e1166.trans q510
  clear q505 q506 q507 q508 q509 q510
  intro y1167 e1167 b1167
  clear b1167
  have q511 : (shrZ .i32 (vX x0 y0 27) 27) = (vX x0 y0 27 / 2 ^ 27) := by exact vSX H 27 (by decide) rfl
  have q512 : (shrZ .i32 (vY x0 y0 27) 31) = (dd (vY x0 y0 27)) := by exact vD H 27 (by decide)
  have q513 : (bxor .i32 (shrZ .i32 (vX x0 y0 27) 27) (shrZ .i32 (vY x0 y0 27) 31)) = (bxor .i32 (vX x0 y0 27 / 2 ^ 27) (dd (vY x0 y0 27))) := by rw [q511, q512]
  have q514 : (shrZ .i32 (vY x0 y0 27) 31) = (dd (vY x0 y0 27)) := by exact vD H 27 (by decide)
  have q515 : ((bxor .i32 (shrZ .i32 (vX x0 y0 27) 27) (shrZ .i32 (vY x0 y0 27) 31)) - (shrZ .i32 (vY x0 y0 27) 31)) = (sg (vY x0 y0 27) * (vX x0 y0 27 / 2 ^ 27)) := by rw [q513, q514]; exact vFX H 27 (by decide)
  have q516 : (IntKind.wrap .i32 ((bxor .i32 (shrZ .i32 (vX x0 y0 27) 27) (shrZ .i32 (vY x0 y0 27) 31)) - (shrZ .i32 (vY x0 y0 27) 31))) = (sg (vY x0 y0 27) * (vX x0 y0 27 / 2 ^ 27)) := by rw [q515]; exact vWX H 27 (by decide)
  obtain rfl : y1167 = (sg (vY x0 y0 27) * (vX x0 y0 27 / 2 ^ 27)) := e1167.trans q516
  clear q511 q512 q513 q514 q515 q516
  intro y1168 e1168 b1168
  clear b1168
  have q517 : (shrZ .i32 (vY x0 y0 27) 31) = (dd (vY x0 y0 27)) := by exact vD H 27 (by decide)
  have q518 : (bxor .i32 4 (shrZ .i32 (vY x0 y0 27) 31)) = (bxor .i32 4 (dd (vY x0 y0 27))) := by rw [q517]
  have q519 : (shrZ .i32 (vY x0 y0 27) 31) = (dd (vY x0 y0 27)) := by exact vD H 27 (by decide)
  have q520 : ((bxor .i32 4 (shrZ .i32 (vY x0 y0 27) 31)) - (shrZ .i32 (vY x0 y0 27) 31)) = (sg (vY x0 y0 27) * 4) := by rw [q518, q519]; exact flip_sg _ (by decide) (by decide)
  have q521 : (IntKind.wrap .i32 ((bxor .i32 4 (shrZ .i32 (vY x0 y0 27) 31)) - (shrZ .i32 (vY x0 y0 27) 31))) = (sg (vY x0 y0 27) * 4) := by rw [q520]; exact wrap_sg _ (by decide) (by decide)
  obtain rfl : y1168 = (sg (vY x0 y0 27) * 4) := e1168.trans q521
  clear q517 q518 q519 q520 q521
  intro y1169 e1169 b1169
  clear b1169
  have q522 : (IntKind.wrap .i32 ((vA x0 y0 26) + (sg (vY x0 y0 26) * 8))) = (vA x0 y0 27) := by exact vNA H 26 (by decide) rfl
  have q523 : ((IntKind.wrap .i32 ((vA x0 y0 26) + (sg (vY x0 y0 26) * 8))) + (sg (vY x0 y0 27) * 4)) = ((vA x0 y0 27) + (sg (vY x0 y0 27) * 4)) := by rw [q522]
  have q524 : (IntKind.wrap .i32 ((IntKind.wrap .i32 ((vA x0 y0 26) + (sg (vY x0 y0 26) * 8))) + (sg (vY x0 y0 27) * 4))) = (vA x0 y0 28) := by rw [q523]; exact vNA H 27 (by decide) rfl
  obtain rfl : y1169 = (vA x0 y0 28) := e1169.trans q524
  clear q522 q523 q524
  intro y1170 e1170 b1170 y1171 e1171 b1171 y1172 e1172 b1172 y1173 e1173 b1173
  clear b1170 b1171 b1172 b1173
  obtain ⟨r1, r2⟩ := vec_range H.h1 H.h2 H.h3 H.h4
  have hA : vA x0 y0 28 = (vst x0 y0 28).2.2 := rfl
  rw [hA] at e1171
  have ha : angZ a0 a1 = fold (vst x0 y0 28).2.2 y1000 y1001 a1 a0 := by unfold angZ; rw [hx0, hy0, e1000, e1001]
  rw [ha] at hR
  generalize (vst x0 y0 28).2.2 = al at *
  rw [bool_mask] at e1170
  rw [e1170, sel_mask (by omega) (by omega) (by omega) (by omega)] at e1171
  have b1 : -2048 < y1171 ∧ y1171 < 843314857 + 2048 := by rw [e1171]; split <;> omega
  rw [shr_dd (by omega) (by omega), dd_if, sel_mask (by omega) (by omega) (by omega) (by omega)] at e1172
  have b2 : -2048 < y1172 ∧ y1172 < 1686629713 + 2048 := by rw [e1172]; split <;> omega
  rw [shr_dd (by omega) (by omega), flip_sg _ (by omega) (by omega), wrap_sg _ (by omega) (by omega)] at e1173
  have f1 : (if y1000 < y1001 then Rt - al else al) = y1171 := by rw [e1171]; rfl
  have f2 : (if a1 < 0 then PiZ - y1171 else y1171) = y1172 := by rw [e1172]; rfl
  have hf : fold al y1000 y1001 a1 a0 = y1173 := by
    rw [e1173]
    unfold fold
    simp only [f1, f2]
    unfold sg
    by_cases h : a0 < 0
    · rw [if_pos h, if_pos h]; omega
    · rw [if_neg h, if_neg h]; omega
  rw [hf] at hR
  exact hR
end Go.Eng
end

/-! The tree of the sine and the cosine, in whole numbers. Printed by program. -/
section
set_option linter.unusedVariables false
set_option maxRecDepth 100000
namespace Go.Eng
open Go.Tr
def PW (R : List Int → Prop) (a0 : Int) : Prop :=
 ∀ y1000 : Int, y1000 = (maxZ a0 (minZ (0 - a0) 2147483647)) → (-2147483647 ≤ y1000 ∧ y1000 ≤ 2147483647) →
 ∀ y1001 : Int, y1001 = (0 - (iteZ (bool01 (decide (843314857 < y1000))) 1 0)) → (-1 ≤ y1001 ∧ y1001 ≤ 0) →
 ∀ y1002 : Int, y1002 = (IntKind.wrap .i32 ((bxor .i32 1686629713 (shrZ .i32 a0 31)) - (shrZ .i32 a0 31))) → (-2147483648 ≤ y1002 ∧ y1002 ≤ 2147483647) →
 ∀ y1003 : Int, y1003 = (bor .i32 (band .i32 (IntKind.wrap .i32 (y1002 - a0)) y1001) (bandn .i32 a0 y1001)) → (-2147483648 ≤ y1003 ∧ y1003 ≤ 2147483647) →
 ∀ y1004 : Int, y1004 = (IntKind.wrap .i32 ((bxor .i32 0 (shrZ .i32 y1003 31)) - (shrZ .i32 y1003 31))) → (-2147483648 ≤ y1004 ∧ y1004 ≤ 2147483647) →
 ∀ y1005 : Int, y1005 = (IntKind.wrap .i32 ((bxor .i32 652032874 (shrZ .i32 y1003 31)) - (shrZ .i32 y1003 31))) → (-2147483648 ≤ y1005 ∧ y1005 ≤ 2147483647) →
 ∀ y1006 : Int, y1006 = (IntKind.wrap .i32 ((bxor .i32 421657428 (shrZ .i32 y1003 31)) - (shrZ .i32 y1003 31))) → (-2147483648 ≤ y1006 ∧ y1006 ≤ 2147483647) →
 ∀ y1007 : Int, y1007 = (shrZ .i32 (IntKind.wrap .i32 (y1003 - y1006)) 31) → (-1 ≤ y1007 ∧ y1007 ≤ 0) →
 ∀ y1008 : Int, y1008 = (IntKind.wrap .i32 ((bxor .i32 (shrZ .i32 y1005 1) y1007) - y1007)) → (-2147483648 ≤ y1008 ∧ y1008 ≤ 2147483647) →
 ∀ y1009 : Int, y1009 = (IntKind.wrap .i32 ((IntKind.wrap .i32 (652032874 - y1004)) - y1008)) → (-2147483648 ≤ y1009 ∧ y1009 ≤ 2147483647) →
 ∀ y1010 : Int, y1010 = (shrZ .i32 (IntKind.wrap .i32 (652032874 - y1004)) 1) → (-1073741824 ≤ y1010 ∧ y1010 ≤ 1073741823) →
 ∀ y1011 : Int, y1011 = (IntKind.wrap .i32 ((bxor .i32 y1010 y1007) - y1007)) → (-2147483648 ≤ y1011 ∧ y1011 ≤ 2147483647) →
 ∀ y1012 : Int, y1012 = (IntKind.wrap .i32 ((bxor .i32 248918915 y1007) - y1007)) → (-2147483648 ≤ y1012 ∧ y1012 ≤ 2147483647) →
 ∀ y1013 : Int, y1013 = (IntKind.wrap .i32 ((IntKind.wrap .i32 (y1003 - y1006)) - y1012)) → (-2147483648 ≤ y1013 ∧ y1013 ≤ 2147483647) →
 ∀ y1014 : Int, y1014 = (shrZ .i32 (IntKind.wrap .i32 (y1005 + y1011)) 2) → (-536870912 ≤ y1014 ∧ y1014 ≤ 536870911) →
 ∀ y1015 : Int, y1015 = (IntKind.wrap .i32 ((bxor .i32 y1014 (shrZ .i32 y1013 31)) - (shrZ .i32 y1013 31))) → (-2147483648 ≤ y1015 ∧ y1015 ≤ 2147483647) →
 ∀ y1016 : Int, y1016 = (IntKind.wrap .i32 ((bxor .i32 (shrZ .i32 y1009 2) (shrZ .i32 y1013 31)) - (shrZ .i32 y1013 31))) → (-2147483648 ≤ y1016 ∧ y1016 ≤ 2147483647) →
 ∀ y1017 : Int, y1017 = (IntKind.wrap .i32 ((IntKind.wrap .i32 (y1005 + y1011)) + y1016)) → (-2147483648 ≤ y1017 ∧ y1017 ≤ 2147483647) →
 ∀ y1018 : Int, y1018 = (IntKind.wrap .i32 ((bxor .i32 131521918 (shrZ .i32 y1013 31)) - (shrZ .i32 y1013 31))) → (-2147483648 ≤ y1018 ∧ y1018 ≤ 2147483647) →
 ∀ y1019 : Int, y1019 = (shrZ .i32 (IntKind.wrap .i32 (y1013 - y1018)) 31) → (-1 ≤ y1019 ∧ y1019 ≤ 0) →
 ∀ y1020 : Int, y1020 = (IntKind.wrap .i32 ((bxor .i32 (shrZ .i32 y1017 3) y1019) - y1019)) → (-2147483648 ≤ y1020 ∧ y1020 ≤ 2147483647) →
 ∀ y1021 : Int, y1021 = (IntKind.wrap .i32 ((IntKind.wrap .i32 (y1009 - y1015)) - y1020)) → (-2147483648 ≤ y1021 ∧ y1021 ≤ 2147483647) →
 ∀ y1022 : Int, y1022 = (shrZ .i32 (IntKind.wrap .i32 (y1009 - y1015)) 3) → (-268435456 ≤ y1022 ∧ y1022 ≤ 268435455) →
 ∀ y1023 : Int, y1023 = (IntKind.wrap .i32 ((bxor .i32 y1022 y1019) - y1019)) → (-2147483648 ≤ y1023 ∧ y1023 ≤ 2147483647) →
 ∀ y1024 : Int, y1024 = (IntKind.wrap .i32 ((bxor .i32 66762579 y1019) - y1019)) → (-2147483648 ≤ y1024 ∧ y1024 ≤ 2147483647) →
 ∀ y1025 : Int, y1025 = (IntKind.wrap .i32 ((IntKind.wrap .i32 (y1013 - y1018)) - y1024)) → (-2147483648 ≤ y1025 ∧ y1025 ≤ 2147483647) →
 ∀ y1026 : Int, y1026 = (shrZ .i32 (IntKind.wrap .i32 (y1017 + y1023)) 4) → (-134217728 ≤ y1026 ∧ y1026 ≤ 134217727) →
 ∀ y1027 : Int, y1027 = (IntKind.wrap .i32 ((bxor .i32 y1026 (shrZ .i32 y1025 31)) - (shrZ .i32 y1025 31))) → (-2147483648 ≤ y1027 ∧ y1027 ≤ 2147483647) →
 ∀ y1028 : Int, y1028 = (IntKind.wrap .i32 ((bxor .i32 (shrZ .i32 y1021 4) (shrZ .i32 y1025 31)) - (shrZ .i32 y1025 31))) → (-2147483648 ≤ y1028 ∧ y1028 ≤ 2147483647) →
 ∀ y1029 : Int, y1029 = (IntKind.wrap .i32 ((IntKind.wrap .i32 (y1017 + y1023)) + y1028)) → (-2147483648 ≤ y1029 ∧ y1029 ≤ 2147483647) →
 ∀ y1030 : Int, y1030 = (IntKind.wrap .i32 ((bxor .i32 33510843 (shrZ .i32 y1025 31)) - (shrZ .i32 y1025 31))) → (-2147483648 ≤ y1030 ∧ y1030 ≤ 2147483647) →
 ∀ y1031 : Int, y1031 = (shrZ .i32 (IntKind.wrap .i32 (y1025 - y1030)) 31) → (-1 ≤ y1031 ∧ y1031 ≤ 0) →
 ∀ y1032 : Int, y1032 = (IntKind.wrap .i32 ((bxor .i32 (shrZ .i32 y1029 5) y1031) - y1031)) → (-2147483648 ≤ y1032 ∧ y1032 ≤ 2147483647) →
 ∀ y1033 : Int, y1033 = (IntKind.wrap .i32 ((IntKind.wrap .i32 (y1021 - y1027)) - y1032)) → (-2147483648 ≤ y1033 ∧ y1033 ≤ 2147483647) →
 ∀ y1034 : Int, y1034 = (shrZ .i32 (IntKind.wrap .i32 (y1021 - y1027)) 5) → (-67108864 ≤ y1034 ∧ y1034 ≤ 67108863) →
 ∀ y1035 : Int, y1035 = (IntKind.wrap .i32 ((bxor .i32 y1034 y1031) - y1031)) → (-2147483648 ≤ y1035 ∧ y1035 ≤ 2147483647) →
 ∀ y1036 : Int, y1036 = (IntKind.wrap .i32 ((bxor .i32 16771758 y1031) - y1031)) → (-2147483648 ≤ y1036 ∧ y1036 ≤ 2147483647) →
 ∀ y1037 : Int, y1037 = (IntKind.wrap .i32 ((IntKind.wrap .i32 (y1025 - y1030)) - y1036)) → (-2147483648 ≤ y1037 ∧ y1037 ≤ 2147483647) →
 ∀ y1038 : Int, y1038 = (shrZ .i32 (IntKind.wrap .i32 (y1029 + y1035)) 6) → (-33554432 ≤ y1038 ∧ y1038 ≤ 33554431) →
 ∀ y1039 : Int, y1039 = (IntKind.wrap .i32 ((bxor .i32 y1038 (shrZ .i32 y1037 31)) - (shrZ .i32 y1037 31))) → (-2147483648 ≤ y1039 ∧ y1039 ≤ 2147483647) →
 ∀ y1040 : Int, y1040 = (IntKind.wrap .i32 ((bxor .i32 (shrZ .i32 y1033 6) (shrZ .i32 y1037 31)) - (shrZ .i32 y1037 31))) → (-2147483648 ≤ y1040 ∧ y1040 ≤ 2147483647) →
 ∀ y1041 : Int, y1041 = (IntKind.wrap .i32 ((IntKind.wrap .i32 (y1029 + y1035)) + y1040)) → (-2147483648 ≤ y1041 ∧ y1041 ≤ 2147483647) →
 ∀ y1042 : Int, y1042 = (IntKind.wrap .i32 ((bxor .i32 8387925 (shrZ .i32 y1037 31)) - (shrZ .i32 y1037 31))) → (-2147483648 ≤ y1042 ∧ y1042 ≤ 2147483647) →
 ∀ y1043 : Int, y1043 = (shrZ .i32 (IntKind.wrap .i32 (y1037 - y1042)) 31) → (-1 ≤ y1043 ∧ y1043 ≤ 0) →
 ∀ y1044 : Int, y1044 = (IntKind.wrap .i32 ((bxor .i32 (shrZ .i32 y1041 7) y1043) - y1043)) → (-2147483648 ≤ y1044 ∧ y1044 ≤ 2147483647) →
 ∀ y1045 : Int, y1045 = (IntKind.wrap .i32 ((IntKind.wrap .i32 (y1033 - y1039)) - y1044)) → (-2147483648 ≤ y1045 ∧ y1045 ≤ 2147483647) →
 ∀ y1046 : Int, y1046 = (shrZ .i32 (IntKind.wrap .i32 (y1033 - y1039)) 7) → (-16777216 ≤ y1046 ∧ y1046 ≤ 16777215) →
 ∀ y1047 : Int, y1047 = (IntKind.wrap .i32 ((bxor .i32 y1046 y1043) - y1043)) → (-2147483648 ≤ y1047 ∧ y1047 ≤ 2147483647) →
 ∀ y1048 : Int, y1048 = (IntKind.wrap .i32 ((bxor .i32 4194219 y1043) - y1043)) → (-2147483648 ≤ y1048 ∧ y1048 ≤ 2147483647) →
 ∀ y1049 : Int, y1049 = (IntKind.wrap .i32 ((IntKind.wrap .i32 (y1037 - y1042)) - y1048)) → (-2147483648 ≤ y1049 ∧ y1049 ≤ 2147483647) →
 ∀ y1050 : Int, y1050 = (shrZ .i32 (IntKind.wrap .i32 (y1041 + y1047)) 8) → (-8388608 ≤ y1050 ∧ y1050 ≤ 8388607) →
 ∀ y1051 : Int, y1051 = (IntKind.wrap .i32 ((bxor .i32 y1050 (shrZ .i32 y1049 31)) - (shrZ .i32 y1049 31))) → (-2147483648 ≤ y1051 ∧ y1051 ≤ 2147483647) →
 ∀ y1052 : Int, y1052 = (IntKind.wrap .i32 ((bxor .i32 (shrZ .i32 y1045 8) (shrZ .i32 y1049 31)) - (shrZ .i32 y1049 31))) → (-2147483648 ≤ y1052 ∧ y1052 ≤ 2147483647) →
 ∀ y1053 : Int, y1053 = (IntKind.wrap .i32 ((IntKind.wrap .i32 (y1041 + y1047)) + y1052)) → (-2147483648 ≤ y1053 ∧ y1053 ≤ 2147483647) →
 ∀ y1054 : Int, y1054 = (IntKind.wrap .i32 ((bxor .i32 2097141 (shrZ .i32 y1049 31)) - (shrZ .i32 y1049 31))) → (-2147483648 ≤ y1054 ∧ y1054 ≤ 2147483647) →
 ∀ y1055 : Int, y1055 = (shrZ .i32 (IntKind.wrap .i32 (y1049 - y1054)) 31) → (-1 ≤ y1055 ∧ y1055 ≤ 0) →
 ∀ y1056 : Int, y1056 = (IntKind.wrap .i32 ((bxor .i32 (shrZ .i32 y1053 9) y1055) - y1055)) → (-2147483648 ≤ y1056 ∧ y1056 ≤ 2147483647) →
 ∀ y1057 : Int, y1057 = (IntKind.wrap .i32 ((IntKind.wrap .i32 (y1045 - y1051)) - y1056)) → (-2147483648 ≤ y1057 ∧ y1057 ≤ 2147483647) →
 ∀ y1058 : Int, y1058 = (shrZ .i32 (IntKind.wrap .i32 (y1045 - y1051)) 9) → (-4194304 ≤ y1058 ∧ y1058 ≤ 4194303) →
 ∀ y1059 : Int, y1059 = (IntKind.wrap .i32 ((bxor .i32 y1058 y1055) - y1055)) → (-2147483648 ≤ y1059 ∧ y1059 ≤ 2147483647) →
 ∀ y1060 : Int, y1060 = (IntKind.wrap .i32 ((bxor .i32 1048575 y1055) - y1055)) → (-2147483648 ≤ y1060 ∧ y1060 ≤ 2147483647) →
 ∀ y1061 : Int, y1061 = (IntKind.wrap .i32 ((IntKind.wrap .i32 (y1049 - y1054)) - y1060)) → (-2147483648 ≤ y1061 ∧ y1061 ≤ 2147483647) →
 ∀ y1062 : Int, y1062 = (shrZ .i32 (IntKind.wrap .i32 (y1053 + y1059)) 10) → (-2097152 ≤ y1062 ∧ y1062 ≤ 2097151) →
 ∀ y1063 : Int, y1063 = (IntKind.wrap .i32 ((bxor .i32 y1062 (shrZ .i32 y1061 31)) - (shrZ .i32 y1061 31))) → (-2147483648 ≤ y1063 ∧ y1063 ≤ 2147483647) →
 ∀ y1064 : Int, y1064 = (IntKind.wrap .i32 ((bxor .i32 (shrZ .i32 y1057 10) (shrZ .i32 y1061 31)) - (shrZ .i32 y1061 31))) → (-2147483648 ≤ y1064 ∧ y1064 ≤ 2147483647) →
 ∀ y1065 : Int, y1065 = (IntKind.wrap .i32 ((IntKind.wrap .i32 (y1053 + y1059)) + y1064)) → (-2147483648 ≤ y1065 ∧ y1065 ≤ 2147483647) →
 ∀ y1066 : Int, y1066 = (IntKind.wrap .i32 ((bxor .i32 524288 (shrZ .i32 y1061 31)) - (shrZ .i32 y1061 31))) → (-2147483648 ≤ y1066 ∧ y1066 ≤ 2147483647) →
 ∀ y1067 : Int, y1067 = (shrZ .i32 (IntKind.wrap .i32 (y1061 - y1066)) 31) → (-1 ≤ y1067 ∧ y1067 ≤ 0) →
 ∀ y1068 : Int, y1068 = (IntKind.wrap .i32 ((bxor .i32 (shrZ .i32 y1065 11) y1067) - y1067)) → (-2147483648 ≤ y1068 ∧ y1068 ≤ 2147483647) →
 ∀ y1069 : Int, y1069 = (IntKind.wrap .i32 ((IntKind.wrap .i32 (y1057 - y1063)) - y1068)) → (-2147483648 ≤ y1069 ∧ y1069 ≤ 2147483647) →
 ∀ y1070 : Int, y1070 = (shrZ .i32 (IntKind.wrap .i32 (y1057 - y1063)) 11) → (-1048576 ≤ y1070 ∧ y1070 ≤ 1048575) →
 ∀ y1071 : Int, y1071 = (IntKind.wrap .i32 ((bxor .i32 y1070 y1067) - y1067)) → (-2147483648 ≤ y1071 ∧ y1071 ≤ 2147483647) →
 ∀ y1072 : Int, y1072 = (IntKind.wrap .i32 ((bxor .i32 262144 y1067) - y1067)) → (-2147483648 ≤ y1072 ∧ y1072 ≤ 2147483647) →
 ∀ y1073 : Int, y1073 = (IntKind.wrap .i32 ((IntKind.wrap .i32 (y1061 - y1066)) - y1072)) → (-2147483648 ≤ y1073 ∧ y1073 ≤ 2147483647) →
 ∀ y1074 : Int, y1074 = (shrZ .i32 (IntKind.wrap .i32 (y1065 + y1071)) 12) → (-524288 ≤ y1074 ∧ y1074 ≤ 524287) →
 ∀ y1075 : Int, y1075 = (IntKind.wrap .i32 ((bxor .i32 y1074 (shrZ .i32 y1073 31)) - (shrZ .i32 y1073 31))) → (-2147483648 ≤ y1075 ∧ y1075 ≤ 2147483647) →
 ∀ y1076 : Int, y1076 = (IntKind.wrap .i32 ((bxor .i32 (shrZ .i32 y1069 12) (shrZ .i32 y1073 31)) - (shrZ .i32 y1073 31))) → (-2147483648 ≤ y1076 ∧ y1076 ≤ 2147483647) →
 ∀ y1077 : Int, y1077 = (IntKind.wrap .i32 ((IntKind.wrap .i32 (y1065 + y1071)) + y1076)) → (-2147483648 ≤ y1077 ∧ y1077 ≤ 2147483647) →
 ∀ y1078 : Int, y1078 = (IntKind.wrap .i32 ((bxor .i32 131072 (shrZ .i32 y1073 31)) - (shrZ .i32 y1073 31))) → (-2147483648 ≤ y1078 ∧ y1078 ≤ 2147483647) →
 ∀ y1079 : Int, y1079 = (shrZ .i32 (IntKind.wrap .i32 (y1073 - y1078)) 31) → (-1 ≤ y1079 ∧ y1079 ≤ 0) →
 ∀ y1080 : Int, y1080 = (IntKind.wrap .i32 ((bxor .i32 (shrZ .i32 y1077 13) y1079) - y1079)) → (-2147483648 ≤ y1080 ∧ y1080 ≤ 2147483647) →
 ∀ y1081 : Int, y1081 = (IntKind.wrap .i32 ((IntKind.wrap .i32 (y1069 - y1075)) - y1080)) → (-2147483648 ≤ y1081 ∧ y1081 ≤ 2147483647) →
 ∀ y1082 : Int, y1082 = (shrZ .i32 (IntKind.wrap .i32 (y1069 - y1075)) 13) → (-262144 ≤ y1082 ∧ y1082 ≤ 262143) →
 ∀ y1083 : Int, y1083 = (IntKind.wrap .i32 ((bxor .i32 y1082 y1079) - y1079)) → (-2147483648 ≤ y1083 ∧ y1083 ≤ 2147483647) →
 ∀ y1084 : Int, y1084 = (IntKind.wrap .i32 ((bxor .i32 65536 y1079) - y1079)) → (-2147483648 ≤ y1084 ∧ y1084 ≤ 2147483647) →
 ∀ y1085 : Int, y1085 = (IntKind.wrap .i32 ((IntKind.wrap .i32 (y1073 - y1078)) - y1084)) → (-2147483648 ≤ y1085 ∧ y1085 ≤ 2147483647) →
 ∀ y1086 : Int, y1086 = (shrZ .i32 (IntKind.wrap .i32 (y1077 + y1083)) 14) → (-131072 ≤ y1086 ∧ y1086 ≤ 131071) →
 ∀ y1087 : Int, y1087 = (IntKind.wrap .i32 ((bxor .i32 y1086 (shrZ .i32 y1085 31)) - (shrZ .i32 y1085 31))) → (-2147483648 ≤ y1087 ∧ y1087 ≤ 2147483647) →
 ∀ y1088 : Int, y1088 = (IntKind.wrap .i32 ((bxor .i32 (shrZ .i32 y1081 14) (shrZ .i32 y1085 31)) - (shrZ .i32 y1085 31))) → (-2147483648 ≤ y1088 ∧ y1088 ≤ 2147483647) →
 ∀ y1089 : Int, y1089 = (IntKind.wrap .i32 ((IntKind.wrap .i32 (y1077 + y1083)) + y1088)) → (-2147483648 ≤ y1089 ∧ y1089 ≤ 2147483647) →
 ∀ y1090 : Int, y1090 = (IntKind.wrap .i32 ((bxor .i32 32768 (shrZ .i32 y1085 31)) - (shrZ .i32 y1085 31))) → (-2147483648 ≤ y1090 ∧ y1090 ≤ 2147483647) →
 ∀ y1091 : Int, y1091 = (shrZ .i32 (IntKind.wrap .i32 (y1085 - y1090)) 31) → (-1 ≤ y1091 ∧ y1091 ≤ 0) →
 ∀ y1092 : Int, y1092 = (IntKind.wrap .i32 ((bxor .i32 (shrZ .i32 y1089 15) y1091) - y1091)) → (-2147483648 ≤ y1092 ∧ y1092 ≤ 2147483647) →
 ∀ y1093 : Int, y1093 = (IntKind.wrap .i32 ((IntKind.wrap .i32 (y1081 - y1087)) - y1092)) → (-2147483648 ≤ y1093 ∧ y1093 ≤ 2147483647) →
 ∀ y1094 : Int, y1094 = (shrZ .i32 (IntKind.wrap .i32 (y1081 - y1087)) 15) → (-65536 ≤ y1094 ∧ y1094 ≤ 65535) →
 ∀ y1095 : Int, y1095 = (IntKind.wrap .i32 ((bxor .i32 y1094 y1091) - y1091)) → (-2147483648 ≤ y1095 ∧ y1095 ≤ 2147483647) →
 ∀ y1096 : Int, y1096 = (IntKind.wrap .i32 ((bxor .i32 16384 y1091) - y1091)) → (-2147483648 ≤ y1096 ∧ y1096 ≤ 2147483647) →
 ∀ y1097 : Int, y1097 = (IntKind.wrap .i32 ((IntKind.wrap .i32 (y1085 - y1090)) - y1096)) → (-2147483648 ≤ y1097 ∧ y1097 ≤ 2147483647) →
 ∀ y1098 : Int, y1098 = (shrZ .i32 (IntKind.wrap .i32 (y1089 + y1095)) 16) → (-32768 ≤ y1098 ∧ y1098 ≤ 32767) →
 ∀ y1099 : Int, y1099 = (IntKind.wrap .i32 ((bxor .i32 y1098 (shrZ .i32 y1097 31)) - (shrZ .i32 y1097 31))) → (-2147483648 ≤ y1099 ∧ y1099 ≤ 2147483647) →
 ∀ y1100 : Int, y1100 = (IntKind.wrap .i32 ((bxor .i32 (shrZ .i32 y1093 16) (shrZ .i32 y1097 31)) - (shrZ .i32 y1097 31))) → (-2147483648 ≤ y1100 ∧ y1100 ≤ 2147483647) →
 ∀ y1101 : Int, y1101 = (IntKind.wrap .i32 ((IntKind.wrap .i32 (y1089 + y1095)) + y1100)) → (-2147483648 ≤ y1101 ∧ y1101 ≤ 2147483647) →
 ∀ y1102 : Int, y1102 = (IntKind.wrap .i32 ((bxor .i32 8192 (shrZ .i32 y1097 31)) - (shrZ .i32 y1097 31))) → (-2147483648 ≤ y1102 ∧ y1102 ≤ 2147483647) →
 ∀ y1103 : Int, y1103 = (shrZ .i32 (IntKind.wrap .i32 (y1097 - y1102)) 31) → (-1 ≤ y1103 ∧ y1103 ≤ 0) →
 ∀ y1104 : Int, y1104 = (IntKind.wrap .i32 ((bxor .i32 (shrZ .i32 y1101 17) y1103) - y1103)) → (-2147483648 ≤ y1104 ∧ y1104 ≤ 2147483647) →
 ∀ y1105 : Int, y1105 = (IntKind.wrap .i32 ((IntKind.wrap .i32 (y1093 - y1099)) - y1104)) → (-2147483648 ≤ y1105 ∧ y1105 ≤ 2147483647) →
 ∀ y1106 : Int, y1106 = (shrZ .i32 (IntKind.wrap .i32 (y1093 - y1099)) 17) → (-16384 ≤ y1106 ∧ y1106 ≤ 16383) →
 ∀ y1107 : Int, y1107 = (IntKind.wrap .i32 ((bxor .i32 y1106 y1103) - y1103)) → (-2147483648 ≤ y1107 ∧ y1107 ≤ 2147483647) →
 ∀ y1108 : Int, y1108 = (IntKind.wrap .i32 ((bxor .i32 4096 y1103) - y1103)) → (-2147483648 ≤ y1108 ∧ y1108 ≤ 2147483647) →
 ∀ y1109 : Int, y1109 = (IntKind.wrap .i32 ((IntKind.wrap .i32 (y1097 - y1102)) - y1108)) → (-2147483648 ≤ y1109 ∧ y1109 ≤ 2147483647) →
 ∀ y1110 : Int, y1110 = (shrZ .i32 (IntKind.wrap .i32 (y1101 + y1107)) 18) → (-8192 ≤ y1110 ∧ y1110 ≤ 8191) →
 ∀ y1111 : Int, y1111 = (IntKind.wrap .i32 ((bxor .i32 y1110 (shrZ .i32 y1109 31)) - (shrZ .i32 y1109 31))) → (-2147483648 ≤ y1111 ∧ y1111 ≤ 2147483647) →
 ∀ y1112 : Int, y1112 = (IntKind.wrap .i32 ((bxor .i32 (shrZ .i32 y1105 18) (shrZ .i32 y1109 31)) - (shrZ .i32 y1109 31))) → (-2147483648 ≤ y1112 ∧ y1112 ≤ 2147483647) →
 ∀ y1113 : Int, y1113 = (IntKind.wrap .i32 ((IntKind.wrap .i32 (y1101 + y1107)) + y1112)) → (-2147483648 ≤ y1113 ∧ y1113 ≤ 2147483647) →
 ∀ y1114 : Int, y1114 = (IntKind.wrap .i32 ((bxor .i32 2048 (shrZ .i32 y1109 31)) - (shrZ .i32 y1109 31))) → (-2147483648 ≤ y1114 ∧ y1114 ≤ 2147483647) →
 ∀ y1115 : Int, y1115 = (shrZ .i32 (IntKind.wrap .i32 (y1109 - y1114)) 31) → (-1 ≤ y1115 ∧ y1115 ≤ 0) →
 ∀ y1116 : Int, y1116 = (IntKind.wrap .i32 ((bxor .i32 (shrZ .i32 y1113 19) y1115) - y1115)) → (-2147483648 ≤ y1116 ∧ y1116 ≤ 2147483647) →
 ∀ y1117 : Int, y1117 = (IntKind.wrap .i32 ((IntKind.wrap .i32 (y1105 - y1111)) - y1116)) → (-2147483648 ≤ y1117 ∧ y1117 ≤ 2147483647) →
 ∀ y1118 : Int, y1118 = (shrZ .i32 (IntKind.wrap .i32 (y1105 - y1111)) 19) → (-4096 ≤ y1118 ∧ y1118 ≤ 4095) →
 ∀ y1119 : Int, y1119 = (IntKind.wrap .i32 ((bxor .i32 y1118 y1115) - y1115)) → (-2147483648 ≤ y1119 ∧ y1119 ≤ 2147483647) →
 ∀ y1120 : Int, y1120 = (IntKind.wrap .i32 ((bxor .i32 1024 y1115) - y1115)) → (-2147483648 ≤ y1120 ∧ y1120 ≤ 2147483647) →
 ∀ y1121 : Int, y1121 = (IntKind.wrap .i32 ((IntKind.wrap .i32 (y1109 - y1114)) - y1120)) → (-2147483648 ≤ y1121 ∧ y1121 ≤ 2147483647) →
 ∀ y1122 : Int, y1122 = (shrZ .i32 (IntKind.wrap .i32 (y1113 + y1119)) 20) → (-2048 ≤ y1122 ∧ y1122 ≤ 2047) →
 ∀ y1123 : Int, y1123 = (IntKind.wrap .i32 ((bxor .i32 y1122 (shrZ .i32 y1121 31)) - (shrZ .i32 y1121 31))) → (-2147483648 ≤ y1123 ∧ y1123 ≤ 2147483647) →
 ∀ y1124 : Int, y1124 = (IntKind.wrap .i32 ((bxor .i32 (shrZ .i32 y1117 20) (shrZ .i32 y1121 31)) - (shrZ .i32 y1121 31))) → (-2147483648 ≤ y1124 ∧ y1124 ≤ 2147483647) →
 ∀ y1125 : Int, y1125 = (IntKind.wrap .i32 ((IntKind.wrap .i32 (y1113 + y1119)) + y1124)) → (-2147483648 ≤ y1125 ∧ y1125 ≤ 2147483647) →
 ∀ y1126 : Int, y1126 = (IntKind.wrap .i32 ((bxor .i32 512 (shrZ .i32 y1121 31)) - (shrZ .i32 y1121 31))) → (-2147483648 ≤ y1126 ∧ y1126 ≤ 2147483647) →
 ∀ y1127 : Int, y1127 = (shrZ .i32 (IntKind.wrap .i32 (y1121 - y1126)) 31) → (-1 ≤ y1127 ∧ y1127 ≤ 0) →
 ∀ y1128 : Int, y1128 = (IntKind.wrap .i32 ((bxor .i32 (shrZ .i32 y1125 21) y1127) - y1127)) → (-2147483648 ≤ y1128 ∧ y1128 ≤ 2147483647) →
 ∀ y1129 : Int, y1129 = (IntKind.wrap .i32 ((IntKind.wrap .i32 (y1117 - y1123)) - y1128)) → (-2147483648 ≤ y1129 ∧ y1129 ≤ 2147483647) →
 ∀ y1130 : Int, y1130 = (shrZ .i32 (IntKind.wrap .i32 (y1117 - y1123)) 21) → (-1024 ≤ y1130 ∧ y1130 ≤ 1023) →
 ∀ y1131 : Int, y1131 = (IntKind.wrap .i32 ((bxor .i32 y1130 y1127) - y1127)) → (-2147483648 ≤ y1131 ∧ y1131 ≤ 2147483647) →
 ∀ y1132 : Int, y1132 = (IntKind.wrap .i32 ((bxor .i32 256 y1127) - y1127)) → (-2147483648 ≤ y1132 ∧ y1132 ≤ 2147483647) →
 ∀ y1133 : Int, y1133 = (IntKind.wrap .i32 ((IntKind.wrap .i32 (y1121 - y1126)) - y1132)) → (-2147483648 ≤ y1133 ∧ y1133 ≤ 2147483647) →
 ∀ y1134 : Int, y1134 = (shrZ .i32 (IntKind.wrap .i32 (y1125 + y1131)) 22) → (-512 ≤ y1134 ∧ y1134 ≤ 511) →
 ∀ y1135 : Int, y1135 = (IntKind.wrap .i32 ((bxor .i32 y1134 (shrZ .i32 y1133 31)) - (shrZ .i32 y1133 31))) → (-2147483648 ≤ y1135 ∧ y1135 ≤ 2147483647) →
 ∀ y1136 : Int, y1136 = (IntKind.wrap .i32 ((bxor .i32 (shrZ .i32 y1129 22) (shrZ .i32 y1133 31)) - (shrZ .i32 y1133 31))) → (-2147483648 ≤ y1136 ∧ y1136 ≤ 2147483647) →
 ∀ y1137 : Int, y1137 = (IntKind.wrap .i32 ((IntKind.wrap .i32 (y1125 + y1131)) + y1136)) → (-2147483648 ≤ y1137 ∧ y1137 ≤ 2147483647) →
 ∀ y1138 : Int, y1138 = (IntKind.wrap .i32 ((bxor .i32 128 (shrZ .i32 y1133 31)) - (shrZ .i32 y1133 31))) → (-2147483648 ≤ y1138 ∧ y1138 ≤ 2147483647) →
 ∀ y1139 : Int, y1139 = (shrZ .i32 (IntKind.wrap .i32 (y1133 - y1138)) 31) → (-1 ≤ y1139 ∧ y1139 ≤ 0) →
 ∀ y1140 : Int, y1140 = (IntKind.wrap .i32 ((bxor .i32 (shrZ .i32 y1137 23) y1139) - y1139)) → (-2147483648 ≤ y1140 ∧ y1140 ≤ 2147483647) →
 ∀ y1141 : Int, y1141 = (IntKind.wrap .i32 ((IntKind.wrap .i32 (y1129 - y1135)) - y1140)) → (-2147483648 ≤ y1141 ∧ y1141 ≤ 2147483647) →
 ∀ y1142 : Int, y1142 = (shrZ .i32 (IntKind.wrap .i32 (y1129 - y1135)) 23) → (-256 ≤ y1142 ∧ y1142 ≤ 255) →
 ∀ y1143 : Int, y1143 = (IntKind.wrap .i32 ((bxor .i32 y1142 y1139) - y1139)) → (-2147483648 ≤ y1143 ∧ y1143 ≤ 2147483647) →
 ∀ y1144 : Int, y1144 = (IntKind.wrap .i32 ((bxor .i32 64 y1139) - y1139)) → (-2147483648 ≤ y1144 ∧ y1144 ≤ 2147483647) →
 ∀ y1145 : Int, y1145 = (IntKind.wrap .i32 ((IntKind.wrap .i32 (y1133 - y1138)) - y1144)) → (-2147483648 ≤ y1145 ∧ y1145 ≤ 2147483647) →
 ∀ y1146 : Int, y1146 = (shrZ .i32 (IntKind.wrap .i32 (y1137 + y1143)) 24) → (-128 ≤ y1146 ∧ y1146 ≤ 127) →
 ∀ y1147 : Int, y1147 = (IntKind.wrap .i32 ((bxor .i32 y1146 (shrZ .i32 y1145 31)) - (shrZ .i32 y1145 31))) → (-2147483648 ≤ y1147 ∧ y1147 ≤ 2147483647) →
 ∀ y1148 : Int, y1148 = (IntKind.wrap .i32 ((bxor .i32 (shrZ .i32 y1141 24) (shrZ .i32 y1145 31)) - (shrZ .i32 y1145 31))) → (-2147483648 ≤ y1148 ∧ y1148 ≤ 2147483647) →
 ∀ y1149 : Int, y1149 = (IntKind.wrap .i32 ((IntKind.wrap .i32 (y1137 + y1143)) + y1148)) → (-2147483648 ≤ y1149 ∧ y1149 ≤ 2147483647) →
 ∀ y1150 : Int, y1150 = (IntKind.wrap .i32 ((bxor .i32 32 (shrZ .i32 y1145 31)) - (shrZ .i32 y1145 31))) → (-2147483648 ≤ y1150 ∧ y1150 ≤ 2147483647) →
 ∀ y1151 : Int, y1151 = (shrZ .i32 (IntKind.wrap .i32 (y1145 - y1150)) 31) → (-1 ≤ y1151 ∧ y1151 ≤ 0) →
 ∀ y1152 : Int, y1152 = (IntKind.wrap .i32 ((bxor .i32 (shrZ .i32 y1149 25) y1151) - y1151)) → (-2147483648 ≤ y1152 ∧ y1152 ≤ 2147483647) →
 ∀ y1153 : Int, y1153 = (IntKind.wrap .i32 ((IntKind.wrap .i32 (y1141 - y1147)) - y1152)) → (-2147483648 ≤ y1153 ∧ y1153 ≤ 2147483647) →
 ∀ y1154 : Int, y1154 = (shrZ .i32 (IntKind.wrap .i32 (y1141 - y1147)) 25) → (-64 ≤ y1154 ∧ y1154 ≤ 63) →
 ∀ y1155 : Int, y1155 = (IntKind.wrap .i32 ((bxor .i32 y1154 y1151) - y1151)) → (-2147483648 ≤ y1155 ∧ y1155 ≤ 2147483647) →
 ∀ y1156 : Int, y1156 = (IntKind.wrap .i32 ((bxor .i32 16 y1151) - y1151)) → (-2147483648 ≤ y1156 ∧ y1156 ≤ 2147483647) →
 ∀ y1157 : Int, y1157 = (IntKind.wrap .i32 ((IntKind.wrap .i32 (y1145 - y1150)) - y1156)) → (-2147483648 ≤ y1157 ∧ y1157 ≤ 2147483647) →
 ∀ y1158 : Int, y1158 = (shrZ .i32 (IntKind.wrap .i32 (y1149 + y1155)) 26) → (-32 ≤ y1158 ∧ y1158 ≤ 31) →
 ∀ y1159 : Int, y1159 = (IntKind.wrap .i32 ((bxor .i32 y1158 (shrZ .i32 y1157 31)) - (shrZ .i32 y1157 31))) → (-2147483648 ≤ y1159 ∧ y1159 ≤ 2147483647) →
 ∀ y1160 : Int, y1160 = (IntKind.wrap .i32 ((bxor .i32 (shrZ .i32 y1153 26) (shrZ .i32 y1157 31)) - (shrZ .i32 y1157 31))) → (-2147483648 ≤ y1160 ∧ y1160 ≤ 2147483647) →
 ∀ y1161 : Int, y1161 = (IntKind.wrap .i32 ((IntKind.wrap .i32 (y1149 + y1155)) + y1160)) → (-2147483648 ≤ y1161 ∧ y1161 ≤ 2147483647) →
 ∀ y1162 : Int, y1162 = (IntKind.wrap .i32 ((bxor .i32 8 (shrZ .i32 y1157 31)) - (shrZ .i32 y1157 31))) → (-2147483648 ≤ y1162 ∧ y1162 ≤ 2147483647) →
 ∀ y1163 : Int, y1163 = (shrZ .i32 (IntKind.wrap .i32 (y1157 - y1162)) 31) → (-1 ≤ y1163 ∧ y1163 ≤ 0) →
 ∀ y1164 : Int, y1164 = (IntKind.wrap .i32 ((bxor .i32 (shrZ .i32 y1161 27) y1163) - y1163)) → (-2147483648 ≤ y1164 ∧ y1164 ≤ 2147483647) →
 ∀ y1165 : Int, y1165 = (IntKind.wrap .i32 ((IntKind.wrap .i32 (y1153 - y1159)) - y1164)) → (-2147483648 ≤ y1165 ∧ y1165 ≤ 2147483647) →
 ∀ y1166 : Int, y1166 = (shrZ .i32 (IntKind.wrap .i32 (y1153 - y1159)) 27) → (-16 ≤ y1166 ∧ y1166 ≤ 15) →
 ∀ y1167 : Int, y1167 = (IntKind.wrap .i32 ((bxor .i32 y1166 y1163) - y1163)) → (-2147483648 ≤ y1167 ∧ y1167 ≤ 2147483647) →
 ∀ y1168 : Int, y1168 = (IntKind.wrap .i32 ((bxor .i32 4 y1163) - y1163)) → (-2147483648 ≤ y1168 ∧ y1168 ≤ 2147483647) →
 ∀ y1169 : Int, y1169 = (IntKind.wrap .i32 ((IntKind.wrap .i32 (y1157 - y1162)) - y1168)) → (-2147483648 ≤ y1169 ∧ y1169 ≤ 2147483647) →
 ∀ y1170 : Int, y1170 = (IntKind.wrap .i32 ((bxor .i32 y1165 y1001) - y1001)) → (-2147483648 ≤ y1170 ∧ y1170 ≤ 2147483647) →
 R [(IntKind.wrap .i32 (y1161 + y1167)), y1170]

set_option maxHeartbeats 4000000 in
set_option maxRecDepth 100000 in
theorem wavE (R : List Int → Prop) (a0 : Int) (l0 : -1686629713 ≤ a0) (u0 : a0 ≤ 1686629713) (hR : R [wavY a0, wavX a0]) : PW R a0 := by
  unfold PW
  intro y1000 e1000 b1000 y1001 e1001 b1001 y1002 e1002 b1002 y1003 e1003 b1003
  clear b1000 b1001 b1002 b1003
  have hb := b0_bd (a := a0) (by unfold PiZ; omega) (by unfold PiZ; omega)
  have hfar : y1001 = if 843314857 < (if a0 < 0 then -a0 else a0) then -1 else 0 := by
    rw [e1001, e1000, amt_abs (by omega) (by omega), bool_mask]; rfl
  have hs : y1002 = sg a0 * 1686629713 := by
    rw [e1002, shr_dd (by omega) (by omega), flip_sg _ (by omega) (by omega), wrap_sg _ (by omega) (by omega)]
  have hB : y1003 = b0Z a0 := by
    rw [e1003, hfar, hs, sel_mask (by unfold sg; split <;> omega) (by unfold sg; split <;> omega) (by omega) (by omega)]
    unfold b0Z PiZ sg
    split <;> (try split) <;> omega
  have H : WOk (b0Z a0) := ⟨hb.1, hb.2⟩
  have hY : wavY a0 = wY (b0Z a0) 28 := rfl
  have hX : wavX a0 = if 843314857 < (if a0 < 0 then -a0 else a0) then -(wX (b0Z a0) 28) else wX (b0Z a0) 28 := rfl
  clear e1003 e1002 e1001 hs
  generalize hb0 : b0Z a0 = b0 at *
  have hB2 : y1003 = wB b0 0 := hB
  clear hB
  rw [hB2]
  clear hB2
  intro y1004 e1004 b1004
  clear b1004
  have q1 : (shrZ .i32 (wB b0 0) 31) = (dd (wB b0 0)) := by exact wD H 0 (by decide)
  have q2 : (bxor .i32 0 (shrZ .i32 (wB b0 0) 31)) = (bxor .i32 0 (dd (wB b0 0))) := by rw [q1]
  have q3 : (shrZ .i32 (wB b0 0) 31) = (dd (wB b0 0)) := by exact wD H 0 (by decide)
  have q4 : ((bxor .i32 0 (shrZ .i32 (wB b0 0) 31)) - (shrZ .i32 (wB b0 0) 31)) = (sg (wB b0 0) * (wY b0 0 / 2 ^ 0)) := by rw [q2, q3]; rw [wY0]; exact flip_sg _ (by decide) (by decide)
  have q5 : (IntKind.wrap .i32 ((bxor .i32 0 (shrZ .i32 (wB b0 0) 31)) - (shrZ .i32 (wB b0 0) 31))) = (sg (wB b0 0) * (wY b0 0 / 2 ^ 0)) := by rw [q4]; exact wWY H 0 (by decide)
  obtain rfl : y1004 = (sg (wB b0 0) * (wY b0 0 / 2 ^ 0)) := e1004.trans q5
  clear q1 q2 q3 q4 q5
  intro y1005 e1005 b1005
  clear b1005
  have q6 : (shrZ .i32 (wB b0 0) 31) = (dd (wB b0 0)) := by exact wD H 0 (by decide)
  have q7 : (bxor .i32 652032874 (shrZ .i32 (wB b0 0) 31)) = (bxor .i32 652032874 (dd (wB b0 0))) := by rw [q6]
  have q8 : (shrZ .i32 (wB b0 0) 31) = (dd (wB b0 0)) := by exact wD H 0 (by decide)
  have q9 : ((bxor .i32 652032874 (shrZ .i32 (wB b0 0) 31)) - (shrZ .i32 (wB b0 0) 31)) = (sg (wB b0 0) * (wX b0 0 / 2 ^ 0)) := by rw [q7, q8]; rw [wX0d]; exact flip_sg _ (by decide) (by decide)
  have q10 : (IntKind.wrap .i32 ((bxor .i32 652032874 (shrZ .i32 (wB b0 0) 31)) - (shrZ .i32 (wB b0 0) 31))) = (sg (wB b0 0) * (wX b0 0 / 2 ^ 0)) := by rw [q9]; exact wWX H 0 (by decide)
  obtain rfl : y1005 = (sg (wB b0 0) * (wX b0 0 / 2 ^ 0)) := e1005.trans q10
  clear q6 q7 q8 q9 q10
  intro y1006 e1006 b1006
  clear b1006
  have q11 : (shrZ .i32 (wB b0 0) 31) = (dd (wB b0 0)) := by exact wD H 0 (by decide)
  have q12 : (bxor .i32 421657428 (shrZ .i32 (wB b0 0) 31)) = (bxor .i32 421657428 (dd (wB b0 0))) := by rw [q11]
  have q13 : (shrZ .i32 (wB b0 0) 31) = (dd (wB b0 0)) := by exact wD H 0 (by decide)
  have q14 : ((bxor .i32 421657428 (shrZ .i32 (wB b0 0) 31)) - (shrZ .i32 (wB b0 0) 31)) = (sg (wB b0 0) * 421657428) := by rw [q12, q13]; exact flip_sg _ (by decide) (by decide)
  have q15 : (IntKind.wrap .i32 ((bxor .i32 421657428 (shrZ .i32 (wB b0 0) 31)) - (shrZ .i32 (wB b0 0) 31))) = (sg (wB b0 0) * 421657428) := by rw [q14]; exact wrap_sg _ (by decide) (by decide)
  obtain rfl : y1006 = (sg (wB b0 0) * 421657428) := e1006.trans q15
  clear q11 q12 q13 q14 q15
  intro y1007 e1007 b1007
  clear b1007
  have q16 : (IntKind.wrap .i32 ((wB b0 0) - (sg (wB b0 0) * 421657428))) = (wB b0 1) := by exact wNB H 0 (by decide) rfl
  have q17 : (shrZ .i32 (IntKind.wrap .i32 ((wB b0 0) - (sg (wB b0 0) * 421657428))) 31) = (dd (wB b0 1)) := by rw [q16]; exact wD H 1 (by decide)
  obtain rfl : y1007 = (dd (wB b0 1)) := e1007.trans q17
  clear q16 q17
  intro y1008 e1008 b1008
  clear b1008
  have q18 : (sg (wB b0 0) * (wX b0 0 / 2 ^ 0)) = (wY b0 1) := wY1
  have q19 : (shrZ .i32 (sg (wB b0 0) * (wX b0 0 / 2 ^ 0)) 1) = (wY b0 1 / 2 ^ 1) := by rw [q18]; exact wSY H 1 (by decide) rfl
  have q20 : (bxor .i32 (shrZ .i32 (sg (wB b0 0) * (wX b0 0 / 2 ^ 0)) 1) (dd (wB b0 1))) = (bxor .i32 (wY b0 1 / 2 ^ 1) (dd (wB b0 1))) := by rw [q19]
  have q21 : ((bxor .i32 (shrZ .i32 (sg (wB b0 0) * (wX b0 0 / 2 ^ 0)) 1) (dd (wB b0 1))) - (dd (wB b0 1))) = (sg (wB b0 1) * (wY b0 1 / 2 ^ 1)) := by rw [q20]; exact wFY H 1 (by decide)
  have q22 : (IntKind.wrap .i32 ((bxor .i32 (shrZ .i32 (sg (wB b0 0) * (wX b0 0 / 2 ^ 0)) 1) (dd (wB b0 1))) - (dd (wB b0 1)))) = (sg (wB b0 1) * (wY b0 1 / 2 ^ 1)) := by rw [q21]; exact wWY H 1 (by decide)
  obtain rfl : y1008 = (sg (wB b0 1) * (wY b0 1 / 2 ^ 1)) := e1008.trans q22
  clear q18 q19 q20 q21 q22
  intro y1009 e1009 b1009
  clear b1009
  have q23 : (IntKind.wrap .i32 (652032874 - (sg (wB b0 0) * (wY b0 0 / 2 ^ 0)))) = (wX b0 1) := by exact wNX H 0 (by decide)
  have q24 : ((IntKind.wrap .i32 (652032874 - (sg (wB b0 0) * (wY b0 0 / 2 ^ 0)))) - (sg (wB b0 1) * (wY b0 1 / 2 ^ 1))) = ((wX b0 1) - (sg (wB b0 1) * (wY b0 1 / 2 ^ 1))) := by rw [q23]
  have q25 : (IntKind.wrap .i32 ((IntKind.wrap .i32 (652032874 - (sg (wB b0 0) * (wY b0 0 / 2 ^ 0)))) - (sg (wB b0 1) * (wY b0 1 / 2 ^ 1)))) = (wX b0 2) := by rw [q24]; exact wNX H 1 (by decide)
  obtain rfl : y1009 = (wX b0 2) := e1009.trans q25
  clear q23 q24 q25
  intro y1010 e1010 b1010
  clear b1010
  have q26 : (IntKind.wrap .i32 (652032874 - (sg (wB b0 0) * (wY b0 0 / 2 ^ 0)))) = (wX b0 1) := by exact wNX H 0 (by decide)
  have q27 : (shrZ .i32 (IntKind.wrap .i32 (652032874 - (sg (wB b0 0) * (wY b0 0 / 2 ^ 0)))) 1) = (wX b0 1 / 2 ^ 1) := by rw [q26]; exact wSX H 1 (by decide) rfl
  obtain rfl : y1010 = (wX b0 1 / 2 ^ 1) := e1010.trans q27
  clear q26 q27
  intro y1011 e1011 b1011
  clear b1011
  have q28 : ((bxor .i32 (wX b0 1 / 2 ^ 1) (dd (wB b0 1))) - (dd (wB b0 1))) = (sg (wB b0 1) * (wX b0 1 / 2 ^ 1)) := by exact wFX H 1 (by decide)
  have q29 : (IntKind.wrap .i32 ((bxor .i32 (wX b0 1 / 2 ^ 1) (dd (wB b0 1))) - (dd (wB b0 1)))) = (sg (wB b0 1) * (wX b0 1 / 2 ^ 1)) := by rw [q28]; exact wWX H 1 (by decide)
  obtain rfl : y1011 = (sg (wB b0 1) * (wX b0 1 / 2 ^ 1)) := e1011.trans q29
  clear q28 q29
  intro y1012 e1012 b1012
  clear b1012
  have q30 : ((bxor .i32 248918915 (dd (wB b0 1))) - (dd (wB b0 1))) = (sg (wB b0 1) * 248918915) := by exact flip_sg _ (by decide) (by decide)
  have q31 : (IntKind.wrap .i32 ((bxor .i32 248918915 (dd (wB b0 1))) - (dd (wB b0 1)))) = (sg (wB b0 1) * 248918915) := by rw [q30]; exact wrap_sg _ (by decide) (by decide)
  obtain rfl : y1012 = (sg (wB b0 1) * 248918915) := e1012.trans q31
  clear q30 q31
  intro y1013 e1013 b1013
  clear b1013
  have q32 : (IntKind.wrap .i32 ((wB b0 0) - (sg (wB b0 0) * 421657428))) = (wB b0 1) := by exact wNB H 0 (by decide) rfl
  have q33 : ((IntKind.wrap .i32 ((wB b0 0) - (sg (wB b0 0) * 421657428))) - (sg (wB b0 1) * 248918915)) = ((wB b0 1) - (sg (wB b0 1) * 248918915)) := by rw [q32]
  have q34 : (IntKind.wrap .i32 ((IntKind.wrap .i32 ((wB b0 0) - (sg (wB b0 0) * 421657428))) - (sg (wB b0 1) * 248918915))) = (wB b0 2) := by rw [q33]; exact wNB H 1 (by decide) rfl
  obtain rfl : y1013 = (wB b0 2) := e1013.trans q34
  clear q32 q33 q34
  intro y1014 e1014 b1014
  clear b1014
  have q35 : (sg (wB b0 0) * (wX b0 0 / 2 ^ 0)) = (wY b0 1) := wY1
  have q36 : (IntKind.wrap .i32 ((sg (wB b0 0) * (wX b0 0 / 2 ^ 0)) + (sg (wB b0 1) * (wX b0 1 / 2 ^ 1)))) = (wY b0 2) := by rw [q35]; exact wNY H 1 (by decide)
  have q37 : (shrZ .i32 (IntKind.wrap .i32 ((sg (wB b0 0) * (wX b0 0 / 2 ^ 0)) + (sg (wB b0 1) * (wX b0 1 / 2 ^ 1)))) 2) = (wY b0 2 / 2 ^ 2) := by rw [q36]; exact wSY H 2 (by decide) rfl
  obtain rfl : y1014 = (wY b0 2 / 2 ^ 2) := e1014.trans q37
  clear q35 q36 q37
  intro y1015 e1015 b1015
  clear b1015
  have q38 : (shrZ .i32 (wB b0 2) 31) = (dd (wB b0 2)) := by exact wD H 2 (by decide)
  have q39 : (bxor .i32 (wY b0 2 / 2 ^ 2) (shrZ .i32 (wB b0 2) 31)) = (bxor .i32 (wY b0 2 / 2 ^ 2) (dd (wB b0 2))) := by rw [q38]
  have q40 : (shrZ .i32 (wB b0 2) 31) = (dd (wB b0 2)) := by exact wD H 2 (by decide)
  have q41 : ((bxor .i32 (wY b0 2 / 2 ^ 2) (shrZ .i32 (wB b0 2) 31)) - (shrZ .i32 (wB b0 2) 31)) = (sg (wB b0 2) * (wY b0 2 / 2 ^ 2)) := by rw [q39, q40]; exact wFY H 2 (by decide)
  have q42 : (IntKind.wrap .i32 ((bxor .i32 (wY b0 2 / 2 ^ 2) (shrZ .i32 (wB b0 2) 31)) - (shrZ .i32 (wB b0 2) 31))) = (sg (wB b0 2) * (wY b0 2 / 2 ^ 2)) := by rw [q41]; exact wWY H 2 (by decide)
  obtain rfl : y1015 = (sg (wB b0 2) * (wY b0 2 / 2 ^ 2)) := e1015.trans q42
  clear q38 q39 q40 q41 q42
  intro y1016 e1016 b1016
  clear b1016
  have q43 : (shrZ .i32 (wX b0 2) 2) = (wX b0 2 / 2 ^ 2) := by exact wSX H 2 (by decide) rfl
  have q44 : (shrZ .i32 (wB b0 2) 31) = (dd (wB b0 2)) := by exact wD H 2 (by decide)
  have q45 : (bxor .i32 (shrZ .i32 (wX b0 2) 2) (shrZ .i32 (wB b0 2) 31)) = (bxor .i32 (wX b0 2 / 2 ^ 2) (dd (wB b0 2))) := by rw [q43, q44]
  have q46 : (shrZ .i32 (wB b0 2) 31) = (dd (wB b0 2)) := by exact wD H 2 (by decide)
  have q47 : ((bxor .i32 (shrZ .i32 (wX b0 2) 2) (shrZ .i32 (wB b0 2) 31)) - (shrZ .i32 (wB b0 2) 31)) = (sg (wB b0 2) * (wX b0 2 / 2 ^ 2)) := by rw [q45, q46]; exact wFX H 2 (by decide)
  have q48 : (IntKind.wrap .i32 ((bxor .i32 (shrZ .i32 (wX b0 2) 2) (shrZ .i32 (wB b0 2) 31)) - (shrZ .i32 (wB b0 2) 31))) = (sg (wB b0 2) * (wX b0 2 / 2 ^ 2)) := by rw [q47]; exact wWX H 2 (by decide)
  obtain rfl : y1016 = (sg (wB b0 2) * (wX b0 2 / 2 ^ 2)) := e1016.trans q48
  clear q43 q44 q45 q46 q47 q48
  intro y1017 e1017 b1017
  clear b1017
  have q49 : (sg (wB b0 0) * (wX b0 0 / 2 ^ 0)) = (wY b0 1) := wY1
  have q50 : (IntKind.wrap .i32 ((sg (wB b0 0) * (wX b0 0 / 2 ^ 0)) + (sg (wB b0 1) * (wX b0 1 / 2 ^ 1)))) = (wY b0 2) := by rw [q49]; exact wNY H 1 (by decide)
  have q51 : ((IntKind.wrap .i32 ((sg (wB b0 0) * (wX b0 0 / 2 ^ 0)) + (sg (wB b0 1) * (wX b0 1 / 2 ^ 1)))) + (sg (wB b0 2) * (wX b0 2 / 2 ^ 2))) = ((wY b0 2) + (sg (wB b0 2) * (wX b0 2 / 2 ^ 2))) := by rw [q50]
  have q52 : (IntKind.wrap .i32 ((IntKind.wrap .i32 ((sg (wB b0 0) * (wX b0 0 / 2 ^ 0)) + (sg (wB b0 1) * (wX b0 1 / 2 ^ 1)))) + (sg (wB b0 2) * (wX b0 2 / 2 ^ 2)))) = (wY b0 3) := by rw [q51]; exact wNY H 2 (by decide)
  obtain rfl : y1017 = (wY b0 3) := e1017.trans q52
  clear q49 q50 q51 q52
  intro y1018 e1018 b1018
  clear b1018
  have q53 : (shrZ .i32 (wB b0 2) 31) = (dd (wB b0 2)) := by exact wD H 2 (by decide)
  have q54 : (bxor .i32 131521918 (shrZ .i32 (wB b0 2) 31)) = (bxor .i32 131521918 (dd (wB b0 2))) := by rw [q53]
  have q55 : (shrZ .i32 (wB b0 2) 31) = (dd (wB b0 2)) := by exact wD H 2 (by decide)
  have q56 : ((bxor .i32 131521918 (shrZ .i32 (wB b0 2) 31)) - (shrZ .i32 (wB b0 2) 31)) = (sg (wB b0 2) * 131521918) := by rw [q54, q55]; exact flip_sg _ (by decide) (by decide)
  have q57 : (IntKind.wrap .i32 ((bxor .i32 131521918 (shrZ .i32 (wB b0 2) 31)) - (shrZ .i32 (wB b0 2) 31))) = (sg (wB b0 2) * 131521918) := by rw [q56]; exact wrap_sg _ (by decide) (by decide)
  obtain rfl : y1018 = (sg (wB b0 2) * 131521918) := e1018.trans q57
  clear q53 q54 q55 q56 q57
  intro y1019 e1019 b1019
  clear b1019
  have q58 : (IntKind.wrap .i32 ((wB b0 2) - (sg (wB b0 2) * 131521918))) = (wB b0 3) := by exact wNB H 2 (by decide) rfl
  have q59 : (shrZ .i32 (IntKind.wrap .i32 ((wB b0 2) - (sg (wB b0 2) * 131521918))) 31) = (dd (wB b0 3)) := by rw [q58]; exact wD H 3 (by decide)
  obtain rfl : y1019 = (dd (wB b0 3)) := e1019.trans q59
  clear q58 q59
  intro y1020 e1020 b1020
  clear b1020
  have q60 : (shrZ .i32 (wY b0 3) 3) = (wY b0 3 / 2 ^ 3) := by exact wSY H 3 (by decide) rfl
  have q61 : (bxor .i32 (shrZ .i32 (wY b0 3) 3) (dd (wB b0 3))) = (bxor .i32 (wY b0 3 / 2 ^ 3) (dd (wB b0 3))) := by rw [q60]
  have q62 : ((bxor .i32 (shrZ .i32 (wY b0 3) 3) (dd (wB b0 3))) - (dd (wB b0 3))) = (sg (wB b0 3) * (wY b0 3 / 2 ^ 3)) := by rw [q61]; exact wFY H 3 (by decide)
  have q63 : (IntKind.wrap .i32 ((bxor .i32 (shrZ .i32 (wY b0 3) 3) (dd (wB b0 3))) - (dd (wB b0 3)))) = (sg (wB b0 3) * (wY b0 3 / 2 ^ 3)) := by rw [q62]; exact wWY H 3 (by decide)
  obtain rfl : y1020 = (sg (wB b0 3) * (wY b0 3 / 2 ^ 3)) := e1020.trans q63
  clear q60 q61 q62 q63
  intro y1021 e1021 b1021
  clear b1021
  have q64 : (IntKind.wrap .i32 ((wX b0 2) - (sg (wB b0 2) * (wY b0 2 / 2 ^ 2)))) = (wX b0 3) := by exact wNX H 2 (by decide)
  have q65 : ((IntKind.wrap .i32 ((wX b0 2) - (sg (wB b0 2) * (wY b0 2 / 2 ^ 2)))) - (sg (wB b0 3) * (wY b0 3 / 2 ^ 3))) = ((wX b0 3) - (sg (wB b0 3) * (wY b0 3 / 2 ^ 3))) := by rw [q64]
  have q66 : (IntKind.wrap .i32 ((IntKind.wrap .i32 ((wX b0 2) - (sg (wB b0 2) * (wY b0 2 / 2 ^ 2)))) - (sg (wB b0 3) * (wY b0 3 / 2 ^ 3)))) = (wX b0 4) := by rw [q65]; exact wNX H 3 (by decide)
  obtain rfl : y1021 = (wX b0 4) := e1021.trans q66
  clear q64 q65 q66
  intro y1022 e1022 b1022
  clear b1022
  have q67 : (IntKind.wrap .i32 ((wX b0 2) - (sg (wB b0 2) * (wY b0 2 / 2 ^ 2)))) = (wX b0 3) := by exact wNX H 2 (by decide)
  have q68 : (shrZ .i32 (IntKind.wrap .i32 ((wX b0 2) - (sg (wB b0 2) * (wY b0 2 / 2 ^ 2)))) 3) = (wX b0 3 / 2 ^ 3) := by rw [q67]; exact wSX H 3 (by decide) rfl
  obtain rfl : y1022 = (wX b0 3 / 2 ^ 3) := e1022.trans q68
  clear q67 q68
  intro y1023 e1023 b1023
  clear b1023
  have q69 : ((bxor .i32 (wX b0 3 / 2 ^ 3) (dd (wB b0 3))) - (dd (wB b0 3))) = (sg (wB b0 3) * (wX b0 3 / 2 ^ 3)) := by exact wFX H 3 (by decide)
  have q70 : (IntKind.wrap .i32 ((bxor .i32 (wX b0 3 / 2 ^ 3) (dd (wB b0 3))) - (dd (wB b0 3)))) = (sg (wB b0 3) * (wX b0 3 / 2 ^ 3)) := by rw [q69]; exact wWX H 3 (by decide)
  obtain rfl : y1023 = (sg (wB b0 3) * (wX b0 3 / 2 ^ 3)) := e1023.trans q70
  clear q69 q70
  intro y1024 e1024 b1024
  clear b1024
  have q71 : ((bxor .i32 66762579 (dd (wB b0 3))) - (dd (wB b0 3))) = (sg (wB b0 3) * 66762579) := by exact flip_sg _ (by decide) (by decide)
  have q72 : (IntKind.wrap .i32 ((bxor .i32 66762579 (dd (wB b0 3))) - (dd (wB b0 3)))) = (sg (wB b0 3) * 66762579) := by rw [q71]; exact wrap_sg _ (by decide) (by decide)
  obtain rfl : y1024 = (sg (wB b0 3) * 66762579) := e1024.trans q72
  clear q71 q72
  intro y1025 e1025 b1025
  clear b1025
  have q73 : (IntKind.wrap .i32 ((wB b0 2) - (sg (wB b0 2) * 131521918))) = (wB b0 3) := by exact wNB H 2 (by decide) rfl
  have q74 : ((IntKind.wrap .i32 ((wB b0 2) - (sg (wB b0 2) * 131521918))) - (sg (wB b0 3) * 66762579)) = ((wB b0 3) - (sg (wB b0 3) * 66762579)) := by rw [q73]
  have q75 : (IntKind.wrap .i32 ((IntKind.wrap .i32 ((wB b0 2) - (sg (wB b0 2) * 131521918))) - (sg (wB b0 3) * 66762579))) = (wB b0 4) := by rw [q74]; exact wNB H 3 (by decide) rfl
  obtain rfl : y1025 = (wB b0 4) := e1025.trans q75
  clear q73 q74 q75
  intro y1026 e1026 b1026
  clear b1026
  have q76 : (IntKind.wrap .i32 ((wY b0 3) + (sg (wB b0 3) * (wX b0 3 / 2 ^ 3)))) = (wY b0 4) := by exact wNY H 3 (by decide)
  have q77 : (shrZ .i32 (IntKind.wrap .i32 ((wY b0 3) + (sg (wB b0 3) * (wX b0 3 / 2 ^ 3)))) 4) = (wY b0 4 / 2 ^ 4) := by rw [q76]; exact wSY H 4 (by decide) rfl
  obtain rfl : y1026 = (wY b0 4 / 2 ^ 4) := e1026.trans q77
  clear q76 q77
  intro y1027 e1027 b1027
  clear b1027
  have q78 : (shrZ .i32 (wB b0 4) 31) = (dd (wB b0 4)) := by exact wD H 4 (by decide)
  have q79 : (bxor .i32 (wY b0 4 / 2 ^ 4) (shrZ .i32 (wB b0 4) 31)) = (bxor .i32 (wY b0 4 / 2 ^ 4) (dd (wB b0 4))) := by rw [q78]
  have q80 : (shrZ .i32 (wB b0 4) 31) = (dd (wB b0 4)) := by exact wD H 4 (by decide)
  have q81 : ((bxor .i32 (wY b0 4 / 2 ^ 4) (shrZ .i32 (wB b0 4) 31)) - (shrZ .i32 (wB b0 4) 31)) = (sg (wB b0 4) * (wY b0 4 / 2 ^ 4)) := by rw [q79, q80]; exact wFY H 4 (by decide)
  have q82 : (IntKind.wrap .i32 ((bxor .i32 (wY b0 4 / 2 ^ 4) (shrZ .i32 (wB b0 4) 31)) - (shrZ .i32 (wB b0 4) 31))) = (sg (wB b0 4) * (wY b0 4 / 2 ^ 4)) := by rw [q81]; exact wWY H 4 (by decide)
  obtain rfl : y1027 = (sg (wB b0 4) * (wY b0 4 / 2 ^ 4)) := e1027.trans q82
  clear q78 q79 q80 q81 q82
  intro y1028 e1028 b1028
  clear b1028
  have q83 : (shrZ .i32 (wX b0 4) 4) = (wX b0 4 / 2 ^ 4) := by exact wSX H 4 (by decide) rfl
  have q84 : (shrZ .i32 (wB b0 4) 31) = (dd (wB b0 4)) := by exact wD H 4 (by decide)
  have q85 : (bxor .i32 (shrZ .i32 (wX b0 4) 4) (shrZ .i32 (wB b0 4) 31)) = (bxor .i32 (wX b0 4 / 2 ^ 4) (dd (wB b0 4))) := by rw [q83, q84]
  have q86 : (shrZ .i32 (wB b0 4) 31) = (dd (wB b0 4)) := by exact wD H 4 (by decide)
  have q87 : ((bxor .i32 (shrZ .i32 (wX b0 4) 4) (shrZ .i32 (wB b0 4) 31)) - (shrZ .i32 (wB b0 4) 31)) = (sg (wB b0 4) * (wX b0 4 / 2 ^ 4)) := by rw [q85, q86]; exact wFX H 4 (by decide)
  have q88 : (IntKind.wrap .i32 ((bxor .i32 (shrZ .i32 (wX b0 4) 4) (shrZ .i32 (wB b0 4) 31)) - (shrZ .i32 (wB b0 4) 31))) = (sg (wB b0 4) * (wX b0 4 / 2 ^ 4)) := by rw [q87]; exact wWX H 4 (by decide)
  obtain rfl : y1028 = (sg (wB b0 4) * (wX b0 4 / 2 ^ 4)) := e1028.trans q88
  clear q83 q84 q85 q86 q87 q88
  intro y1029 e1029 b1029
  clear b1029
  have q89 : (IntKind.wrap .i32 ((wY b0 3) + (sg (wB b0 3) * (wX b0 3 / 2 ^ 3)))) = (wY b0 4) := by exact wNY H 3 (by decide)
  have q90 : ((IntKind.wrap .i32 ((wY b0 3) + (sg (wB b0 3) * (wX b0 3 / 2 ^ 3)))) + (sg (wB b0 4) * (wX b0 4 / 2 ^ 4))) = ((wY b0 4) + (sg (wB b0 4) * (wX b0 4 / 2 ^ 4))) := by rw [q89]
  have q91 : (IntKind.wrap .i32 ((IntKind.wrap .i32 ((wY b0 3) + (sg (wB b0 3) * (wX b0 3 / 2 ^ 3)))) + (sg (wB b0 4) * (wX b0 4 / 2 ^ 4)))) = (wY b0 5) := by rw [q90]; exact wNY H 4 (by decide)
  obtain rfl : y1029 = (wY b0 5) := e1029.trans q91
  clear q89 q90 q91
  intro y1030 e1030 b1030
  clear b1030
  have q92 : (shrZ .i32 (wB b0 4) 31) = (dd (wB b0 4)) := by exact wD H 4 (by decide)
  have q93 : (bxor .i32 33510843 (shrZ .i32 (wB b0 4) 31)) = (bxor .i32 33510843 (dd (wB b0 4))) := by rw [q92]
  have q94 : (shrZ .i32 (wB b0 4) 31) = (dd (wB b0 4)) := by exact wD H 4 (by decide)
  have q95 : ((bxor .i32 33510843 (shrZ .i32 (wB b0 4) 31)) - (shrZ .i32 (wB b0 4) 31)) = (sg (wB b0 4) * 33510843) := by rw [q93, q94]; exact flip_sg _ (by decide) (by decide)
  have q96 : (IntKind.wrap .i32 ((bxor .i32 33510843 (shrZ .i32 (wB b0 4) 31)) - (shrZ .i32 (wB b0 4) 31))) = (sg (wB b0 4) * 33510843) := by rw [q95]; exact wrap_sg _ (by decide) (by decide)
  obtain rfl : y1030 = (sg (wB b0 4) * 33510843) := e1030.trans q96
  clear q92 q93 q94 q95 q96
  intro y1031 e1031 b1031
  clear b1031
  have q97 : (IntKind.wrap .i32 ((wB b0 4) - (sg (wB b0 4) * 33510843))) = (wB b0 5) := by exact wNB H 4 (by decide) rfl
  have q98 : (shrZ .i32 (IntKind.wrap .i32 ((wB b0 4) - (sg (wB b0 4) * 33510843))) 31) = (dd (wB b0 5)) := by rw [q97]; exact wD H 5 (by decide)
  obtain rfl : y1031 = (dd (wB b0 5)) := e1031.trans q98
  clear q97 q98
  intro y1032 e1032 b1032
  clear b1032
  have q99 : (shrZ .i32 (wY b0 5) 5) = (wY b0 5 / 2 ^ 5) := by exact wSY H 5 (by decide) rfl
  have q100 : (bxor .i32 (shrZ .i32 (wY b0 5) 5) (dd (wB b0 5))) = (bxor .i32 (wY b0 5 / 2 ^ 5) (dd (wB b0 5))) := by rw [q99]
  have q101 : ((bxor .i32 (shrZ .i32 (wY b0 5) 5) (dd (wB b0 5))) - (dd (wB b0 5))) = (sg (wB b0 5) * (wY b0 5 / 2 ^ 5)) := by rw [q100]; exact wFY H 5 (by decide)
  have q102 : (IntKind.wrap .i32 ((bxor .i32 (shrZ .i32 (wY b0 5) 5) (dd (wB b0 5))) - (dd (wB b0 5)))) = (sg (wB b0 5) * (wY b0 5 / 2 ^ 5)) := by rw [q101]; exact wWY H 5 (by decide)
  obtain rfl : y1032 = (sg (wB b0 5) * (wY b0 5 / 2 ^ 5)) := e1032.trans q102
  clear q99 q100 q101 q102
  intro y1033 e1033 b1033
  clear b1033
  have q103 : (IntKind.wrap .i32 ((wX b0 4) - (sg (wB b0 4) * (wY b0 4 / 2 ^ 4)))) = (wX b0 5) := by exact wNX H 4 (by decide)
  have q104 : ((IntKind.wrap .i32 ((wX b0 4) - (sg (wB b0 4) * (wY b0 4 / 2 ^ 4)))) - (sg (wB b0 5) * (wY b0 5 / 2 ^ 5))) = ((wX b0 5) - (sg (wB b0 5) * (wY b0 5 / 2 ^ 5))) := by rw [q103]
  have q105 : (IntKind.wrap .i32 ((IntKind.wrap .i32 ((wX b0 4) - (sg (wB b0 4) * (wY b0 4 / 2 ^ 4)))) - (sg (wB b0 5) * (wY b0 5 / 2 ^ 5)))) = (wX b0 6) := by rw [q104]; exact wNX H 5 (by decide)
  obtain rfl : y1033 = (wX b0 6) := e1033.trans q105
  clear q103 q104 q105
  intro y1034 e1034 b1034
  clear b1034
  have q106 : (IntKind.wrap .i32 ((wX b0 4) - (sg (wB b0 4) * (wY b0 4 / 2 ^ 4)))) = (wX b0 5) := by exact wNX H 4 (by decide)
  have q107 : (shrZ .i32 (IntKind.wrap .i32 ((wX b0 4) - (sg (wB b0 4) * (wY b0 4 / 2 ^ 4)))) 5) = (wX b0 5 / 2 ^ 5) := by rw [q106]; exact wSX H 5 (by decide) rfl
  obtain rfl : y1034 = (wX b0 5 / 2 ^ 5) := e1034.trans q107
  clear q106 q107
  intro y1035 e1035 b1035
  clear b1035
  have q108 : ((bxor .i32 (wX b0 5 / 2 ^ 5) (dd (wB b0 5))) - (dd (wB b0 5))) = (sg (wB b0 5) * (wX b0 5 / 2 ^ 5)) := by exact wFX H 5 (by decide)
  have q109 : (IntKind.wrap .i32 ((bxor .i32 (wX b0 5 / 2 ^ 5) (dd (wB b0 5))) - (dd (wB b0 5)))) = (sg (wB b0 5) * (wX b0 5 / 2 ^ 5)) := by rw [q108]; exact wWX H 5 (by decide)
  obtain rfl : y1035 = (sg (wB b0 5) * (wX b0 5 / 2 ^ 5)) := e1035.trans q109
  clear q108 q109
  intro y1036 e1036 b1036
  clear b1036
  have q110 : ((bxor .i32 16771758 (dd (wB b0 5))) - (dd (wB b0 5))) = (sg (wB b0 5) * 16771758) := by exact flip_sg _ (by decide) (by decide)
  have q111 : (IntKind.wrap .i32 ((bxor .i32 16771758 (dd (wB b0 5))) - (dd (wB b0 5)))) = (sg (wB b0 5) * 16771758) := by rw [q110]; exact wrap_sg _ (by decide) (by decide)
  obtain rfl : y1036 = (sg (wB b0 5) * 16771758) := e1036.trans q111
  clear q110 q111
  intro y1037 e1037 b1037
  clear b1037
  have q112 : (IntKind.wrap .i32 ((wB b0 4) - (sg (wB b0 4) * 33510843))) = (wB b0 5) := by exact wNB H 4 (by decide) rfl
  have q113 : ((IntKind.wrap .i32 ((wB b0 4) - (sg (wB b0 4) * 33510843))) - (sg (wB b0 5) * 16771758)) = ((wB b0 5) - (sg (wB b0 5) * 16771758)) := by rw [q112]
  have q114 : (IntKind.wrap .i32 ((IntKind.wrap .i32 ((wB b0 4) - (sg (wB b0 4) * 33510843))) - (sg (wB b0 5) * 16771758))) = (wB b0 6) := by rw [q113]; exact wNB H 5 (by decide) rfl
  obtain rfl : y1037 = (wB b0 6) := e1037.trans q114
  clear q112 q113 q114
  intro y1038 e1038 b1038
  clear b1038
  have q115 : (IntKind.wrap .i32 ((wY b0 5) + (sg (wB b0 5) * (wX b0 5 / 2 ^ 5)))) = (wY b0 6) := by exact wNY H 5 (by decide)
  have q116 : (shrZ .i32 (IntKind.wrap .i32 ((wY b0 5) + (sg (wB b0 5) * (wX b0 5 / 2 ^ 5)))) 6) = (wY b0 6 / 2 ^ 6) := by rw [q115]; exact wSY H 6 (by decide) rfl
  obtain rfl : y1038 = (wY b0 6 / 2 ^ 6) := e1038.trans q116
  clear q115 q116
  intro y1039 e1039 b1039
  clear b1039
  have q117 : (shrZ .i32 (wB b0 6) 31) = (dd (wB b0 6)) := by exact wD H 6 (by decide)
  have q118 : (bxor .i32 (wY b0 6 / 2 ^ 6) (shrZ .i32 (wB b0 6) 31)) = (bxor .i32 (wY b0 6 / 2 ^ 6) (dd (wB b0 6))) := by rw [q117]
  have q119 : (shrZ .i32 (wB b0 6) 31) = (dd (wB b0 6)) := by exact wD H 6 (by decide)
  have q120 : ((bxor .i32 (wY b0 6 / 2 ^ 6) (shrZ .i32 (wB b0 6) 31)) - (shrZ .i32 (wB b0 6) 31)) = (sg (wB b0 6) * (wY b0 6 / 2 ^ 6)) := by rw [q118, q119]; exact wFY H 6 (by decide)
  have q121 : (IntKind.wrap .i32 ((bxor .i32 (wY b0 6 / 2 ^ 6) (shrZ .i32 (wB b0 6) 31)) - (shrZ .i32 (wB b0 6) 31))) = (sg (wB b0 6) * (wY b0 6 / 2 ^ 6)) := by rw [q120]; exact wWY H 6 (by decide)
  obtain rfl : y1039 = (sg (wB b0 6) * (wY b0 6 / 2 ^ 6)) := e1039.trans q121
  clear q117 q118 q119 q120 q121
  intro y1040 e1040 b1040
  clear b1040
  have q122 : (shrZ .i32 (wX b0 6) 6) = (wX b0 6 / 2 ^ 6) := by exact wSX H 6 (by decide) rfl
  have q123 : (shrZ .i32 (wB b0 6) 31) = (dd (wB b0 6)) := by exact wD H 6 (by decide)
  have q124 : (bxor .i32 (shrZ .i32 (wX b0 6) 6) (shrZ .i32 (wB b0 6) 31)) = (bxor .i32 (wX b0 6 / 2 ^ 6) (dd (wB b0 6))) := by rw [q122, q123]
  have q125 : (shrZ .i32 (wB b0 6) 31) = (dd (wB b0 6)) := by exact wD H 6 (by decide)
  have q126 : ((bxor .i32 (shrZ .i32 (wX b0 6) 6) (shrZ .i32 (wB b0 6) 31)) - (shrZ .i32 (wB b0 6) 31)) = (sg (wB b0 6) * (wX b0 6 / 2 ^ 6)) := by rw [q124, q125]; exact wFX H 6 (by decide)
  have q127 : (IntKind.wrap .i32 ((bxor .i32 (shrZ .i32 (wX b0 6) 6) (shrZ .i32 (wB b0 6) 31)) - (shrZ .i32 (wB b0 6) 31))) = (sg (wB b0 6) * (wX b0 6 / 2 ^ 6)) := by rw [q126]; exact wWX H 6 (by decide)
  obtain rfl : y1040 = (sg (wB b0 6) * (wX b0 6 / 2 ^ 6)) := e1040.trans q127
  clear q122 q123 q124 q125 q126 q127
  intro y1041 e1041 b1041
  clear b1041
  have q128 : (IntKind.wrap .i32 ((wY b0 5) + (sg (wB b0 5) * (wX b0 5 / 2 ^ 5)))) = (wY b0 6) := by exact wNY H 5 (by decide)
  have q129 : ((IntKind.wrap .i32 ((wY b0 5) + (sg (wB b0 5) * (wX b0 5 / 2 ^ 5)))) + (sg (wB b0 6) * (wX b0 6 / 2 ^ 6))) = ((wY b0 6) + (sg (wB b0 6) * (wX b0 6 / 2 ^ 6))) := by rw [q128]
  have q130 : (IntKind.wrap .i32 ((IntKind.wrap .i32 ((wY b0 5) + (sg (wB b0 5) * (wX b0 5 / 2 ^ 5)))) + (sg (wB b0 6) * (wX b0 6 / 2 ^ 6)))) = (wY b0 7) := by rw [q129]; exact wNY H 6 (by decide)
  obtain rfl : y1041 = (wY b0 7) := e1041.trans q130
  clear q128 q129 q130
  intro y1042 e1042 b1042
  clear b1042
  have q131 : (shrZ .i32 (wB b0 6) 31) = (dd (wB b0 6)) := by exact wD H 6 (by decide)
  have q132 : (bxor .i32 8387925 (shrZ .i32 (wB b0 6) 31)) = (bxor .i32 8387925 (dd (wB b0 6))) := by rw [q131]
  have q133 : (shrZ .i32 (wB b0 6) 31) = (dd (wB b0 6)) := by exact wD H 6 (by decide)
  have q134 : ((bxor .i32 8387925 (shrZ .i32 (wB b0 6) 31)) - (shrZ .i32 (wB b0 6) 31)) = (sg (wB b0 6) * 8387925) := by rw [q132, q133]; exact flip_sg _ (by decide) (by decide)
  have q135 : (IntKind.wrap .i32 ((bxor .i32 8387925 (shrZ .i32 (wB b0 6) 31)) - (shrZ .i32 (wB b0 6) 31))) = (sg (wB b0 6) * 8387925) := by rw [q134]; exact wrap_sg _ (by decide) (by decide)
  obtain rfl : y1042 = (sg (wB b0 6) * 8387925) := e1042.trans q135
  clear q131 q132 q133 q134 q135
  intro y1043 e1043 b1043
  clear b1043
  have q136 : (IntKind.wrap .i32 ((wB b0 6) - (sg (wB b0 6) * 8387925))) = (wB b0 7) := by exact wNB H 6 (by decide) rfl
  have q137 : (shrZ .i32 (IntKind.wrap .i32 ((wB b0 6) - (sg (wB b0 6) * 8387925))) 31) = (dd (wB b0 7)) := by rw [q136]; exact wD H 7 (by decide)
  obtain rfl : y1043 = (dd (wB b0 7)) := e1043.trans q137
  clear q136 q137
  intro y1044 e1044 b1044
  clear b1044
  have q138 : (shrZ .i32 (wY b0 7) 7) = (wY b0 7 / 2 ^ 7) := by exact wSY H 7 (by decide) rfl
  have q139 : (bxor .i32 (shrZ .i32 (wY b0 7) 7) (dd (wB b0 7))) = (bxor .i32 (wY b0 7 / 2 ^ 7) (dd (wB b0 7))) := by rw [q138]
  have q140 : ((bxor .i32 (shrZ .i32 (wY b0 7) 7) (dd (wB b0 7))) - (dd (wB b0 7))) = (sg (wB b0 7) * (wY b0 7 / 2 ^ 7)) := by rw [q139]; exact wFY H 7 (by decide)
  have q141 : (IntKind.wrap .i32 ((bxor .i32 (shrZ .i32 (wY b0 7) 7) (dd (wB b0 7))) - (dd (wB b0 7)))) = (sg (wB b0 7) * (wY b0 7 / 2 ^ 7)) := by rw [q140]; exact wWY H 7 (by decide)
  obtain rfl : y1044 = (sg (wB b0 7) * (wY b0 7 / 2 ^ 7)) := e1044.trans q141
  clear q138 q139 q140 q141
  intro y1045 e1045 b1045
  clear b1045
  have q142 : (IntKind.wrap .i32 ((wX b0 6) - (sg (wB b0 6) * (wY b0 6 / 2 ^ 6)))) = (wX b0 7) := by exact wNX H 6 (by decide)
  have q143 : ((IntKind.wrap .i32 ((wX b0 6) - (sg (wB b0 6) * (wY b0 6 / 2 ^ 6)))) - (sg (wB b0 7) * (wY b0 7 / 2 ^ 7))) = ((wX b0 7) - (sg (wB b0 7) * (wY b0 7 / 2 ^ 7))) := by rw [q142]
  have q144 : (IntKind.wrap .i32 ((IntKind.wrap .i32 ((wX b0 6) - (sg (wB b0 6) * (wY b0 6 / 2 ^ 6)))) - (sg (wB b0 7) * (wY b0 7 / 2 ^ 7)))) = (wX b0 8) := by rw [q143]; exact wNX H 7 (by decide)
  obtain rfl : y1045 = (wX b0 8) := e1045.trans q144
  clear q142 q143 q144
  intro y1046 e1046 b1046
  clear b1046
  have q145 : (IntKind.wrap .i32 ((wX b0 6) - (sg (wB b0 6) * (wY b0 6 / 2 ^ 6)))) = (wX b0 7) := by exact wNX H 6 (by decide)
  have q146 : (shrZ .i32 (IntKind.wrap .i32 ((wX b0 6) - (sg (wB b0 6) * (wY b0 6 / 2 ^ 6)))) 7) = (wX b0 7 / 2 ^ 7) := by rw [q145]; exact wSX H 7 (by decide) rfl
  obtain rfl : y1046 = (wX b0 7 / 2 ^ 7) := e1046.trans q146
  clear q145 q146
  intro y1047 e1047 b1047
  clear b1047
  have q147 : ((bxor .i32 (wX b0 7 / 2 ^ 7) (dd (wB b0 7))) - (dd (wB b0 7))) = (sg (wB b0 7) * (wX b0 7 / 2 ^ 7)) := by exact wFX H 7 (by decide)
  have q148 : (IntKind.wrap .i32 ((bxor .i32 (wX b0 7 / 2 ^ 7) (dd (wB b0 7))) - (dd (wB b0 7)))) = (sg (wB b0 7) * (wX b0 7 / 2 ^ 7)) := by rw [q147]; exact wWX H 7 (by decide)
  obtain rfl : y1047 = (sg (wB b0 7) * (wX b0 7 / 2 ^ 7)) := e1047.trans q148
  clear q147 q148
  intro y1048 e1048 b1048
  clear b1048
  have q149 : ((bxor .i32 4194219 (dd (wB b0 7))) - (dd (wB b0 7))) = (sg (wB b0 7) * 4194219) := by exact flip_sg _ (by decide) (by decide)
  have q150 : (IntKind.wrap .i32 ((bxor .i32 4194219 (dd (wB b0 7))) - (dd (wB b0 7)))) = (sg (wB b0 7) * 4194219) := by rw [q149]; exact wrap_sg _ (by decide) (by decide)
  obtain rfl : y1048 = (sg (wB b0 7) * 4194219) := e1048.trans q150
  clear q149 q150
  intro y1049 e1049 b1049
  clear b1049
  have q151 : (IntKind.wrap .i32 ((wB b0 6) - (sg (wB b0 6) * 8387925))) = (wB b0 7) := by exact wNB H 6 (by decide) rfl
  have q152 : ((IntKind.wrap .i32 ((wB b0 6) - (sg (wB b0 6) * 8387925))) - (sg (wB b0 7) * 4194219)) = ((wB b0 7) - (sg (wB b0 7) * 4194219)) := by rw [q151]
  have q153 : (IntKind.wrap .i32 ((IntKind.wrap .i32 ((wB b0 6) - (sg (wB b0 6) * 8387925))) - (sg (wB b0 7) * 4194219))) = (wB b0 8) := by rw [q152]; exact wNB H 7 (by decide) rfl
  obtain rfl : y1049 = (wB b0 8) := e1049.trans q153
  clear q151 q152 q153
  intro y1050 e1050 b1050
  clear b1050
  have q154 : (IntKind.wrap .i32 ((wY b0 7) + (sg (wB b0 7) * (wX b0 7 / 2 ^ 7)))) = (wY b0 8) := by exact wNY H 7 (by decide)
  have q155 : (shrZ .i32 (IntKind.wrap .i32 ((wY b0 7) + (sg (wB b0 7) * (wX b0 7 / 2 ^ 7)))) 8) = (wY b0 8 / 2 ^ 8) := by rw [q154]; exact wSY H 8 (by decide) rfl
  obtain rfl : y1050 = (wY b0 8 / 2 ^ 8) := e1050.trans q155
  clear q154 q155
  intro y1051 e1051 b1051
  clear b1051
  have q156 : (shrZ .i32 (wB b0 8) 31) = (dd (wB b0 8)) := by exact wD H 8 (by decide)
  have q157 : (bxor .i32 (wY b0 8 / 2 ^ 8) (shrZ .i32 (wB b0 8) 31)) = (bxor .i32 (wY b0 8 / 2 ^ 8) (dd (wB b0 8))) := by rw [q156]
  have q158 : (shrZ .i32 (wB b0 8) 31) = (dd (wB b0 8)) := by exact wD H 8 (by decide)
  have q159 : ((bxor .i32 (wY b0 8 / 2 ^ 8) (shrZ .i32 (wB b0 8) 31)) - (shrZ .i32 (wB b0 8) 31)) = (sg (wB b0 8) * (wY b0 8 / 2 ^ 8)) := by rw [q157, q158]; exact wFY H 8 (by decide)
  have q160 : (IntKind.wrap .i32 ((bxor .i32 (wY b0 8 / 2 ^ 8) (shrZ .i32 (wB b0 8) 31)) - (shrZ .i32 (wB b0 8) 31))) = (sg (wB b0 8) * (wY b0 8 / 2 ^ 8)) := by rw [q159]; exact wWY H 8 (by decide)
  obtain rfl : y1051 = (sg (wB b0 8) * (wY b0 8 / 2 ^ 8)) := e1051.trans q160
  clear q156 q157 q158 q159 q160
  intro y1052 e1052 b1052
  clear b1052
  have q161 : (shrZ .i32 (wX b0 8) 8) = (wX b0 8 / 2 ^ 8) := by exact wSX H 8 (by decide) rfl
  have q162 : (shrZ .i32 (wB b0 8) 31) = (dd (wB b0 8)) := by exact wD H 8 (by decide)
  have q163 : (bxor .i32 (shrZ .i32 (wX b0 8) 8) (shrZ .i32 (wB b0 8) 31)) = (bxor .i32 (wX b0 8 / 2 ^ 8) (dd (wB b0 8))) := by rw [q161, q162]
  have q164 : (shrZ .i32 (wB b0 8) 31) = (dd (wB b0 8)) := by exact wD H 8 (by decide)
  have q165 : ((bxor .i32 (shrZ .i32 (wX b0 8) 8) (shrZ .i32 (wB b0 8) 31)) - (shrZ .i32 (wB b0 8) 31)) = (sg (wB b0 8) * (wX b0 8 / 2 ^ 8)) := by rw [q163, q164]; exact wFX H 8 (by decide)
  have q166 : (IntKind.wrap .i32 ((bxor .i32 (shrZ .i32 (wX b0 8) 8) (shrZ .i32 (wB b0 8) 31)) - (shrZ .i32 (wB b0 8) 31))) = (sg (wB b0 8) * (wX b0 8 / 2 ^ 8)) := by rw [q165]; exact wWX H 8 (by decide)
  obtain rfl : y1052 = (sg (wB b0 8) * (wX b0 8 / 2 ^ 8)) := e1052.trans q166
  clear q161 q162 q163 q164 q165 q166
  intro y1053 e1053 b1053
  clear b1053
  have q167 : (IntKind.wrap .i32 ((wY b0 7) + (sg (wB b0 7) * (wX b0 7 / 2 ^ 7)))) = (wY b0 8) := by exact wNY H 7 (by decide)
  have q168 : ((IntKind.wrap .i32 ((wY b0 7) + (sg (wB b0 7) * (wX b0 7 / 2 ^ 7)))) + (sg (wB b0 8) * (wX b0 8 / 2 ^ 8))) = ((wY b0 8) + (sg (wB b0 8) * (wX b0 8 / 2 ^ 8))) := by rw [q167]
  have q169 : (IntKind.wrap .i32 ((IntKind.wrap .i32 ((wY b0 7) + (sg (wB b0 7) * (wX b0 7 / 2 ^ 7)))) + (sg (wB b0 8) * (wX b0 8 / 2 ^ 8)))) = (wY b0 9) := by rw [q168]; exact wNY H 8 (by decide)
  obtain rfl : y1053 = (wY b0 9) := e1053.trans q169
  clear q167 q168 q169
  intro y1054 e1054 b1054
  clear b1054
  have q170 : (shrZ .i32 (wB b0 8) 31) = (dd (wB b0 8)) := by exact wD H 8 (by decide)
  have q171 : (bxor .i32 2097141 (shrZ .i32 (wB b0 8) 31)) = (bxor .i32 2097141 (dd (wB b0 8))) := by rw [q170]
  have q172 : (shrZ .i32 (wB b0 8) 31) = (dd (wB b0 8)) := by exact wD H 8 (by decide)
  have q173 : ((bxor .i32 2097141 (shrZ .i32 (wB b0 8) 31)) - (shrZ .i32 (wB b0 8) 31)) = (sg (wB b0 8) * 2097141) := by rw [q171, q172]; exact flip_sg _ (by decide) (by decide)
  have q174 : (IntKind.wrap .i32 ((bxor .i32 2097141 (shrZ .i32 (wB b0 8) 31)) - (shrZ .i32 (wB b0 8) 31))) = (sg (wB b0 8) * 2097141) := by rw [q173]; exact wrap_sg _ (by decide) (by decide)
  obtain rfl : y1054 = (sg (wB b0 8) * 2097141) := e1054.trans q174
  clear q170 q171 q172 q173 q174
  intro y1055 e1055 b1055
  clear b1055
  have q175 : (IntKind.wrap .i32 ((wB b0 8) - (sg (wB b0 8) * 2097141))) = (wB b0 9) := by exact wNB H 8 (by decide) rfl
  have q176 : (shrZ .i32 (IntKind.wrap .i32 ((wB b0 8) - (sg (wB b0 8) * 2097141))) 31) = (dd (wB b0 9)) := by rw [q175]; exact wD H 9 (by decide)
  obtain rfl : y1055 = (dd (wB b0 9)) := e1055.trans q176
  clear q175 q176
  intro y1056 e1056 b1056
  clear b1056
  have q177 : (shrZ .i32 (wY b0 9) 9) = (wY b0 9 / 2 ^ 9) := by exact wSY H 9 (by decide) rfl
  have q178 : (bxor .i32 (shrZ .i32 (wY b0 9) 9) (dd (wB b0 9))) = (bxor .i32 (wY b0 9 / 2 ^ 9) (dd (wB b0 9))) := by rw [q177]
  have q179 : ((bxor .i32 (shrZ .i32 (wY b0 9) 9) (dd (wB b0 9))) - (dd (wB b0 9))) = (sg (wB b0 9) * (wY b0 9 / 2 ^ 9)) := by rw [q178]; exact wFY H 9 (by decide)
  have q180 : (IntKind.wrap .i32 ((bxor .i32 (shrZ .i32 (wY b0 9) 9) (dd (wB b0 9))) - (dd (wB b0 9)))) = (sg (wB b0 9) * (wY b0 9 / 2 ^ 9)) := by rw [q179]; exact wWY H 9 (by decide)
  obtain rfl : y1056 = (sg (wB b0 9) * (wY b0 9 / 2 ^ 9)) := e1056.trans q180
  clear q177 q178 q179 q180
  intro y1057 e1057 b1057
  clear b1057
  have q181 : (IntKind.wrap .i32 ((wX b0 8) - (sg (wB b0 8) * (wY b0 8 / 2 ^ 8)))) = (wX b0 9) := by exact wNX H 8 (by decide)
  have q182 : ((IntKind.wrap .i32 ((wX b0 8) - (sg (wB b0 8) * (wY b0 8 / 2 ^ 8)))) - (sg (wB b0 9) * (wY b0 9 / 2 ^ 9))) = ((wX b0 9) - (sg (wB b0 9) * (wY b0 9 / 2 ^ 9))) := by rw [q181]
  have q183 : (IntKind.wrap .i32 ((IntKind.wrap .i32 ((wX b0 8) - (sg (wB b0 8) * (wY b0 8 / 2 ^ 8)))) - (sg (wB b0 9) * (wY b0 9 / 2 ^ 9)))) = (wX b0 10) := by rw [q182]; exact wNX H 9 (by decide)
  obtain rfl : y1057 = (wX b0 10) := e1057.trans q183
  clear q181 q182 q183
  intro y1058 e1058 b1058
  clear b1058
  have q184 : (IntKind.wrap .i32 ((wX b0 8) - (sg (wB b0 8) * (wY b0 8 / 2 ^ 8)))) = (wX b0 9) := by exact wNX H 8 (by decide)
  have q185 : (shrZ .i32 (IntKind.wrap .i32 ((wX b0 8) - (sg (wB b0 8) * (wY b0 8 / 2 ^ 8)))) 9) = (wX b0 9 / 2 ^ 9) := by rw [q184]; exact wSX H 9 (by decide) rfl
  obtain rfl : y1058 = (wX b0 9 / 2 ^ 9) := e1058.trans q185
  clear q184 q185
  intro y1059 e1059 b1059
  clear b1059
  have q186 : ((bxor .i32 (wX b0 9 / 2 ^ 9) (dd (wB b0 9))) - (dd (wB b0 9))) = (sg (wB b0 9) * (wX b0 9 / 2 ^ 9)) := by exact wFX H 9 (by decide)
  have q187 : (IntKind.wrap .i32 ((bxor .i32 (wX b0 9 / 2 ^ 9) (dd (wB b0 9))) - (dd (wB b0 9)))) = (sg (wB b0 9) * (wX b0 9 / 2 ^ 9)) := by rw [q186]; exact wWX H 9 (by decide)
  obtain rfl : y1059 = (sg (wB b0 9) * (wX b0 9 / 2 ^ 9)) := e1059.trans q187
  clear q186 q187
  intro y1060 e1060 b1060
  clear b1060
  have q188 : ((bxor .i32 1048575 (dd (wB b0 9))) - (dd (wB b0 9))) = (sg (wB b0 9) * 1048575) := by exact flip_sg _ (by decide) (by decide)
  have q189 : (IntKind.wrap .i32 ((bxor .i32 1048575 (dd (wB b0 9))) - (dd (wB b0 9)))) = (sg (wB b0 9) * 1048575) := by rw [q188]; exact wrap_sg _ (by decide) (by decide)
  obtain rfl : y1060 = (sg (wB b0 9) * 1048575) := e1060.trans q189
  clear q188 q189
  intro y1061 e1061 b1061
  clear b1061
  have q190 : (IntKind.wrap .i32 ((wB b0 8) - (sg (wB b0 8) * 2097141))) = (wB b0 9) := by exact wNB H 8 (by decide) rfl
  have q191 : ((IntKind.wrap .i32 ((wB b0 8) - (sg (wB b0 8) * 2097141))) - (sg (wB b0 9) * 1048575)) = ((wB b0 9) - (sg (wB b0 9) * 1048575)) := by rw [q190]
  have q192 : (IntKind.wrap .i32 ((IntKind.wrap .i32 ((wB b0 8) - (sg (wB b0 8) * 2097141))) - (sg (wB b0 9) * 1048575))) = (wB b0 10) := by rw [q191]; exact wNB H 9 (by decide) rfl
  obtain rfl : y1061 = (wB b0 10) := e1061.trans q192
  clear q190 q191 q192
  intro y1062 e1062 b1062
  clear b1062
  have q193 : (IntKind.wrap .i32 ((wY b0 9) + (sg (wB b0 9) * (wX b0 9 / 2 ^ 9)))) = (wY b0 10) := by exact wNY H 9 (by decide)
  have q194 : (shrZ .i32 (IntKind.wrap .i32 ((wY b0 9) + (sg (wB b0 9) * (wX b0 9 / 2 ^ 9)))) 10) = (wY b0 10 / 2 ^ 10) := by rw [q193]; exact wSY H 10 (by decide) rfl
  obtain rfl : y1062 = (wY b0 10 / 2 ^ 10) := e1062.trans q194
  clear q193 q194
  intro y1063 e1063 b1063
  clear b1063
  have q195 : (shrZ .i32 (wB b0 10) 31) = (dd (wB b0 10)) := by exact wD H 10 (by decide)
  have q196 : (bxor .i32 (wY b0 10 / 2 ^ 10) (shrZ .i32 (wB b0 10) 31)) = (bxor .i32 (wY b0 10 / 2 ^ 10) (dd (wB b0 10))) := by rw [q195]
  have q197 : (shrZ .i32 (wB b0 10) 31) = (dd (wB b0 10)) := by exact wD H 10 (by decide)
  have q198 : ((bxor .i32 (wY b0 10 / 2 ^ 10) (shrZ .i32 (wB b0 10) 31)) - (shrZ .i32 (wB b0 10) 31)) = (sg (wB b0 10) * (wY b0 10 / 2 ^ 10)) := by rw [q196, q197]; exact wFY H 10 (by decide)
  have q199 : (IntKind.wrap .i32 ((bxor .i32 (wY b0 10 / 2 ^ 10) (shrZ .i32 (wB b0 10) 31)) - (shrZ .i32 (wB b0 10) 31))) = (sg (wB b0 10) * (wY b0 10 / 2 ^ 10)) := by rw [q198]; exact wWY H 10 (by decide)
  obtain rfl : y1063 = (sg (wB b0 10) * (wY b0 10 / 2 ^ 10)) := e1063.trans q199
  clear q195 q196 q197 q198 q199
  intro y1064 e1064 b1064
  clear b1064
  have q200 : (shrZ .i32 (wX b0 10) 10) = (wX b0 10 / 2 ^ 10) := by exact wSX H 10 (by decide) rfl
  have q201 : (shrZ .i32 (wB b0 10) 31) = (dd (wB b0 10)) := by exact wD H 10 (by decide)
  have q202 : (bxor .i32 (shrZ .i32 (wX b0 10) 10) (shrZ .i32 (wB b0 10) 31)) = (bxor .i32 (wX b0 10 / 2 ^ 10) (dd (wB b0 10))) := by rw [q200, q201]
  have q203 : (shrZ .i32 (wB b0 10) 31) = (dd (wB b0 10)) := by exact wD H 10 (by decide)
  have q204 : ((bxor .i32 (shrZ .i32 (wX b0 10) 10) (shrZ .i32 (wB b0 10) 31)) - (shrZ .i32 (wB b0 10) 31)) = (sg (wB b0 10) * (wX b0 10 / 2 ^ 10)) := by rw [q202, q203]; exact wFX H 10 (by decide)
  have q205 : (IntKind.wrap .i32 ((bxor .i32 (shrZ .i32 (wX b0 10) 10) (shrZ .i32 (wB b0 10) 31)) - (shrZ .i32 (wB b0 10) 31))) = (sg (wB b0 10) * (wX b0 10 / 2 ^ 10)) := by rw [q204]; exact wWX H 10 (by decide)
  obtain rfl : y1064 = (sg (wB b0 10) * (wX b0 10 / 2 ^ 10)) := e1064.trans q205
  clear q200 q201 q202 q203 q204 q205
  intro y1065 e1065 b1065
  clear b1065
  have q206 : (IntKind.wrap .i32 ((wY b0 9) + (sg (wB b0 9) * (wX b0 9 / 2 ^ 9)))) = (wY b0 10) := by exact wNY H 9 (by decide)
  have q207 : ((IntKind.wrap .i32 ((wY b0 9) + (sg (wB b0 9) * (wX b0 9 / 2 ^ 9)))) + (sg (wB b0 10) * (wX b0 10 / 2 ^ 10))) = ((wY b0 10) + (sg (wB b0 10) * (wX b0 10 / 2 ^ 10))) := by rw [q206]
  have q208 : (IntKind.wrap .i32 ((IntKind.wrap .i32 ((wY b0 9) + (sg (wB b0 9) * (wX b0 9 / 2 ^ 9)))) + (sg (wB b0 10) * (wX b0 10 / 2 ^ 10)))) = (wY b0 11) := by rw [q207]; exact wNY H 10 (by decide)
  obtain rfl : y1065 = (wY b0 11) := e1065.trans q208
  clear q206 q207 q208
  intro y1066 e1066 b1066
  clear b1066
  have q209 : (shrZ .i32 (wB b0 10) 31) = (dd (wB b0 10)) := by exact wD H 10 (by decide)
  have q210 : (bxor .i32 524288 (shrZ .i32 (wB b0 10) 31)) = (bxor .i32 524288 (dd (wB b0 10))) := by rw [q209]
  have q211 : (shrZ .i32 (wB b0 10) 31) = (dd (wB b0 10)) := by exact wD H 10 (by decide)
  have q212 : ((bxor .i32 524288 (shrZ .i32 (wB b0 10) 31)) - (shrZ .i32 (wB b0 10) 31)) = (sg (wB b0 10) * 524288) := by rw [q210, q211]; exact flip_sg _ (by decide) (by decide)
  have q213 : (IntKind.wrap .i32 ((bxor .i32 524288 (shrZ .i32 (wB b0 10) 31)) - (shrZ .i32 (wB b0 10) 31))) = (sg (wB b0 10) * 524288) := by rw [q212]; exact wrap_sg _ (by decide) (by decide)
  obtain rfl : y1066 = (sg (wB b0 10) * 524288) := e1066.trans q213
  clear q209 q210 q211 q212 q213
  intro y1067 e1067 b1067
  clear b1067
  have q214 : (IntKind.wrap .i32 ((wB b0 10) - (sg (wB b0 10) * 524288))) = (wB b0 11) := by exact wNB H 10 (by decide) rfl
  have q215 : (shrZ .i32 (IntKind.wrap .i32 ((wB b0 10) - (sg (wB b0 10) * 524288))) 31) = (dd (wB b0 11)) := by rw [q214]; exact wD H 11 (by decide)
  obtain rfl : y1067 = (dd (wB b0 11)) := e1067.trans q215
  clear q214 q215
  intro y1068 e1068 b1068
  clear b1068
  have q216 : (shrZ .i32 (wY b0 11) 11) = (wY b0 11 / 2 ^ 11) := by exact wSY H 11 (by decide) rfl
  have q217 : (bxor .i32 (shrZ .i32 (wY b0 11) 11) (dd (wB b0 11))) = (bxor .i32 (wY b0 11 / 2 ^ 11) (dd (wB b0 11))) := by rw [q216]
  have q218 : ((bxor .i32 (shrZ .i32 (wY b0 11) 11) (dd (wB b0 11))) - (dd (wB b0 11))) = (sg (wB b0 11) * (wY b0 11 / 2 ^ 11)) := by rw [q217]; exact wFY H 11 (by decide)
  have q219 : (IntKind.wrap .i32 ((bxor .i32 (shrZ .i32 (wY b0 11) 11) (dd (wB b0 11))) - (dd (wB b0 11)))) = (sg (wB b0 11) * (wY b0 11 / 2 ^ 11)) := by rw [q218]; exact wWY H 11 (by decide)
  obtain rfl : y1068 = (sg (wB b0 11) * (wY b0 11 / 2 ^ 11)) := e1068.trans q219
  clear q216 q217 q218 q219
  intro y1069 e1069 b1069
  clear b1069
  have q220 : (IntKind.wrap .i32 ((wX b0 10) - (sg (wB b0 10) * (wY b0 10 / 2 ^ 10)))) = (wX b0 11) := by exact wNX H 10 (by decide)
  have q221 : ((IntKind.wrap .i32 ((wX b0 10) - (sg (wB b0 10) * (wY b0 10 / 2 ^ 10)))) - (sg (wB b0 11) * (wY b0 11 / 2 ^ 11))) = ((wX b0 11) - (sg (wB b0 11) * (wY b0 11 / 2 ^ 11))) := by rw [q220]
  have q222 : (IntKind.wrap .i32 ((IntKind.wrap .i32 ((wX b0 10) - (sg (wB b0 10) * (wY b0 10 / 2 ^ 10)))) - (sg (wB b0 11) * (wY b0 11 / 2 ^ 11)))) = (wX b0 12) := by rw [q221]; exact wNX H 11 (by decide)
  obtain rfl : y1069 = (wX b0 12) := e1069.trans q222
  clear q220 q221 q222
  intro y1070 e1070 b1070
  clear b1070
  have q223 : (IntKind.wrap .i32 ((wX b0 10) - (sg (wB b0 10) * (wY b0 10 / 2 ^ 10)))) = (wX b0 11) := by exact wNX H 10 (by decide)
  have q224 : (shrZ .i32 (IntKind.wrap .i32 ((wX b0 10) - (sg (wB b0 10) * (wY b0 10 / 2 ^ 10)))) 11) = (wX b0 11 / 2 ^ 11) := by rw [q223]; exact wSX H 11 (by decide) rfl
  obtain rfl : y1070 = (wX b0 11 / 2 ^ 11) := e1070.trans q224
  clear q223 q224
  intro y1071 e1071 b1071
  clear b1071
  have q225 : ((bxor .i32 (wX b0 11 / 2 ^ 11) (dd (wB b0 11))) - (dd (wB b0 11))) = (sg (wB b0 11) * (wX b0 11 / 2 ^ 11)) := by exact wFX H 11 (by decide)
  have q226 : (IntKind.wrap .i32 ((bxor .i32 (wX b0 11 / 2 ^ 11) (dd (wB b0 11))) - (dd (wB b0 11)))) = (sg (wB b0 11) * (wX b0 11 / 2 ^ 11)) := by rw [q225]; exact wWX H 11 (by decide)
  obtain rfl : y1071 = (sg (wB b0 11) * (wX b0 11 / 2 ^ 11)) := e1071.trans q226
  clear q225 q226
  intro y1072 e1072 b1072
  clear b1072
  have q227 : ((bxor .i32 262144 (dd (wB b0 11))) - (dd (wB b0 11))) = (sg (wB b0 11) * 262144) := by exact flip_sg _ (by decide) (by decide)
  have q228 : (IntKind.wrap .i32 ((bxor .i32 262144 (dd (wB b0 11))) - (dd (wB b0 11)))) = (sg (wB b0 11) * 262144) := by rw [q227]; exact wrap_sg _ (by decide) (by decide)
  obtain rfl : y1072 = (sg (wB b0 11) * 262144) := e1072.trans q228
  clear q227 q228
  intro y1073 e1073 b1073
  clear b1073
  have q229 : (IntKind.wrap .i32 ((wB b0 10) - (sg (wB b0 10) * 524288))) = (wB b0 11) := by exact wNB H 10 (by decide) rfl
  have q230 : ((IntKind.wrap .i32 ((wB b0 10) - (sg (wB b0 10) * 524288))) - (sg (wB b0 11) * 262144)) = ((wB b0 11) - (sg (wB b0 11) * 262144)) := by rw [q229]
  have q231 : (IntKind.wrap .i32 ((IntKind.wrap .i32 ((wB b0 10) - (sg (wB b0 10) * 524288))) - (sg (wB b0 11) * 262144))) = (wB b0 12) := by rw [q230]; exact wNB H 11 (by decide) rfl
  obtain rfl : y1073 = (wB b0 12) := e1073.trans q231
  clear q229 q230 q231
  intro y1074 e1074 b1074
  clear b1074
  have q232 : (IntKind.wrap .i32 ((wY b0 11) + (sg (wB b0 11) * (wX b0 11 / 2 ^ 11)))) = (wY b0 12) := by exact wNY H 11 (by decide)
  have q233 : (shrZ .i32 (IntKind.wrap .i32 ((wY b0 11) + (sg (wB b0 11) * (wX b0 11 / 2 ^ 11)))) 12) = (wY b0 12 / 2 ^ 12) := by rw [q232]; exact wSY H 12 (by decide) rfl
  obtain rfl : y1074 = (wY b0 12 / 2 ^ 12) := e1074.trans q233
  clear q232 q233
  intro y1075 e1075 b1075
  clear b1075
  have q234 : (shrZ .i32 (wB b0 12) 31) = (dd (wB b0 12)) := by exact wD H 12 (by decide)
  have q235 : (bxor .i32 (wY b0 12 / 2 ^ 12) (shrZ .i32 (wB b0 12) 31)) = (bxor .i32 (wY b0 12 / 2 ^ 12) (dd (wB b0 12))) := by rw [q234]
  have q236 : (shrZ .i32 (wB b0 12) 31) = (dd (wB b0 12)) := by exact wD H 12 (by decide)
  have q237 : ((bxor .i32 (wY b0 12 / 2 ^ 12) (shrZ .i32 (wB b0 12) 31)) - (shrZ .i32 (wB b0 12) 31)) = (sg (wB b0 12) * (wY b0 12 / 2 ^ 12)) := by rw [q235, q236]; exact wFY H 12 (by decide)
  have q238 : (IntKind.wrap .i32 ((bxor .i32 (wY b0 12 / 2 ^ 12) (shrZ .i32 (wB b0 12) 31)) - (shrZ .i32 (wB b0 12) 31))) = (sg (wB b0 12) * (wY b0 12 / 2 ^ 12)) := by rw [q237]; exact wWY H 12 (by decide)
  obtain rfl : y1075 = (sg (wB b0 12) * (wY b0 12 / 2 ^ 12)) := e1075.trans q238
  clear q234 q235 q236 q237 q238
  intro y1076 e1076 b1076
  clear b1076
  have q239 : (shrZ .i32 (wX b0 12) 12) = (wX b0 12 / 2 ^ 12) := by exact wSX H 12 (by decide) rfl
  have q240 : (shrZ .i32 (wB b0 12) 31) = (dd (wB b0 12)) := by exact wD H 12 (by decide)
  have q241 : (bxor .i32 (shrZ .i32 (wX b0 12) 12) (shrZ .i32 (wB b0 12) 31)) = (bxor .i32 (wX b0 12 / 2 ^ 12) (dd (wB b0 12))) := by rw [q239, q240]
  have q242 : (shrZ .i32 (wB b0 12) 31) = (dd (wB b0 12)) := by exact wD H 12 (by decide)
  have q243 : ((bxor .i32 (shrZ .i32 (wX b0 12) 12) (shrZ .i32 (wB b0 12) 31)) - (shrZ .i32 (wB b0 12) 31)) = (sg (wB b0 12) * (wX b0 12 / 2 ^ 12)) := by rw [q241, q242]; exact wFX H 12 (by decide)
  have q244 : (IntKind.wrap .i32 ((bxor .i32 (shrZ .i32 (wX b0 12) 12) (shrZ .i32 (wB b0 12) 31)) - (shrZ .i32 (wB b0 12) 31))) = (sg (wB b0 12) * (wX b0 12 / 2 ^ 12)) := by rw [q243]; exact wWX H 12 (by decide)
  obtain rfl : y1076 = (sg (wB b0 12) * (wX b0 12 / 2 ^ 12)) := e1076.trans q244
  clear q239 q240 q241 q242 q243 q244
  intro y1077 e1077 b1077
  clear b1077
  have q245 : (IntKind.wrap .i32 ((wY b0 11) + (sg (wB b0 11) * (wX b0 11 / 2 ^ 11)))) = (wY b0 12) := by exact wNY H 11 (by decide)
  have q246 : ((IntKind.wrap .i32 ((wY b0 11) + (sg (wB b0 11) * (wX b0 11 / 2 ^ 11)))) + (sg (wB b0 12) * (wX b0 12 / 2 ^ 12))) = ((wY b0 12) + (sg (wB b0 12) * (wX b0 12 / 2 ^ 12))) := by rw [q245]
  have q247 : (IntKind.wrap .i32 ((IntKind.wrap .i32 ((wY b0 11) + (sg (wB b0 11) * (wX b0 11 / 2 ^ 11)))) + (sg (wB b0 12) * (wX b0 12 / 2 ^ 12)))) = (wY b0 13) := by rw [q246]; exact wNY H 12 (by decide)
  obtain rfl : y1077 = (wY b0 13) := e1077.trans q247
  clear q245 q246 q247
  intro y1078 e1078 b1078
  clear b1078
  have q248 : (shrZ .i32 (wB b0 12) 31) = (dd (wB b0 12)) := by exact wD H 12 (by decide)
  have q249 : (bxor .i32 131072 (shrZ .i32 (wB b0 12) 31)) = (bxor .i32 131072 (dd (wB b0 12))) := by rw [q248]
  have q250 : (shrZ .i32 (wB b0 12) 31) = (dd (wB b0 12)) := by exact wD H 12 (by decide)
  have q251 : ((bxor .i32 131072 (shrZ .i32 (wB b0 12) 31)) - (shrZ .i32 (wB b0 12) 31)) = (sg (wB b0 12) * 131072) := by rw [q249, q250]; exact flip_sg _ (by decide) (by decide)
  have q252 : (IntKind.wrap .i32 ((bxor .i32 131072 (shrZ .i32 (wB b0 12) 31)) - (shrZ .i32 (wB b0 12) 31))) = (sg (wB b0 12) * 131072) := by rw [q251]; exact wrap_sg _ (by decide) (by decide)
  obtain rfl : y1078 = (sg (wB b0 12) * 131072) := e1078.trans q252
  clear q248 q249 q250 q251 q252
  intro y1079 e1079 b1079
  clear b1079
  have q253 : (IntKind.wrap .i32 ((wB b0 12) - (sg (wB b0 12) * 131072))) = (wB b0 13) := by exact wNB H 12 (by decide) rfl
  have q254 : (shrZ .i32 (IntKind.wrap .i32 ((wB b0 12) - (sg (wB b0 12) * 131072))) 31) = (dd (wB b0 13)) := by rw [q253]; exact wD H 13 (by decide)
  obtain rfl : y1079 = (dd (wB b0 13)) := e1079.trans q254
  clear q253 q254
  intro y1080 e1080 b1080
  clear b1080
  have q255 : (shrZ .i32 (wY b0 13) 13) = (wY b0 13 / 2 ^ 13) := by exact wSY H 13 (by decide) rfl
  have q256 : (bxor .i32 (shrZ .i32 (wY b0 13) 13) (dd (wB b0 13))) = (bxor .i32 (wY b0 13 / 2 ^ 13) (dd (wB b0 13))) := by rw [q255]
  have q257 : ((bxor .i32 (shrZ .i32 (wY b0 13) 13) (dd (wB b0 13))) - (dd (wB b0 13))) = (sg (wB b0 13) * (wY b0 13 / 2 ^ 13)) := by rw [q256]; exact wFY H 13 (by decide)
  have q258 : (IntKind.wrap .i32 ((bxor .i32 (shrZ .i32 (wY b0 13) 13) (dd (wB b0 13))) - (dd (wB b0 13)))) = (sg (wB b0 13) * (wY b0 13 / 2 ^ 13)) := by rw [q257]; exact wWY H 13 (by decide)
  obtain rfl : y1080 = (sg (wB b0 13) * (wY b0 13 / 2 ^ 13)) := e1080.trans q258
  clear q255 q256 q257 q258
  intro y1081 e1081 b1081
  clear b1081
  have q259 : (IntKind.wrap .i32 ((wX b0 12) - (sg (wB b0 12) * (wY b0 12 / 2 ^ 12)))) = (wX b0 13) := by exact wNX H 12 (by decide)
  have q260 : ((IntKind.wrap .i32 ((wX b0 12) - (sg (wB b0 12) * (wY b0 12 / 2 ^ 12)))) - (sg (wB b0 13) * (wY b0 13 / 2 ^ 13))) = ((wX b0 13) - (sg (wB b0 13) * (wY b0 13 / 2 ^ 13))) := by rw [q259]
  have q261 : (IntKind.wrap .i32 ((IntKind.wrap .i32 ((wX b0 12) - (sg (wB b0 12) * (wY b0 12 / 2 ^ 12)))) - (sg (wB b0 13) * (wY b0 13 / 2 ^ 13)))) = (wX b0 14) := by rw [q260]; exact wNX H 13 (by decide)
  obtain rfl : y1081 = (wX b0 14) := e1081.trans q261
  clear q259 q260 q261
  intro y1082 e1082 b1082
  clear b1082
  have q262 : (IntKind.wrap .i32 ((wX b0 12) - (sg (wB b0 12) * (wY b0 12 / 2 ^ 12)))) = (wX b0 13) := by exact wNX H 12 (by decide)
  have q263 : (shrZ .i32 (IntKind.wrap .i32 ((wX b0 12) - (sg (wB b0 12) * (wY b0 12 / 2 ^ 12)))) 13) = (wX b0 13 / 2 ^ 13) := by rw [q262]; exact wSX H 13 (by decide) rfl
  obtain rfl : y1082 = (wX b0 13 / 2 ^ 13) := e1082.trans q263
  clear q262 q263
  intro y1083 e1083 b1083
  clear b1083
  have q264 : ((bxor .i32 (wX b0 13 / 2 ^ 13) (dd (wB b0 13))) - (dd (wB b0 13))) = (sg (wB b0 13) * (wX b0 13 / 2 ^ 13)) := by exact wFX H 13 (by decide)
  have q265 : (IntKind.wrap .i32 ((bxor .i32 (wX b0 13 / 2 ^ 13) (dd (wB b0 13))) - (dd (wB b0 13)))) = (sg (wB b0 13) * (wX b0 13 / 2 ^ 13)) := by rw [q264]; exact wWX H 13 (by decide)
  obtain rfl : y1083 = (sg (wB b0 13) * (wX b0 13 / 2 ^ 13)) := e1083.trans q265
  clear q264 q265
  intro y1084 e1084 b1084
  clear b1084
  have q266 : ((bxor .i32 65536 (dd (wB b0 13))) - (dd (wB b0 13))) = (sg (wB b0 13) * 65536) := by exact flip_sg _ (by decide) (by decide)
  have q267 : (IntKind.wrap .i32 ((bxor .i32 65536 (dd (wB b0 13))) - (dd (wB b0 13)))) = (sg (wB b0 13) * 65536) := by rw [q266]; exact wrap_sg _ (by decide) (by decide)
  obtain rfl : y1084 = (sg (wB b0 13) * 65536) := e1084.trans q267
  clear q266 q267
  intro y1085 e1085 b1085
  clear b1085
  have q268 : (IntKind.wrap .i32 ((wB b0 12) - (sg (wB b0 12) * 131072))) = (wB b0 13) := by exact wNB H 12 (by decide) rfl
  have q269 : ((IntKind.wrap .i32 ((wB b0 12) - (sg (wB b0 12) * 131072))) - (sg (wB b0 13) * 65536)) = ((wB b0 13) - (sg (wB b0 13) * 65536)) := by rw [q268]
  have q270 : (IntKind.wrap .i32 ((IntKind.wrap .i32 ((wB b0 12) - (sg (wB b0 12) * 131072))) - (sg (wB b0 13) * 65536))) = (wB b0 14) := by rw [q269]; exact wNB H 13 (by decide) rfl
  obtain rfl : y1085 = (wB b0 14) := e1085.trans q270
  clear q268 q269 q270
  intro y1086 e1086 b1086
  clear b1086
  have q271 : (IntKind.wrap .i32 ((wY b0 13) + (sg (wB b0 13) * (wX b0 13 / 2 ^ 13)))) = (wY b0 14) := by exact wNY H 13 (by decide)
  have q272 : (shrZ .i32 (IntKind.wrap .i32 ((wY b0 13) + (sg (wB b0 13) * (wX b0 13 / 2 ^ 13)))) 14) = (wY b0 14 / 2 ^ 14) := by rw [q271]; exact wSY H 14 (by decide) rfl
  obtain rfl : y1086 = (wY b0 14 / 2 ^ 14) := e1086.trans q272
  clear q271 q272
  intro y1087 e1087 b1087
  clear b1087
  have q273 : (shrZ .i32 (wB b0 14) 31) = (dd (wB b0 14)) := by exact wD H 14 (by decide)
  have q274 : (bxor .i32 (wY b0 14 / 2 ^ 14) (shrZ .i32 (wB b0 14) 31)) = (bxor .i32 (wY b0 14 / 2 ^ 14) (dd (wB b0 14))) := by rw [q273]
  have q275 : (shrZ .i32 (wB b0 14) 31) = (dd (wB b0 14)) := by exact wD H 14 (by decide)
  have q276 : ((bxor .i32 (wY b0 14 / 2 ^ 14) (shrZ .i32 (wB b0 14) 31)) - (shrZ .i32 (wB b0 14) 31)) = (sg (wB b0 14) * (wY b0 14 / 2 ^ 14)) := by rw [q274, q275]; exact wFY H 14 (by decide)
  have q277 : (IntKind.wrap .i32 ((bxor .i32 (wY b0 14 / 2 ^ 14) (shrZ .i32 (wB b0 14) 31)) - (shrZ .i32 (wB b0 14) 31))) = (sg (wB b0 14) * (wY b0 14 / 2 ^ 14)) := by rw [q276]; exact wWY H 14 (by decide)
  obtain rfl : y1087 = (sg (wB b0 14) * (wY b0 14 / 2 ^ 14)) := e1087.trans q277
  clear q273 q274 q275 q276 q277
  intro y1088 e1088 b1088
  clear b1088
  have q278 : (shrZ .i32 (wX b0 14) 14) = (wX b0 14 / 2 ^ 14) := by exact wSX H 14 (by decide) rfl
  have q279 : (shrZ .i32 (wB b0 14) 31) = (dd (wB b0 14)) := by exact wD H 14 (by decide)
  have q280 : (bxor .i32 (shrZ .i32 (wX b0 14) 14) (shrZ .i32 (wB b0 14) 31)) = (bxor .i32 (wX b0 14 / 2 ^ 14) (dd (wB b0 14))) := by rw [q278, q279]
  have q281 : (shrZ .i32 (wB b0 14) 31) = (dd (wB b0 14)) := by exact wD H 14 (by decide)
  have q282 : ((bxor .i32 (shrZ .i32 (wX b0 14) 14) (shrZ .i32 (wB b0 14) 31)) - (shrZ .i32 (wB b0 14) 31)) = (sg (wB b0 14) * (wX b0 14 / 2 ^ 14)) := by rw [q280, q281]; exact wFX H 14 (by decide)
  have q283 : (IntKind.wrap .i32 ((bxor .i32 (shrZ .i32 (wX b0 14) 14) (shrZ .i32 (wB b0 14) 31)) - (shrZ .i32 (wB b0 14) 31))) = (sg (wB b0 14) * (wX b0 14 / 2 ^ 14)) := by rw [q282]; exact wWX H 14 (by decide)
  obtain rfl : y1088 = (sg (wB b0 14) * (wX b0 14 / 2 ^ 14)) := e1088.trans q283
  clear q278 q279 q280 q281 q282 q283
  intro y1089 e1089 b1089
  clear b1089
  have q284 : (IntKind.wrap .i32 ((wY b0 13) + (sg (wB b0 13) * (wX b0 13 / 2 ^ 13)))) = (wY b0 14) := by exact wNY H 13 (by decide)
  have q285 : ((IntKind.wrap .i32 ((wY b0 13) + (sg (wB b0 13) * (wX b0 13 / 2 ^ 13)))) + (sg (wB b0 14) * (wX b0 14 / 2 ^ 14))) = ((wY b0 14) + (sg (wB b0 14) * (wX b0 14 / 2 ^ 14))) := by rw [q284]
  have q286 : (IntKind.wrap .i32 ((IntKind.wrap .i32 ((wY b0 13) + (sg (wB b0 13) * (wX b0 13 / 2 ^ 13)))) + (sg (wB b0 14) * (wX b0 14 / 2 ^ 14)))) = (wY b0 15) := by rw [q285]; exact wNY H 14 (by decide)
  obtain rfl : y1089 = (wY b0 15) := e1089.trans q286
  clear q284 q285 q286
  intro y1090 e1090 b1090
  clear b1090
  have q287 : (shrZ .i32 (wB b0 14) 31) = (dd (wB b0 14)) := by exact wD H 14 (by decide)
  have q288 : (bxor .i32 32768 (shrZ .i32 (wB b0 14) 31)) = (bxor .i32 32768 (dd (wB b0 14))) := by rw [q287]
  have q289 : (shrZ .i32 (wB b0 14) 31) = (dd (wB b0 14)) := by exact wD H 14 (by decide)
  have q290 : ((bxor .i32 32768 (shrZ .i32 (wB b0 14) 31)) - (shrZ .i32 (wB b0 14) 31)) = (sg (wB b0 14) * 32768) := by rw [q288, q289]; exact flip_sg _ (by decide) (by decide)
  have q291 : (IntKind.wrap .i32 ((bxor .i32 32768 (shrZ .i32 (wB b0 14) 31)) - (shrZ .i32 (wB b0 14) 31))) = (sg (wB b0 14) * 32768) := by rw [q290]; exact wrap_sg _ (by decide) (by decide)
  obtain rfl : y1090 = (sg (wB b0 14) * 32768) := e1090.trans q291
  clear q287 q288 q289 q290 q291
  intro y1091 e1091 b1091
  clear b1091
  have q292 : (IntKind.wrap .i32 ((wB b0 14) - (sg (wB b0 14) * 32768))) = (wB b0 15) := by exact wNB H 14 (by decide) rfl
  have q293 : (shrZ .i32 (IntKind.wrap .i32 ((wB b0 14) - (sg (wB b0 14) * 32768))) 31) = (dd (wB b0 15)) := by rw [q292]; exact wD H 15 (by decide)
  obtain rfl : y1091 = (dd (wB b0 15)) := e1091.trans q293
  clear q292 q293
  intro y1092 e1092 b1092
  clear b1092
  have q294 : (shrZ .i32 (wY b0 15) 15) = (wY b0 15 / 2 ^ 15) := by exact wSY H 15 (by decide) rfl
  have q295 : (bxor .i32 (shrZ .i32 (wY b0 15) 15) (dd (wB b0 15))) = (bxor .i32 (wY b0 15 / 2 ^ 15) (dd (wB b0 15))) := by rw [q294]
  have q296 : ((bxor .i32 (shrZ .i32 (wY b0 15) 15) (dd (wB b0 15))) - (dd (wB b0 15))) = (sg (wB b0 15) * (wY b0 15 / 2 ^ 15)) := by rw [q295]; exact wFY H 15 (by decide)
  have q297 : (IntKind.wrap .i32 ((bxor .i32 (shrZ .i32 (wY b0 15) 15) (dd (wB b0 15))) - (dd (wB b0 15)))) = (sg (wB b0 15) * (wY b0 15 / 2 ^ 15)) := by rw [q296]; exact wWY H 15 (by decide)
  obtain rfl : y1092 = (sg (wB b0 15) * (wY b0 15 / 2 ^ 15)) := e1092.trans q297
  clear q294 q295 q296 q297
  intro y1093 e1093 b1093
  clear b1093
  have q298 : (IntKind.wrap .i32 ((wX b0 14) - (sg (wB b0 14) * (wY b0 14 / 2 ^ 14)))) = (wX b0 15) := by exact wNX H 14 (by decide)
  have q299 : ((IntKind.wrap .i32 ((wX b0 14) - (sg (wB b0 14) * (wY b0 14 / 2 ^ 14)))) - (sg (wB b0 15) * (wY b0 15 / 2 ^ 15))) = ((wX b0 15) - (sg (wB b0 15) * (wY b0 15 / 2 ^ 15))) := by rw [q298]
  have q300 : (IntKind.wrap .i32 ((IntKind.wrap .i32 ((wX b0 14) - (sg (wB b0 14) * (wY b0 14 / 2 ^ 14)))) - (sg (wB b0 15) * (wY b0 15 / 2 ^ 15)))) = (wX b0 16) := by rw [q299]; exact wNX H 15 (by decide)
  obtain rfl : y1093 = (wX b0 16) := e1093.trans q300
  clear q298 q299 q300
  intro y1094 e1094 b1094
  clear b1094
  have q301 : (IntKind.wrap .i32 ((wX b0 14) - (sg (wB b0 14) * (wY b0 14 / 2 ^ 14)))) = (wX b0 15) := by exact wNX H 14 (by decide)
  have q302 : (shrZ .i32 (IntKind.wrap .i32 ((wX b0 14) - (sg (wB b0 14) * (wY b0 14 / 2 ^ 14)))) 15) = (wX b0 15 / 2 ^ 15) := by rw [q301]; exact wSX H 15 (by decide) rfl
  obtain rfl : y1094 = (wX b0 15 / 2 ^ 15) := e1094.trans q302
  clear q301 q302
  intro y1095 e1095 b1095
  clear b1095
  have q303 : ((bxor .i32 (wX b0 15 / 2 ^ 15) (dd (wB b0 15))) - (dd (wB b0 15))) = (sg (wB b0 15) * (wX b0 15 / 2 ^ 15)) := by exact wFX H 15 (by decide)
  have q304 : (IntKind.wrap .i32 ((bxor .i32 (wX b0 15 / 2 ^ 15) (dd (wB b0 15))) - (dd (wB b0 15)))) = (sg (wB b0 15) * (wX b0 15 / 2 ^ 15)) := by rw [q303]; exact wWX H 15 (by decide)
  obtain rfl : y1095 = (sg (wB b0 15) * (wX b0 15 / 2 ^ 15)) := e1095.trans q304
  clear q303 q304
  intro y1096 e1096 b1096
  clear b1096
  have q305 : ((bxor .i32 16384 (dd (wB b0 15))) - (dd (wB b0 15))) = (sg (wB b0 15) * 16384) := by exact flip_sg _ (by decide) (by decide)
  have q306 : (IntKind.wrap .i32 ((bxor .i32 16384 (dd (wB b0 15))) - (dd (wB b0 15)))) = (sg (wB b0 15) * 16384) := by rw [q305]; exact wrap_sg _ (by decide) (by decide)
  obtain rfl : y1096 = (sg (wB b0 15) * 16384) := e1096.trans q306
  clear q305 q306
  intro y1097 e1097 b1097
  clear b1097
  have q307 : (IntKind.wrap .i32 ((wB b0 14) - (sg (wB b0 14) * 32768))) = (wB b0 15) := by exact wNB H 14 (by decide) rfl
  have q308 : ((IntKind.wrap .i32 ((wB b0 14) - (sg (wB b0 14) * 32768))) - (sg (wB b0 15) * 16384)) = ((wB b0 15) - (sg (wB b0 15) * 16384)) := by rw [q307]
  have q309 : (IntKind.wrap .i32 ((IntKind.wrap .i32 ((wB b0 14) - (sg (wB b0 14) * 32768))) - (sg (wB b0 15) * 16384))) = (wB b0 16) := by rw [q308]; exact wNB H 15 (by decide) rfl
  obtain rfl : y1097 = (wB b0 16) := e1097.trans q309
  clear q307 q308 q309
  intro y1098 e1098 b1098
  clear b1098
  have q310 : (IntKind.wrap .i32 ((wY b0 15) + (sg (wB b0 15) * (wX b0 15 / 2 ^ 15)))) = (wY b0 16) := by exact wNY H 15 (by decide)
  have q311 : (shrZ .i32 (IntKind.wrap .i32 ((wY b0 15) + (sg (wB b0 15) * (wX b0 15 / 2 ^ 15)))) 16) = (wY b0 16 / 2 ^ 16) := by rw [q310]; exact wSY H 16 (by decide) rfl
  obtain rfl : y1098 = (wY b0 16 / 2 ^ 16) := e1098.trans q311
  clear q310 q311
  intro y1099 e1099 b1099
  clear b1099
  have q312 : (shrZ .i32 (wB b0 16) 31) = (dd (wB b0 16)) := by exact wD H 16 (by decide)
  have q313 : (bxor .i32 (wY b0 16 / 2 ^ 16) (shrZ .i32 (wB b0 16) 31)) = (bxor .i32 (wY b0 16 / 2 ^ 16) (dd (wB b0 16))) := by rw [q312]
  have q314 : (shrZ .i32 (wB b0 16) 31) = (dd (wB b0 16)) := by exact wD H 16 (by decide)
  have q315 : ((bxor .i32 (wY b0 16 / 2 ^ 16) (shrZ .i32 (wB b0 16) 31)) - (shrZ .i32 (wB b0 16) 31)) = (sg (wB b0 16) * (wY b0 16 / 2 ^ 16)) := by rw [q313, q314]; exact wFY H 16 (by decide)
  have q316 : (IntKind.wrap .i32 ((bxor .i32 (wY b0 16 / 2 ^ 16) (shrZ .i32 (wB b0 16) 31)) - (shrZ .i32 (wB b0 16) 31))) = (sg (wB b0 16) * (wY b0 16 / 2 ^ 16)) := by rw [q315]; exact wWY H 16 (by decide)
  obtain rfl : y1099 = (sg (wB b0 16) * (wY b0 16 / 2 ^ 16)) := e1099.trans q316
  clear q312 q313 q314 q315 q316
  intro y1100 e1100 b1100
  clear b1100
  have q317 : (shrZ .i32 (wX b0 16) 16) = (wX b0 16 / 2 ^ 16) := by exact wSX H 16 (by decide) rfl
  have q318 : (shrZ .i32 (wB b0 16) 31) = (dd (wB b0 16)) := by exact wD H 16 (by decide)
  have q319 : (bxor .i32 (shrZ .i32 (wX b0 16) 16) (shrZ .i32 (wB b0 16) 31)) = (bxor .i32 (wX b0 16 / 2 ^ 16) (dd (wB b0 16))) := by rw [q317, q318]
  have q320 : (shrZ .i32 (wB b0 16) 31) = (dd (wB b0 16)) := by exact wD H 16 (by decide)
  have q321 : ((bxor .i32 (shrZ .i32 (wX b0 16) 16) (shrZ .i32 (wB b0 16) 31)) - (shrZ .i32 (wB b0 16) 31)) = (sg (wB b0 16) * (wX b0 16 / 2 ^ 16)) := by rw [q319, q320]; exact wFX H 16 (by decide)
  have q322 : (IntKind.wrap .i32 ((bxor .i32 (shrZ .i32 (wX b0 16) 16) (shrZ .i32 (wB b0 16) 31)) - (shrZ .i32 (wB b0 16) 31))) = (sg (wB b0 16) * (wX b0 16 / 2 ^ 16)) := by rw [q321]; exact wWX H 16 (by decide)
  obtain rfl : y1100 = (sg (wB b0 16) * (wX b0 16 / 2 ^ 16)) := e1100.trans q322
  clear q317 q318 q319 q320 q321 q322
  intro y1101 e1101 b1101
  clear b1101
  have q323 : (IntKind.wrap .i32 ((wY b0 15) + (sg (wB b0 15) * (wX b0 15 / 2 ^ 15)))) = (wY b0 16) := by exact wNY H 15 (by decide)
  have q324 : ((IntKind.wrap .i32 ((wY b0 15) + (sg (wB b0 15) * (wX b0 15 / 2 ^ 15)))) + (sg (wB b0 16) * (wX b0 16 / 2 ^ 16))) = ((wY b0 16) + (sg (wB b0 16) * (wX b0 16 / 2 ^ 16))) := by rw [q323]
  have q325 : (IntKind.wrap .i32 ((IntKind.wrap .i32 ((wY b0 15) + (sg (wB b0 15) * (wX b0 15 / 2 ^ 15)))) + (sg (wB b0 16) * (wX b0 16 / 2 ^ 16)))) = (wY b0 17) := by rw [q324]; exact wNY H 16 (by decide)
  obtain rfl : y1101 = (wY b0 17) := e1101.trans q325
  clear q323 q324 q325
  intro y1102 e1102 b1102
  clear b1102
  have q326 : (shrZ .i32 (wB b0 16) 31) = (dd (wB b0 16)) := by exact wD H 16 (by decide)
  have q327 : (bxor .i32 8192 (shrZ .i32 (wB b0 16) 31)) = (bxor .i32 8192 (dd (wB b0 16))) := by rw [q326]
  have q328 : (shrZ .i32 (wB b0 16) 31) = (dd (wB b0 16)) := by exact wD H 16 (by decide)
  have q329 : ((bxor .i32 8192 (shrZ .i32 (wB b0 16) 31)) - (shrZ .i32 (wB b0 16) 31)) = (sg (wB b0 16) * 8192) := by rw [q327, q328]; exact flip_sg _ (by decide) (by decide)
  have q330 : (IntKind.wrap .i32 ((bxor .i32 8192 (shrZ .i32 (wB b0 16) 31)) - (shrZ .i32 (wB b0 16) 31))) = (sg (wB b0 16) * 8192) := by rw [q329]; exact wrap_sg _ (by decide) (by decide)
  obtain rfl : y1102 = (sg (wB b0 16) * 8192) := e1102.trans q330
  clear q326 q327 q328 q329 q330
  intro y1103 e1103 b1103
  clear b1103
  have q331 : (IntKind.wrap .i32 ((wB b0 16) - (sg (wB b0 16) * 8192))) = (wB b0 17) := by exact wNB H 16 (by decide) rfl
  have q332 : (shrZ .i32 (IntKind.wrap .i32 ((wB b0 16) - (sg (wB b0 16) * 8192))) 31) = (dd (wB b0 17)) := by rw [q331]; exact wD H 17 (by decide)
  obtain rfl : y1103 = (dd (wB b0 17)) := e1103.trans q332
  clear q331 q332
  intro y1104 e1104 b1104
  clear b1104
  have q333 : (shrZ .i32 (wY b0 17) 17) = (wY b0 17 / 2 ^ 17) := by exact wSY H 17 (by decide) rfl
  have q334 : (bxor .i32 (shrZ .i32 (wY b0 17) 17) (dd (wB b0 17))) = (bxor .i32 (wY b0 17 / 2 ^ 17) (dd (wB b0 17))) := by rw [q333]
  have q335 : ((bxor .i32 (shrZ .i32 (wY b0 17) 17) (dd (wB b0 17))) - (dd (wB b0 17))) = (sg (wB b0 17) * (wY b0 17 / 2 ^ 17)) := by rw [q334]; exact wFY H 17 (by decide)
  have q336 : (IntKind.wrap .i32 ((bxor .i32 (shrZ .i32 (wY b0 17) 17) (dd (wB b0 17))) - (dd (wB b0 17)))) = (sg (wB b0 17) * (wY b0 17 / 2 ^ 17)) := by rw [q335]; exact wWY H 17 (by decide)
  obtain rfl : y1104 = (sg (wB b0 17) * (wY b0 17 / 2 ^ 17)) := e1104.trans q336
  clear q333 q334 q335 q336
  intro y1105 e1105 b1105
  clear b1105
  have q337 : (IntKind.wrap .i32 ((wX b0 16) - (sg (wB b0 16) * (wY b0 16 / 2 ^ 16)))) = (wX b0 17) := by exact wNX H 16 (by decide)
  have q338 : ((IntKind.wrap .i32 ((wX b0 16) - (sg (wB b0 16) * (wY b0 16 / 2 ^ 16)))) - (sg (wB b0 17) * (wY b0 17 / 2 ^ 17))) = ((wX b0 17) - (sg (wB b0 17) * (wY b0 17 / 2 ^ 17))) := by rw [q337]
  have q339 : (IntKind.wrap .i32 ((IntKind.wrap .i32 ((wX b0 16) - (sg (wB b0 16) * (wY b0 16 / 2 ^ 16)))) - (sg (wB b0 17) * (wY b0 17 / 2 ^ 17)))) = (wX b0 18) := by rw [q338]; exact wNX H 17 (by decide)
  obtain rfl : y1105 = (wX b0 18) := e1105.trans q339
  clear q337 q338 q339
  intro y1106 e1106 b1106
  clear b1106
  have q340 : (IntKind.wrap .i32 ((wX b0 16) - (sg (wB b0 16) * (wY b0 16 / 2 ^ 16)))) = (wX b0 17) := by exact wNX H 16 (by decide)
  have q341 : (shrZ .i32 (IntKind.wrap .i32 ((wX b0 16) - (sg (wB b0 16) * (wY b0 16 / 2 ^ 16)))) 17) = (wX b0 17 / 2 ^ 17) := by rw [q340]; exact wSX H 17 (by decide) rfl
  obtain rfl : y1106 = (wX b0 17 / 2 ^ 17) := e1106.trans q341
  clear q340 q341
  intro y1107 e1107 b1107
  clear b1107
  have q342 : ((bxor .i32 (wX b0 17 / 2 ^ 17) (dd (wB b0 17))) - (dd (wB b0 17))) = (sg (wB b0 17) * (wX b0 17 / 2 ^ 17)) := by exact wFX H 17 (by decide)
  have q343 : (IntKind.wrap .i32 ((bxor .i32 (wX b0 17 / 2 ^ 17) (dd (wB b0 17))) - (dd (wB b0 17)))) = (sg (wB b0 17) * (wX b0 17 / 2 ^ 17)) := by rw [q342]; exact wWX H 17 (by decide)
  obtain rfl : y1107 = (sg (wB b0 17) * (wX b0 17 / 2 ^ 17)) := e1107.trans q343
  clear q342 q343
  intro y1108 e1108 b1108
  clear b1108
  have q344 : ((bxor .i32 4096 (dd (wB b0 17))) - (dd (wB b0 17))) = (sg (wB b0 17) * 4096) := by exact flip_sg _ (by decide) (by decide)
  have q345 : (IntKind.wrap .i32 ((bxor .i32 4096 (dd (wB b0 17))) - (dd (wB b0 17)))) = (sg (wB b0 17) * 4096) := by rw [q344]; exact wrap_sg _ (by decide) (by decide)
  obtain rfl : y1108 = (sg (wB b0 17) * 4096) := e1108.trans q345
  clear q344 q345
  intro y1109 e1109 b1109
  clear b1109
  have q346 : (IntKind.wrap .i32 ((wB b0 16) - (sg (wB b0 16) * 8192))) = (wB b0 17) := by exact wNB H 16 (by decide) rfl
  have q347 : ((IntKind.wrap .i32 ((wB b0 16) - (sg (wB b0 16) * 8192))) - (sg (wB b0 17) * 4096)) = ((wB b0 17) - (sg (wB b0 17) * 4096)) := by rw [q346]
  have q348 : (IntKind.wrap .i32 ((IntKind.wrap .i32 ((wB b0 16) - (sg (wB b0 16) * 8192))) - (sg (wB b0 17) * 4096))) = (wB b0 18) := by rw [q347]; exact wNB H 17 (by decide) rfl
  obtain rfl : y1109 = (wB b0 18) := e1109.trans q348
  clear q346 q347 q348
  intro y1110 e1110 b1110
  clear b1110
  have q349 : (IntKind.wrap .i32 ((wY b0 17) + (sg (wB b0 17) * (wX b0 17 / 2 ^ 17)))) = (wY b0 18) := by exact wNY H 17 (by decide)
  have q350 : (shrZ .i32 (IntKind.wrap .i32 ((wY b0 17) + (sg (wB b0 17) * (wX b0 17 / 2 ^ 17)))) 18) = (wY b0 18 / 2 ^ 18) := by rw [q349]; exact wSY H 18 (by decide) rfl
  obtain rfl : y1110 = (wY b0 18 / 2 ^ 18) := e1110.trans q350
  clear q349 q350
  intro y1111 e1111 b1111
  clear b1111
  have q351 : (shrZ .i32 (wB b0 18) 31) = (dd (wB b0 18)) := by exact wD H 18 (by decide)
  have q352 : (bxor .i32 (wY b0 18 / 2 ^ 18) (shrZ .i32 (wB b0 18) 31)) = (bxor .i32 (wY b0 18 / 2 ^ 18) (dd (wB b0 18))) := by rw [q351]
  have q353 : (shrZ .i32 (wB b0 18) 31) = (dd (wB b0 18)) := by exact wD H 18 (by decide)
  have q354 : ((bxor .i32 (wY b0 18 / 2 ^ 18) (shrZ .i32 (wB b0 18) 31)) - (shrZ .i32 (wB b0 18) 31)) = (sg (wB b0 18) * (wY b0 18 / 2 ^ 18)) := by rw [q352, q353]; exact wFY H 18 (by decide)
  have q355 : (IntKind.wrap .i32 ((bxor .i32 (wY b0 18 / 2 ^ 18) (shrZ .i32 (wB b0 18) 31)) - (shrZ .i32 (wB b0 18) 31))) = (sg (wB b0 18) * (wY b0 18 / 2 ^ 18)) := by rw [q354]; exact wWY H 18 (by decide)
  obtain rfl : y1111 = (sg (wB b0 18) * (wY b0 18 / 2 ^ 18)) := e1111.trans q355
  clear q351 q352 q353 q354 q355
  intro y1112 e1112 b1112
  clear b1112
  have q356 : (shrZ .i32 (wX b0 18) 18) = (wX b0 18 / 2 ^ 18) := by exact wSX H 18 (by decide) rfl
  have q357 : (shrZ .i32 (wB b0 18) 31) = (dd (wB b0 18)) := by exact wD H 18 (by decide)
  have q358 : (bxor .i32 (shrZ .i32 (wX b0 18) 18) (shrZ .i32 (wB b0 18) 31)) = (bxor .i32 (wX b0 18 / 2 ^ 18) (dd (wB b0 18))) := by rw [q356, q357]
  have q359 : (shrZ .i32 (wB b0 18) 31) = (dd (wB b0 18)) := by exact wD H 18 (by decide)
  have q360 : ((bxor .i32 (shrZ .i32 (wX b0 18) 18) (shrZ .i32 (wB b0 18) 31)) - (shrZ .i32 (wB b0 18) 31)) = (sg (wB b0 18) * (wX b0 18 / 2 ^ 18)) := by rw [q358, q359]; exact wFX H 18 (by decide)
  have q361 : (IntKind.wrap .i32 ((bxor .i32 (shrZ .i32 (wX b0 18) 18) (shrZ .i32 (wB b0 18) 31)) - (shrZ .i32 (wB b0 18) 31))) = (sg (wB b0 18) * (wX b0 18 / 2 ^ 18)) := by rw [q360]; exact wWX H 18 (by decide)
  obtain rfl : y1112 = (sg (wB b0 18) * (wX b0 18 / 2 ^ 18)) := e1112.trans q361
  clear q356 q357 q358 q359 q360 q361
  intro y1113 e1113 b1113
  clear b1113
  have q362 : (IntKind.wrap .i32 ((wY b0 17) + (sg (wB b0 17) * (wX b0 17 / 2 ^ 17)))) = (wY b0 18) := by exact wNY H 17 (by decide)
  have q363 : ((IntKind.wrap .i32 ((wY b0 17) + (sg (wB b0 17) * (wX b0 17 / 2 ^ 17)))) + (sg (wB b0 18) * (wX b0 18 / 2 ^ 18))) = ((wY b0 18) + (sg (wB b0 18) * (wX b0 18 / 2 ^ 18))) := by rw [q362]
  have q364 : (IntKind.wrap .i32 ((IntKind.wrap .i32 ((wY b0 17) + (sg (wB b0 17) * (wX b0 17 / 2 ^ 17)))) + (sg (wB b0 18) * (wX b0 18 / 2 ^ 18)))) = (wY b0 19) := by rw [q363]; exact wNY H 18 (by decide)
  obtain rfl : y1113 = (wY b0 19) := e1113.trans q364
  clear q362 q363 q364
  intro y1114 e1114 b1114
  clear b1114
  have q365 : (shrZ .i32 (wB b0 18) 31) = (dd (wB b0 18)) := by exact wD H 18 (by decide)
  have q366 : (bxor .i32 2048 (shrZ .i32 (wB b0 18) 31)) = (bxor .i32 2048 (dd (wB b0 18))) := by rw [q365]
  have q367 : (shrZ .i32 (wB b0 18) 31) = (dd (wB b0 18)) := by exact wD H 18 (by decide)
  have q368 : ((bxor .i32 2048 (shrZ .i32 (wB b0 18) 31)) - (shrZ .i32 (wB b0 18) 31)) = (sg (wB b0 18) * 2048) := by rw [q366, q367]; exact flip_sg _ (by decide) (by decide)
  have q369 : (IntKind.wrap .i32 ((bxor .i32 2048 (shrZ .i32 (wB b0 18) 31)) - (shrZ .i32 (wB b0 18) 31))) = (sg (wB b0 18) * 2048) := by rw [q368]; exact wrap_sg _ (by decide) (by decide)
  obtain rfl : y1114 = (sg (wB b0 18) * 2048) := e1114.trans q369
  clear q365 q366 q367 q368 q369
  intro y1115 e1115 b1115
  clear b1115
  have q370 : (IntKind.wrap .i32 ((wB b0 18) - (sg (wB b0 18) * 2048))) = (wB b0 19) := by exact wNB H 18 (by decide) rfl
  have q371 : (shrZ .i32 (IntKind.wrap .i32 ((wB b0 18) - (sg (wB b0 18) * 2048))) 31) = (dd (wB b0 19)) := by rw [q370]; exact wD H 19 (by decide)
  obtain rfl : y1115 = (dd (wB b0 19)) := e1115.trans q371
  clear q370 q371
  intro y1116 e1116 b1116
  clear b1116
  have q372 : (shrZ .i32 (wY b0 19) 19) = (wY b0 19 / 2 ^ 19) := by exact wSY H 19 (by decide) rfl
  have q373 : (bxor .i32 (shrZ .i32 (wY b0 19) 19) (dd (wB b0 19))) = (bxor .i32 (wY b0 19 / 2 ^ 19) (dd (wB b0 19))) := by rw [q372]
  have q374 : ((bxor .i32 (shrZ .i32 (wY b0 19) 19) (dd (wB b0 19))) - (dd (wB b0 19))) = (sg (wB b0 19) * (wY b0 19 / 2 ^ 19)) := by rw [q373]; exact wFY H 19 (by decide)
  have q375 : (IntKind.wrap .i32 ((bxor .i32 (shrZ .i32 (wY b0 19) 19) (dd (wB b0 19))) - (dd (wB b0 19)))) = (sg (wB b0 19) * (wY b0 19 / 2 ^ 19)) := by rw [q374]; exact wWY H 19 (by decide)
  obtain rfl : y1116 = (sg (wB b0 19) * (wY b0 19 / 2 ^ 19)) := e1116.trans q375
  clear q372 q373 q374 q375
  intro y1117 e1117 b1117
  clear b1117
  have q376 : (IntKind.wrap .i32 ((wX b0 18) - (sg (wB b0 18) * (wY b0 18 / 2 ^ 18)))) = (wX b0 19) := by exact wNX H 18 (by decide)
  have q377 : ((IntKind.wrap .i32 ((wX b0 18) - (sg (wB b0 18) * (wY b0 18 / 2 ^ 18)))) - (sg (wB b0 19) * (wY b0 19 / 2 ^ 19))) = ((wX b0 19) - (sg (wB b0 19) * (wY b0 19 / 2 ^ 19))) := by rw [q376]
  have q378 : (IntKind.wrap .i32 ((IntKind.wrap .i32 ((wX b0 18) - (sg (wB b0 18) * (wY b0 18 / 2 ^ 18)))) - (sg (wB b0 19) * (wY b0 19 / 2 ^ 19)))) = (wX b0 20) := by rw [q377]; exact wNX H 19 (by decide)
  obtain rfl : y1117 = (wX b0 20) := e1117.trans q378
  clear q376 q377 q378
  intro y1118 e1118 b1118
  clear b1118
  have q379 : (IntKind.wrap .i32 ((wX b0 18) - (sg (wB b0 18) * (wY b0 18 / 2 ^ 18)))) = (wX b0 19) := by exact wNX H 18 (by decide)
  have q380 : (shrZ .i32 (IntKind.wrap .i32 ((wX b0 18) - (sg (wB b0 18) * (wY b0 18 / 2 ^ 18)))) 19) = (wX b0 19 / 2 ^ 19) := by rw [q379]; exact wSX H 19 (by decide) rfl
  obtain rfl : y1118 = (wX b0 19 / 2 ^ 19) := e1118.trans q380
  clear q379 q380
  intro y1119 e1119 b1119
  clear b1119
  have q381 : ((bxor .i32 (wX b0 19 / 2 ^ 19) (dd (wB b0 19))) - (dd (wB b0 19))) = (sg (wB b0 19) * (wX b0 19 / 2 ^ 19)) := by exact wFX H 19 (by decide)
  have q382 : (IntKind.wrap .i32 ((bxor .i32 (wX b0 19 / 2 ^ 19) (dd (wB b0 19))) - (dd (wB b0 19)))) = (sg (wB b0 19) * (wX b0 19 / 2 ^ 19)) := by rw [q381]; exact wWX H 19 (by decide)
  obtain rfl : y1119 = (sg (wB b0 19) * (wX b0 19 / 2 ^ 19)) := e1119.trans q382
  clear q381 q382
  intro y1120 e1120 b1120
  clear b1120
  have q383 : ((bxor .i32 1024 (dd (wB b0 19))) - (dd (wB b0 19))) = (sg (wB b0 19) * 1024) := by exact flip_sg _ (by decide) (by decide)
  have q384 : (IntKind.wrap .i32 ((bxor .i32 1024 (dd (wB b0 19))) - (dd (wB b0 19)))) = (sg (wB b0 19) * 1024) := by rw [q383]; exact wrap_sg _ (by decide) (by decide)
  obtain rfl : y1120 = (sg (wB b0 19) * 1024) := e1120.trans q384
  clear q383 q384
  intro y1121 e1121 b1121
  clear b1121
  have q385 : (IntKind.wrap .i32 ((wB b0 18) - (sg (wB b0 18) * 2048))) = (wB b0 19) := by exact wNB H 18 (by decide) rfl
  have q386 : ((IntKind.wrap .i32 ((wB b0 18) - (sg (wB b0 18) * 2048))) - (sg (wB b0 19) * 1024)) = ((wB b0 19) - (sg (wB b0 19) * 1024)) := by rw [q385]
  have q387 : (IntKind.wrap .i32 ((IntKind.wrap .i32 ((wB b0 18) - (sg (wB b0 18) * 2048))) - (sg (wB b0 19) * 1024))) = (wB b0 20) := by rw [q386]; exact wNB H 19 (by decide) rfl
  obtain rfl : y1121 = (wB b0 20) := e1121.trans q387
  clear q385 q386 q387
  intro y1122 e1122 b1122
  clear b1122
  have q388 : (IntKind.wrap .i32 ((wY b0 19) + (sg (wB b0 19) * (wX b0 19 / 2 ^ 19)))) = (wY b0 20) := by exact wNY H 19 (by decide)
  have q389 : (shrZ .i32 (IntKind.wrap .i32 ((wY b0 19) + (sg (wB b0 19) * (wX b0 19 / 2 ^ 19)))) 20) = (wY b0 20 / 2 ^ 20) := by rw [q388]; exact wSY H 20 (by decide) rfl
  obtain rfl : y1122 = (wY b0 20 / 2 ^ 20) := e1122.trans q389
  clear q388 q389
  intro y1123 e1123 b1123
  clear b1123
  have q390 : (shrZ .i32 (wB b0 20) 31) = (dd (wB b0 20)) := by exact wD H 20 (by decide)
  have q391 : (bxor .i32 (wY b0 20 / 2 ^ 20) (shrZ .i32 (wB b0 20) 31)) = (bxor .i32 (wY b0 20 / 2 ^ 20) (dd (wB b0 20))) := by rw [q390]
  have q392 : (shrZ .i32 (wB b0 20) 31) = (dd (wB b0 20)) := by exact wD H 20 (by decide)
  have q393 : ((bxor .i32 (wY b0 20 / 2 ^ 20) (shrZ .i32 (wB b0 20) 31)) - (shrZ .i32 (wB b0 20) 31)) = (sg (wB b0 20) * (wY b0 20 / 2 ^ 20)) := by rw [q391, q392]; exact wFY H 20 (by decide)
  have q394 : (IntKind.wrap .i32 ((bxor .i32 (wY b0 20 / 2 ^ 20) (shrZ .i32 (wB b0 20) 31)) - (shrZ .i32 (wB b0 20) 31))) = (sg (wB b0 20) * (wY b0 20 / 2 ^ 20)) := by rw [q393]; exact wWY H 20 (by decide)
  obtain rfl : y1123 = (sg (wB b0 20) * (wY b0 20 / 2 ^ 20)) := e1123.trans q394
  clear q390 q391 q392 q393 q394
  intro y1124 e1124 b1124
  clear b1124
  have q395 : (shrZ .i32 (wX b0 20) 20) = (wX b0 20 / 2 ^ 20) := by exact wSX H 20 (by decide) rfl
  have q396 : (shrZ .i32 (wB b0 20) 31) = (dd (wB b0 20)) := by exact wD H 20 (by decide)
  have q397 : (bxor .i32 (shrZ .i32 (wX b0 20) 20) (shrZ .i32 (wB b0 20) 31)) = (bxor .i32 (wX b0 20 / 2 ^ 20) (dd (wB b0 20))) := by rw [q395, q396]
  have q398 : (shrZ .i32 (wB b0 20) 31) = (dd (wB b0 20)) := by exact wD H 20 (by decide)
  have q399 : ((bxor .i32 (shrZ .i32 (wX b0 20) 20) (shrZ .i32 (wB b0 20) 31)) - (shrZ .i32 (wB b0 20) 31)) = (sg (wB b0 20) * (wX b0 20 / 2 ^ 20)) := by rw [q397, q398]; exact wFX H 20 (by decide)
  have q400 : (IntKind.wrap .i32 ((bxor .i32 (shrZ .i32 (wX b0 20) 20) (shrZ .i32 (wB b0 20) 31)) - (shrZ .i32 (wB b0 20) 31))) = (sg (wB b0 20) * (wX b0 20 / 2 ^ 20)) := by rw [q399]; exact wWX H 20 (by decide)
  obtain rfl : y1124 = (sg (wB b0 20) * (wX b0 20 / 2 ^ 20)) := e1124.trans q400
  clear q395 q396 q397 q398 q399 q400
  intro y1125 e1125 b1125
  clear b1125
  have q401 : (IntKind.wrap .i32 ((wY b0 19) + (sg (wB b0 19) * (wX b0 19 / 2 ^ 19)))) = (wY b0 20) := by exact wNY H 19 (by decide)
  have q402 : ((IntKind.wrap .i32 ((wY b0 19) + (sg (wB b0 19) * (wX b0 19 / 2 ^ 19)))) + (sg (wB b0 20) * (wX b0 20 / 2 ^ 20))) = ((wY b0 20) + (sg (wB b0 20) * (wX b0 20 / 2 ^ 20))) := by rw [q401]
  have q403 : (IntKind.wrap .i32 ((IntKind.wrap .i32 ((wY b0 19) + (sg (wB b0 19) * (wX b0 19 / 2 ^ 19)))) + (sg (wB b0 20) * (wX b0 20 / 2 ^ 20)))) = (wY b0 21) := by rw [q402]; exact wNY H 20 (by decide)
  obtain rfl : y1125 = (wY b0 21) := e1125.trans q403
  clear q401 q402 q403
  intro y1126 e1126 b1126
  clear b1126
  have q404 : (shrZ .i32 (wB b0 20) 31) = (dd (wB b0 20)) := by exact wD H 20 (by decide)
  have q405 : (bxor .i32 512 (shrZ .i32 (wB b0 20) 31)) = (bxor .i32 512 (dd (wB b0 20))) := by rw [q404]
  have q406 : (shrZ .i32 (wB b0 20) 31) = (dd (wB b0 20)) := by exact wD H 20 (by decide)
  have q407 : ((bxor .i32 512 (shrZ .i32 (wB b0 20) 31)) - (shrZ .i32 (wB b0 20) 31)) = (sg (wB b0 20) * 512) := by rw [q405, q406]; exact flip_sg _ (by decide) (by decide)
  have q408 : (IntKind.wrap .i32 ((bxor .i32 512 (shrZ .i32 (wB b0 20) 31)) - (shrZ .i32 (wB b0 20) 31))) = (sg (wB b0 20) * 512) := by rw [q407]; exact wrap_sg _ (by decide) (by decide)
  obtain rfl : y1126 = (sg (wB b0 20) * 512) := e1126.trans q408
  clear q404 q405 q406 q407 q408
  intro y1127 e1127 b1127
  clear b1127
  have q409 : (IntKind.wrap .i32 ((wB b0 20) - (sg (wB b0 20) * 512))) = (wB b0 21) := by exact wNB H 20 (by decide) rfl
  have q410 : (shrZ .i32 (IntKind.wrap .i32 ((wB b0 20) - (sg (wB b0 20) * 512))) 31) = (dd (wB b0 21)) := by rw [q409]; exact wD H 21 (by decide)
  obtain rfl : y1127 = (dd (wB b0 21)) := e1127.trans q410
  clear q409 q410
  intro y1128 e1128 b1128
  clear b1128
  have q411 : (shrZ .i32 (wY b0 21) 21) = (wY b0 21 / 2 ^ 21) := by exact wSY H 21 (by decide) rfl
  have q412 : (bxor .i32 (shrZ .i32 (wY b0 21) 21) (dd (wB b0 21))) = (bxor .i32 (wY b0 21 / 2 ^ 21) (dd (wB b0 21))) := by rw [q411]
  have q413 : ((bxor .i32 (shrZ .i32 (wY b0 21) 21) (dd (wB b0 21))) - (dd (wB b0 21))) = (sg (wB b0 21) * (wY b0 21 / 2 ^ 21)) := by rw [q412]; exact wFY H 21 (by decide)
  have q414 : (IntKind.wrap .i32 ((bxor .i32 (shrZ .i32 (wY b0 21) 21) (dd (wB b0 21))) - (dd (wB b0 21)))) = (sg (wB b0 21) * (wY b0 21 / 2 ^ 21)) := by rw [q413]; exact wWY H 21 (by decide)
  obtain rfl : y1128 = (sg (wB b0 21) * (wY b0 21 / 2 ^ 21)) := e1128.trans q414
  clear q411 q412 q413 q414
  intro y1129 e1129 b1129
  clear b1129
  have q415 : (IntKind.wrap .i32 ((wX b0 20) - (sg (wB b0 20) * (wY b0 20 / 2 ^ 20)))) = (wX b0 21) := by exact wNX H 20 (by decide)
  have q416 : ((IntKind.wrap .i32 ((wX b0 20) - (sg (wB b0 20) * (wY b0 20 / 2 ^ 20)))) - (sg (wB b0 21) * (wY b0 21 / 2 ^ 21))) = ((wX b0 21) - (sg (wB b0 21) * (wY b0 21 / 2 ^ 21))) := by rw [q415]
  have q417 : (IntKind.wrap .i32 ((IntKind.wrap .i32 ((wX b0 20) - (sg (wB b0 20) * (wY b0 20 / 2 ^ 20)))) - (sg (wB b0 21) * (wY b0 21 / 2 ^ 21)))) = (wX b0 22) := by rw [q416]; exact wNX H 21 (by decide)
  obtain rfl : y1129 = (wX b0 22) := e1129.trans q417
  clear q415 q416 q417
  intro y1130 e1130 b1130
  clear b1130
  have q418 : (IntKind.wrap .i32 ((wX b0 20) - (sg (wB b0 20) * (wY b0 20 / 2 ^ 20)))) = (wX b0 21) := by exact wNX H 20 (by decide)
  have q419 : (shrZ .i32 (IntKind.wrap .i32 ((wX b0 20) - (sg (wB b0 20) * (wY b0 20 / 2 ^ 20)))) 21) = (wX b0 21 / 2 ^ 21) := by rw [q418]; exact wSX H 21 (by decide) rfl
  obtain rfl : y1130 = (wX b0 21 / 2 ^ 21) := e1130.trans q419
  clear q418 q419
  intro y1131 e1131 b1131
  clear b1131
  have q420 : ((bxor .i32 (wX b0 21 / 2 ^ 21) (dd (wB b0 21))) - (dd (wB b0 21))) = (sg (wB b0 21) * (wX b0 21 / 2 ^ 21)) := by exact wFX H 21 (by decide)
  have q421 : (IntKind.wrap .i32 ((bxor .i32 (wX b0 21 / 2 ^ 21) (dd (wB b0 21))) - (dd (wB b0 21)))) = (sg (wB b0 21) * (wX b0 21 / 2 ^ 21)) := by rw [q420]; exact wWX H 21 (by decide)
  obtain rfl : y1131 = (sg (wB b0 21) * (wX b0 21 / 2 ^ 21)) := e1131.trans q421
  clear q420 q421
  intro y1132 e1132 b1132
  clear b1132
  have q422 : ((bxor .i32 256 (dd (wB b0 21))) - (dd (wB b0 21))) = (sg (wB b0 21) * 256) := by exact flip_sg _ (by decide) (by decide)
  have q423 : (IntKind.wrap .i32 ((bxor .i32 256 (dd (wB b0 21))) - (dd (wB b0 21)))) = (sg (wB b0 21) * 256) := by rw [q422]; exact wrap_sg _ (by decide) (by decide)
  obtain rfl : y1132 = (sg (wB b0 21) * 256) := e1132.trans q423
  clear q422 q423
  intro y1133 e1133 b1133
  clear b1133
  have q424 : (IntKind.wrap .i32 ((wB b0 20) - (sg (wB b0 20) * 512))) = (wB b0 21) := by exact wNB H 20 (by decide) rfl
  have q425 : ((IntKind.wrap .i32 ((wB b0 20) - (sg (wB b0 20) * 512))) - (sg (wB b0 21) * 256)) = ((wB b0 21) - (sg (wB b0 21) * 256)) := by rw [q424]
  have q426 : (IntKind.wrap .i32 ((IntKind.wrap .i32 ((wB b0 20) - (sg (wB b0 20) * 512))) - (sg (wB b0 21) * 256))) = (wB b0 22) := by rw [q425]; exact wNB H 21 (by decide) rfl
  obtain rfl : y1133 = (wB b0 22) := e1133.trans q426
  clear q424 q425 q426
  intro y1134 e1134 b1134
  clear b1134
  have q427 : (IntKind.wrap .i32 ((wY b0 21) + (sg (wB b0 21) * (wX b0 21 / 2 ^ 21)))) = (wY b0 22) := by exact wNY H 21 (by decide)
  have q428 : (shrZ .i32 (IntKind.wrap .i32 ((wY b0 21) + (sg (wB b0 21) * (wX b0 21 / 2 ^ 21)))) 22) = (wY b0 22 / 2 ^ 22) := by rw [q427]; exact wSY H 22 (by decide) rfl
  obtain rfl : y1134 = (wY b0 22 / 2 ^ 22) := e1134.trans q428
  clear q427 q428
  intro y1135 e1135 b1135
  clear b1135
  have q429 : (shrZ .i32 (wB b0 22) 31) = (dd (wB b0 22)) := by exact wD H 22 (by decide)
  have q430 : (bxor .i32 (wY b0 22 / 2 ^ 22) (shrZ .i32 (wB b0 22) 31)) = (bxor .i32 (wY b0 22 / 2 ^ 22) (dd (wB b0 22))) := by rw [q429]
  have q431 : (shrZ .i32 (wB b0 22) 31) = (dd (wB b0 22)) := by exact wD H 22 (by decide)
  have q432 : ((bxor .i32 (wY b0 22 / 2 ^ 22) (shrZ .i32 (wB b0 22) 31)) - (shrZ .i32 (wB b0 22) 31)) = (sg (wB b0 22) * (wY b0 22 / 2 ^ 22)) := by rw [q430, q431]; exact wFY H 22 (by decide)
  have q433 : (IntKind.wrap .i32 ((bxor .i32 (wY b0 22 / 2 ^ 22) (shrZ .i32 (wB b0 22) 31)) - (shrZ .i32 (wB b0 22) 31))) = (sg (wB b0 22) * (wY b0 22 / 2 ^ 22)) := by rw [q432]; exact wWY H 22 (by decide)
  obtain rfl : y1135 = (sg (wB b0 22) * (wY b0 22 / 2 ^ 22)) := e1135.trans q433
  clear q429 q430 q431 q432 q433
  intro y1136 e1136 b1136
  clear b1136
  have q434 : (shrZ .i32 (wX b0 22) 22) = (wX b0 22 / 2 ^ 22) := by exact wSX H 22 (by decide) rfl
  have q435 : (shrZ .i32 (wB b0 22) 31) = (dd (wB b0 22)) := by exact wD H 22 (by decide)
  have q436 : (bxor .i32 (shrZ .i32 (wX b0 22) 22) (shrZ .i32 (wB b0 22) 31)) = (bxor .i32 (wX b0 22 / 2 ^ 22) (dd (wB b0 22))) := by rw [q434, q435]
  have q437 : (shrZ .i32 (wB b0 22) 31) = (dd (wB b0 22)) := by exact wD H 22 (by decide)
  have q438 : ((bxor .i32 (shrZ .i32 (wX b0 22) 22) (shrZ .i32 (wB b0 22) 31)) - (shrZ .i32 (wB b0 22) 31)) = (sg (wB b0 22) * (wX b0 22 / 2 ^ 22)) := by rw [q436, q437]; exact wFX H 22 (by decide)
  have q439 : (IntKind.wrap .i32 ((bxor .i32 (shrZ .i32 (wX b0 22) 22) (shrZ .i32 (wB b0 22) 31)) - (shrZ .i32 (wB b0 22) 31))) = (sg (wB b0 22) * (wX b0 22 / 2 ^ 22)) := by rw [q438]; exact wWX H 22 (by decide)
  obtain rfl : y1136 = (sg (wB b0 22) * (wX b0 22 / 2 ^ 22)) := e1136.trans q439
  clear q434 q435 q436 q437 q438 q439
  intro y1137 e1137 b1137
  clear b1137
  have q440 : (IntKind.wrap .i32 ((wY b0 21) + (sg (wB b0 21) * (wX b0 21 / 2 ^ 21)))) = (wY b0 22) := by exact wNY H 21 (by decide)
  have q441 : ((IntKind.wrap .i32 ((wY b0 21) + (sg (wB b0 21) * (wX b0 21 / 2 ^ 21)))) + (sg (wB b0 22) * (wX b0 22 / 2 ^ 22))) = ((wY b0 22) + (sg (wB b0 22) * (wX b0 22 / 2 ^ 22))) := by rw [q440]
  have q442 : (IntKind.wrap .i32 ((IntKind.wrap .i32 ((wY b0 21) + (sg (wB b0 21) * (wX b0 21 / 2 ^ 21)))) + (sg (wB b0 22) * (wX b0 22 / 2 ^ 22)))) = (wY b0 23) := by rw [q441]; exact wNY H 22 (by decide)
  obtain rfl : y1137 = (wY b0 23) := e1137.trans q442
  clear q440 q441 q442
  intro y1138 e1138 b1138
  clear b1138
  have q443 : (shrZ .i32 (wB b0 22) 31) = (dd (wB b0 22)) := by exact wD H 22 (by decide)
  have q444 : (bxor .i32 128 (shrZ .i32 (wB b0 22) 31)) = (bxor .i32 128 (dd (wB b0 22))) := by rw [q443]
  have q445 : (shrZ .i32 (wB b0 22) 31) = (dd (wB b0 22)) := by exact wD H 22 (by decide)
  have q446 : ((bxor .i32 128 (shrZ .i32 (wB b0 22) 31)) - (shrZ .i32 (wB b0 22) 31)) = (sg (wB b0 22) * 128) := by rw [q444, q445]; exact flip_sg _ (by decide) (by decide)
  have q447 : (IntKind.wrap .i32 ((bxor .i32 128 (shrZ .i32 (wB b0 22) 31)) - (shrZ .i32 (wB b0 22) 31))) = (sg (wB b0 22) * 128) := by rw [q446]; exact wrap_sg _ (by decide) (by decide)
  obtain rfl : y1138 = (sg (wB b0 22) * 128) := e1138.trans q447
  clear q443 q444 q445 q446 q447
  intro y1139 e1139 b1139
  clear b1139
  have q448 : (IntKind.wrap .i32 ((wB b0 22) - (sg (wB b0 22) * 128))) = (wB b0 23) := by exact wNB H 22 (by decide) rfl
  have q449 : (shrZ .i32 (IntKind.wrap .i32 ((wB b0 22) - (sg (wB b0 22) * 128))) 31) = (dd (wB b0 23)) := by rw [q448]; exact wD H 23 (by decide)
  obtain rfl : y1139 = (dd (wB b0 23)) := e1139.trans q449
  clear q448 q449
  intro y1140 e1140 b1140
  clear b1140
  have q450 : (shrZ .i32 (wY b0 23) 23) = (wY b0 23 / 2 ^ 23) := by exact wSY H 23 (by decide) rfl
  have q451 : (bxor .i32 (shrZ .i32 (wY b0 23) 23) (dd (wB b0 23))) = (bxor .i32 (wY b0 23 / 2 ^ 23) (dd (wB b0 23))) := by rw [q450]
  have q452 : ((bxor .i32 (shrZ .i32 (wY b0 23) 23) (dd (wB b0 23))) - (dd (wB b0 23))) = (sg (wB b0 23) * (wY b0 23 / 2 ^ 23)) := by rw [q451]; exact wFY H 23 (by decide)
  have q453 : (IntKind.wrap .i32 ((bxor .i32 (shrZ .i32 (wY b0 23) 23) (dd (wB b0 23))) - (dd (wB b0 23)))) = (sg (wB b0 23) * (wY b0 23 / 2 ^ 23)) := by rw [q452]; exact wWY H 23 (by decide)
  obtain rfl : y1140 = (sg (wB b0 23) * (wY b0 23 / 2 ^ 23)) := e1140.trans q453
  clear q450 q451 q452 q453
  intro y1141 e1141 b1141
  clear b1141
  have q454 : (IntKind.wrap .i32 ((wX b0 22) - (sg (wB b0 22) * (wY b0 22 / 2 ^ 22)))) = (wX b0 23) := by exact wNX H 22 (by decide)
  have q455 : ((IntKind.wrap .i32 ((wX b0 22) - (sg (wB b0 22) * (wY b0 22 / 2 ^ 22)))) - (sg (wB b0 23) * (wY b0 23 / 2 ^ 23))) = ((wX b0 23) - (sg (wB b0 23) * (wY b0 23 / 2 ^ 23))) := by rw [q454]
  have q456 : (IntKind.wrap .i32 ((IntKind.wrap .i32 ((wX b0 22) - (sg (wB b0 22) * (wY b0 22 / 2 ^ 22)))) - (sg (wB b0 23) * (wY b0 23 / 2 ^ 23)))) = (wX b0 24) := by rw [q455]; exact wNX H 23 (by decide)
  obtain rfl : y1141 = (wX b0 24) := e1141.trans q456
  clear q454 q455 q456
  intro y1142 e1142 b1142
  clear b1142
  have q457 : (IntKind.wrap .i32 ((wX b0 22) - (sg (wB b0 22) * (wY b0 22 / 2 ^ 22)))) = (wX b0 23) := by exact wNX H 22 (by decide)
  have q458 : (shrZ .i32 (IntKind.wrap .i32 ((wX b0 22) - (sg (wB b0 22) * (wY b0 22 / 2 ^ 22)))) 23) = (wX b0 23 / 2 ^ 23) := by rw [q457]; exact wSX H 23 (by decide) rfl
  obtain rfl : y1142 = (wX b0 23 / 2 ^ 23) := e1142.trans q458
  clear q457 q458
  intro y1143 e1143 b1143
  clear b1143
  have q459 : ((bxor .i32 (wX b0 23 / 2 ^ 23) (dd (wB b0 23))) - (dd (wB b0 23))) = (sg (wB b0 23) * (wX b0 23 / 2 ^ 23)) := by exact wFX H 23 (by decide)
  have q460 : (IntKind.wrap .i32 ((bxor .i32 (wX b0 23 / 2 ^ 23) (dd (wB b0 23))) - (dd (wB b0 23)))) = (sg (wB b0 23) * (wX b0 23 / 2 ^ 23)) := by rw [q459]; exact wWX H 23 (by decide)
  obtain rfl : y1143 = (sg (wB b0 23) * (wX b0 23 / 2 ^ 23)) := e1143.trans q460
  clear q459 q460
  intro y1144 e1144 b1144
  clear b1144
  have q461 : ((bxor .i32 64 (dd (wB b0 23))) - (dd (wB b0 23))) = (sg (wB b0 23) * 64) := by exact flip_sg _ (by decide) (by decide)
  have q462 : (IntKind.wrap .i32 ((bxor .i32 64 (dd (wB b0 23))) - (dd (wB b0 23)))) = (sg (wB b0 23) * 64) := by rw [q461]; exact wrap_sg _ (by decide) (by decide)
  obtain rfl : y1144 = (sg (wB b0 23) * 64) := e1144.trans q462
  clear q461 q462
  intro y1145 e1145 b1145
  clear b1145
  have q463 : (IntKind.wrap .i32 ((wB b0 22) - (sg (wB b0 22) * 128))) = (wB b0 23) := by exact wNB H 22 (by decide) rfl
  have q464 : ((IntKind.wrap .i32 ((wB b0 22) - (sg (wB b0 22) * 128))) - (sg (wB b0 23) * 64)) = ((wB b0 23) - (sg (wB b0 23) * 64)) := by rw [q463]
  have q465 : (IntKind.wrap .i32 ((IntKind.wrap .i32 ((wB b0 22) - (sg (wB b0 22) * 128))) - (sg (wB b0 23) * 64))) = (wB b0 24) := by rw [q464]; exact wNB H 23 (by decide) rfl
  obtain rfl : y1145 = (wB b0 24) := e1145.trans q465
  clear q463 q464 q465
  intro y1146 e1146 b1146
  clear b1146
  have q466 : (IntKind.wrap .i32 ((wY b0 23) + (sg (wB b0 23) * (wX b0 23 / 2 ^ 23)))) = (wY b0 24) := by exact wNY H 23 (by decide)
  have q467 : (shrZ .i32 (IntKind.wrap .i32 ((wY b0 23) + (sg (wB b0 23) * (wX b0 23 / 2 ^ 23)))) 24) = (wY b0 24 / 2 ^ 24) := by rw [q466]; exact wSY H 24 (by decide) rfl
  obtain rfl : y1146 = (wY b0 24 / 2 ^ 24) := e1146.trans q467
  clear q466 q467
  intro y1147 e1147 b1147
  clear b1147
  have q468 : (shrZ .i32 (wB b0 24) 31) = (dd (wB b0 24)) := by exact wD H 24 (by decide)
  have q469 : (bxor .i32 (wY b0 24 / 2 ^ 24) (shrZ .i32 (wB b0 24) 31)) = (bxor .i32 (wY b0 24 / 2 ^ 24) (dd (wB b0 24))) := by rw [q468]
  have q470 : (shrZ .i32 (wB b0 24) 31) = (dd (wB b0 24)) := by exact wD H 24 (by decide)
  have q471 : ((bxor .i32 (wY b0 24 / 2 ^ 24) (shrZ .i32 (wB b0 24) 31)) - (shrZ .i32 (wB b0 24) 31)) = (sg (wB b0 24) * (wY b0 24 / 2 ^ 24)) := by rw [q469, q470]; exact wFY H 24 (by decide)
  have q472 : (IntKind.wrap .i32 ((bxor .i32 (wY b0 24 / 2 ^ 24) (shrZ .i32 (wB b0 24) 31)) - (shrZ .i32 (wB b0 24) 31))) = (sg (wB b0 24) * (wY b0 24 / 2 ^ 24)) := by rw [q471]; exact wWY H 24 (by decide)
  obtain rfl : y1147 = (sg (wB b0 24) * (wY b0 24 / 2 ^ 24)) := e1147.trans q472
  clear q468 q469 q470 q471 q472
  intro y1148 e1148 b1148
  clear b1148
  have q473 : (shrZ .i32 (wX b0 24) 24) = (wX b0 24 / 2 ^ 24) := by exact wSX H 24 (by decide) rfl
  have q474 : (shrZ .i32 (wB b0 24) 31) = (dd (wB b0 24)) := by exact wD H 24 (by decide)
  have q475 : (bxor .i32 (shrZ .i32 (wX b0 24) 24) (shrZ .i32 (wB b0 24) 31)) = (bxor .i32 (wX b0 24 / 2 ^ 24) (dd (wB b0 24))) := by rw [q473, q474]
  have q476 : (shrZ .i32 (wB b0 24) 31) = (dd (wB b0 24)) := by exact wD H 24 (by decide)
  have q477 : ((bxor .i32 (shrZ .i32 (wX b0 24) 24) (shrZ .i32 (wB b0 24) 31)) - (shrZ .i32 (wB b0 24) 31)) = (sg (wB b0 24) * (wX b0 24 / 2 ^ 24)) := by rw [q475, q476]; exact wFX H 24 (by decide)
  have q478 : (IntKind.wrap .i32 ((bxor .i32 (shrZ .i32 (wX b0 24) 24) (shrZ .i32 (wB b0 24) 31)) - (shrZ .i32 (wB b0 24) 31))) = (sg (wB b0 24) * (wX b0 24 / 2 ^ 24)) := by rw [q477]; exact wWX H 24 (by decide)
  obtain rfl : y1148 = (sg (wB b0 24) * (wX b0 24 / 2 ^ 24)) := e1148.trans q478
  clear q473 q474 q475 q476 q477 q478
  intro y1149 e1149 b1149
  clear b1149
  have q479 : (IntKind.wrap .i32 ((wY b0 23) + (sg (wB b0 23) * (wX b0 23 / 2 ^ 23)))) = (wY b0 24) := by exact wNY H 23 (by decide)
  have q480 : ((IntKind.wrap .i32 ((wY b0 23) + (sg (wB b0 23) * (wX b0 23 / 2 ^ 23)))) + (sg (wB b0 24) * (wX b0 24 / 2 ^ 24))) = ((wY b0 24) + (sg (wB b0 24) * (wX b0 24 / 2 ^ 24))) := by rw [q479]
  have q481 : (IntKind.wrap .i32 ((IntKind.wrap .i32 ((wY b0 23) + (sg (wB b0 23) * (wX b0 23 / 2 ^ 23)))) + (sg (wB b0 24) * (wX b0 24 / 2 ^ 24)))) = (wY b0 25) := by rw [q480]; exact wNY H 24 (by decide)
  obtain rfl : y1149 = (wY b0 25) := e1149.trans q481
  clear q479 q480 q481
  intro y1150 e1150 b1150
  clear b1150
  have q482 : (shrZ .i32 (wB b0 24) 31) = (dd (wB b0 24)) := by exact wD H 24 (by decide)
  have q483 : (bxor .i32 32 (shrZ .i32 (wB b0 24) 31)) = (bxor .i32 32 (dd (wB b0 24))) := by rw [q482]
  have q484 : (shrZ .i32 (wB b0 24) 31) = (dd (wB b0 24)) := by exact wD H 24 (by decide)
  have q485 : ((bxor .i32 32 (shrZ .i32 (wB b0 24) 31)) - (shrZ .i32 (wB b0 24) 31)) = (sg (wB b0 24) * 32) := by rw [q483, q484]; exact flip_sg _ (by decide) (by decide)
  have q486 : (IntKind.wrap .i32 ((bxor .i32 32 (shrZ .i32 (wB b0 24) 31)) - (shrZ .i32 (wB b0 24) 31))) = (sg (wB b0 24) * 32) := by rw [q485]; exact wrap_sg _ (by decide) (by decide)
  obtain rfl : y1150 = (sg (wB b0 24) * 32) := e1150.trans q486
  clear q482 q483 q484 q485 q486
  intro y1151 e1151 b1151
  clear b1151
  have q487 : (IntKind.wrap .i32 ((wB b0 24) - (sg (wB b0 24) * 32))) = (wB b0 25) := by exact wNB H 24 (by decide) rfl
  have q488 : (shrZ .i32 (IntKind.wrap .i32 ((wB b0 24) - (sg (wB b0 24) * 32))) 31) = (dd (wB b0 25)) := by rw [q487]; exact wD H 25 (by decide)
  obtain rfl : y1151 = (dd (wB b0 25)) := e1151.trans q488
  clear q487 q488
  intro y1152 e1152 b1152
  clear b1152
  have q489 : (shrZ .i32 (wY b0 25) 25) = (wY b0 25 / 2 ^ 25) := by exact wSY H 25 (by decide) rfl
  have q490 : (bxor .i32 (shrZ .i32 (wY b0 25) 25) (dd (wB b0 25))) = (bxor .i32 (wY b0 25 / 2 ^ 25) (dd (wB b0 25))) := by rw [q489]
  have q491 : ((bxor .i32 (shrZ .i32 (wY b0 25) 25) (dd (wB b0 25))) - (dd (wB b0 25))) = (sg (wB b0 25) * (wY b0 25 / 2 ^ 25)) := by rw [q490]; exact wFY H 25 (by decide)
  have q492 : (IntKind.wrap .i32 ((bxor .i32 (shrZ .i32 (wY b0 25) 25) (dd (wB b0 25))) - (dd (wB b0 25)))) = (sg (wB b0 25) * (wY b0 25 / 2 ^ 25)) := by rw [q491]; exact wWY H 25 (by decide)
  obtain rfl : y1152 = (sg (wB b0 25) * (wY b0 25 / 2 ^ 25)) := e1152.trans q492
  clear q489 q490 q491 q492
  intro y1153 e1153 b1153
  clear b1153
  have q493 : (IntKind.wrap .i32 ((wX b0 24) - (sg (wB b0 24) * (wY b0 24 / 2 ^ 24)))) = (wX b0 25) := by exact wNX H 24 (by decide)
  have q494 : ((IntKind.wrap .i32 ((wX b0 24) - (sg (wB b0 24) * (wY b0 24 / 2 ^ 24)))) - (sg (wB b0 25) * (wY b0 25 / 2 ^ 25))) = ((wX b0 25) - (sg (wB b0 25) * (wY b0 25 / 2 ^ 25))) := by rw [q493]
  have q495 : (IntKind.wrap .i32 ((IntKind.wrap .i32 ((wX b0 24) - (sg (wB b0 24) * (wY b0 24 / 2 ^ 24)))) - (sg (wB b0 25) * (wY b0 25 / 2 ^ 25)))) = (wX b0 26) := by rw [q494]; exact wNX H 25 (by decide)
  obtain rfl : y1153 = (wX b0 26) := e1153.trans q495
  clear q493 q494 q495
  intro y1154 e1154 b1154
  clear b1154
  have q496 : (IntKind.wrap .i32 ((wX b0 24) - (sg (wB b0 24) * (wY b0 24 / 2 ^ 24)))) = (wX b0 25) := by exact wNX H 24 (by decide)
  have q497 : (shrZ .i32 (IntKind.wrap .i32 ((wX b0 24) - (sg (wB b0 24) * (wY b0 24 / 2 ^ 24)))) 25) = (wX b0 25 / 2 ^ 25) := by rw [q496]; exact wSX H 25 (by decide) rfl
  obtain rfl : y1154 = (wX b0 25 / 2 ^ 25) := e1154.trans q497
  clear q496 q497
  intro y1155 e1155 b1155
  clear b1155
  have q498 : ((bxor .i32 (wX b0 25 / 2 ^ 25) (dd (wB b0 25))) - (dd (wB b0 25))) = (sg (wB b0 25) * (wX b0 25 / 2 ^ 25)) := by exact wFX H 25 (by decide)
  have q499 : (IntKind.wrap .i32 ((bxor .i32 (wX b0 25 / 2 ^ 25) (dd (wB b0 25))) - (dd (wB b0 25)))) = (sg (wB b0 25) * (wX b0 25 / 2 ^ 25)) := by rw [q498]; exact wWX H 25 (by decide)
  obtain rfl : y1155 = (sg (wB b0 25) * (wX b0 25 / 2 ^ 25)) := e1155.trans q499
  clear q498 q499
  intro y1156 e1156 b1156
  clear b1156
  have q500 : ((bxor .i32 16 (dd (wB b0 25))) - (dd (wB b0 25))) = (sg (wB b0 25) * 16) := by exact flip_sg _ (by decide) (by decide)
  have q501 : (IntKind.wrap .i32 ((bxor .i32 16 (dd (wB b0 25))) - (dd (wB b0 25)))) = (sg (wB b0 25) * 16) := by rw [q500]; exact wrap_sg _ (by decide) (by decide)
  obtain rfl : y1156 = (sg (wB b0 25) * 16) := e1156.trans q501
  clear q500 q501
  intro y1157 e1157 b1157
  clear b1157
  have q502 : (IntKind.wrap .i32 ((wB b0 24) - (sg (wB b0 24) * 32))) = (wB b0 25) := by exact wNB H 24 (by decide) rfl
  have q503 : ((IntKind.wrap .i32 ((wB b0 24) - (sg (wB b0 24) * 32))) - (sg (wB b0 25) * 16)) = ((wB b0 25) - (sg (wB b0 25) * 16)) := by rw [q502]
  have q504 : (IntKind.wrap .i32 ((IntKind.wrap .i32 ((wB b0 24) - (sg (wB b0 24) * 32))) - (sg (wB b0 25) * 16))) = (wB b0 26) := by rw [q503]; exact wNB H 25 (by decide) rfl
  obtain rfl : y1157 = (wB b0 26) := e1157.trans q504
  clear q502 q503 q504
  intro y1158 e1158 b1158
  clear b1158
  have q505 : (IntKind.wrap .i32 ((wY b0 25) + (sg (wB b0 25) * (wX b0 25 / 2 ^ 25)))) = (wY b0 26) := by exact wNY H 25 (by decide)
  have q506 : (shrZ .i32 (IntKind.wrap .i32 ((wY b0 25) + (sg (wB b0 25) * (wX b0 25 / 2 ^ 25)))) 26) = (wY b0 26 / 2 ^ 26) := by rw [q505]; exact wSY H 26 (by decide) rfl
  obtain rfl : y1158 = (wY b0 26 / 2 ^ 26) := e1158.trans q506
  clear q505 q506
  intro y1159 e1159 b1159
  clear b1159
  have q507 : (shrZ .i32 (wB b0 26) 31) = (dd (wB b0 26)) := by exact wD H 26 (by decide)
  have q508 : (bxor .i32 (wY b0 26 / 2 ^ 26) (shrZ .i32 (wB b0 26) 31)) = (bxor .i32 (wY b0 26 / 2 ^ 26) (dd (wB b0 26))) := by rw [q507]
  have q509 : (shrZ .i32 (wB b0 26) 31) = (dd (wB b0 26)) := by exact wD H 26 (by decide)
  have q510 : ((bxor .i32 (wY b0 26 / 2 ^ 26) (shrZ .i32 (wB b0 26) 31)) - (shrZ .i32 (wB b0 26) 31)) = (sg (wB b0 26) * (wY b0 26 / 2 ^ 26)) := by rw [q508, q509]; exact wFY H 26 (by decide)
  have q511 : (IntKind.wrap .i32 ((bxor .i32 (wY b0 26 / 2 ^ 26) (shrZ .i32 (wB b0 26) 31)) - (shrZ .i32 (wB b0 26) 31))) = (sg (wB b0 26) * (wY b0 26 / 2 ^ 26)) := by rw [q510]; exact wWY H 26 (by decide)
  obtain rfl : y1159 = (sg (wB b0 26) * (wY b0 26 / 2 ^ 26)) := e1159.trans q511
  clear q507 q508 q509 q510 q511
  intro y1160 e1160 b1160
  clear b1160
  have q512 : (shrZ .i32 (wX b0 26) 26) = (wX b0 26 / 2 ^ 26) := by exact wSX H 26 (by decide) rfl
  have q513 : (shrZ .i32 (wB b0 26) 31) = (dd (wB b0 26)) := by exact wD H 26 (by decide)
  have q514 : (bxor .i32 (shrZ .i32 (wX b0 26) 26) (shrZ .i32 (wB b0 26) 31)) = (bxor .i32 (wX b0 26 / 2 ^ 26) (dd (wB b0 26))) := by rw [q512, q513]
  have q515 : (shrZ .i32 (wB b0 26) 31) = (dd (wB b0 26)) := by exact wD H 26 (by decide)
  have q516 : ((bxor .i32 (shrZ .i32 (wX b0 26) 26) (shrZ .i32 (wB b0 26) 31)) - (shrZ .i32 (wB b0 26) 31)) = (sg (wB b0 26) * (wX b0 26 / 2 ^ 26)) := by rw [q514, q515]; exact wFX H 26 (by decide)
  have q517 : (IntKind.wrap .i32 ((bxor .i32 (shrZ .i32 (wX b0 26) 26) (shrZ .i32 (wB b0 26) 31)) - (shrZ .i32 (wB b0 26) 31))) = (sg (wB b0 26) * (wX b0 26 / 2 ^ 26)) := by rw [q516]; exact wWX H 26 (by decide)
  obtain rfl : y1160 = (sg (wB b0 26) * (wX b0 26 / 2 ^ 26)) := e1160.trans q517
  clear q512 q513 q514 q515 q516 q517
  intro y1161 e1161 b1161
  clear b1161
  have q518 : (IntKind.wrap .i32 ((wY b0 25) + (sg (wB b0 25) * (wX b0 25 / 2 ^ 25)))) = (wY b0 26) := by exact wNY H 25 (by decide)
  have q519 : ((IntKind.wrap .i32 ((wY b0 25) + (sg (wB b0 25) * (wX b0 25 / 2 ^ 25)))) + (sg (wB b0 26) * (wX b0 26 / 2 ^ 26))) = ((wY b0 26) + (sg (wB b0 26) * (wX b0 26 / 2 ^ 26))) := by rw [q518]
  have q520 : (IntKind.wrap .i32 ((IntKind.wrap .i32 ((wY b0 25) + (sg (wB b0 25) * (wX b0 25 / 2 ^ 25)))) + (sg (wB b0 26) * (wX b0 26 / 2 ^ 26)))) = (wY b0 27) := by rw [q519]; exact wNY H 26 (by decide)
  obtain rfl : y1161 = (wY b0 27) := e1161.trans q520
  clear q518 q519 q520
  intro y1162 e1162 b1162
  clear b1162
  have q521 : (shrZ .i32 (wB b0 26) 31) = (dd (wB b0 26)) := by exact wD H 26 (by decide)
  have q522 : (bxor .i32 8 (shrZ .i32 (wB b0 26) 31)) = (bxor .i32 8 (dd (wB b0 26))) := by rw [q521]
  have q523 : (shrZ .i32 (wB b0 26) 31) = (dd (wB b0 26)) := by exact wD H 26 (by decide)
  have q524 : ((bxor .i32 8 (shrZ .i32 (wB b0 26) 31)) - (shrZ .i32 (wB b0 26) 31)) = (sg (wB b0 26) * 8) := by rw [q522, q523]; exact flip_sg _ (by decide) (by decide)
  have q525 : (IntKind.wrap .i32 ((bxor .i32 8 (shrZ .i32 (wB b0 26) 31)) - (shrZ .i32 (wB b0 26) 31))) = (sg (wB b0 26) * 8) := by rw [q524]; exact wrap_sg _ (by decide) (by decide)
  obtain rfl : y1162 = (sg (wB b0 26) * 8) := e1162.trans q525
  clear q521 q522 q523 q524 q525
  intro y1163 e1163 b1163
  clear b1163
  have q526 : (IntKind.wrap .i32 ((wB b0 26) - (sg (wB b0 26) * 8))) = (wB b0 27) := by exact wNB H 26 (by decide) rfl
  have q527 : (shrZ .i32 (IntKind.wrap .i32 ((wB b0 26) - (sg (wB b0 26) * 8))) 31) = (dd (wB b0 27)) := by rw [q526]; exact wD H 27 (by decide)
  obtain rfl : y1163 = (dd (wB b0 27)) := e1163.trans q527
  clear q526 q527
  intro y1164 e1164 b1164
  clear b1164
  have q528 : (shrZ .i32 (wY b0 27) 27) = (wY b0 27 / 2 ^ 27) := by exact wSY H 27 (by decide) rfl
  have q529 : (bxor .i32 (shrZ .i32 (wY b0 27) 27) (dd (wB b0 27))) = (bxor .i32 (wY b0 27 / 2 ^ 27) (dd (wB b0 27))) := by rw [q528]
  have q530 : ((bxor .i32 (shrZ .i32 (wY b0 27) 27) (dd (wB b0 27))) - (dd (wB b0 27))) = (sg (wB b0 27) * (wY b0 27 / 2 ^ 27)) := by rw [q529]; exact wFY H 27 (by decide)
  have q531 : (IntKind.wrap .i32 ((bxor .i32 (shrZ .i32 (wY b0 27) 27) (dd (wB b0 27))) - (dd (wB b0 27)))) = (sg (wB b0 27) * (wY b0 27 / 2 ^ 27)) := by rw [q530]; exact wWY H 27 (by decide)
  obtain rfl : y1164 = (sg (wB b0 27) * (wY b0 27 / 2 ^ 27)) := e1164.trans q531
  clear q528 q529 q530 q531
  intro y1165 e1165 b1165
  clear b1165
  have q532 : (IntKind.wrap .i32 ((wX b0 26) - (sg (wB b0 26) * (wY b0 26 / 2 ^ 26)))) = (wX b0 27) := by exact wNX H 26 (by decide)
  have q533 : ((IntKind.wrap .i32 ((wX b0 26) - (sg (wB b0 26) * (wY b0 26 / 2 ^ 26)))) - (sg (wB b0 27) * (wY b0 27 / 2 ^ 27))) = ((wX b0 27) - (sg (wB b0 27) * (wY b0 27 / 2 ^ 27))) := by rw [q532]
  have q534 : (IntKind.wrap .i32 ((IntKind.wrap .i32 ((wX b0 26) - (sg (wB b0 26) * (wY b0 26 / 2 ^ 26)))) - (sg (wB b0 27) * (wY b0 27 / 2 ^ 27)))) = (wX b0 28) := by rw [q533]; exact wNX H 27 (by decide)
  obtain rfl : y1165 = (wX b0 28) := e1165.trans q534
  clear q532 q533 q534
  intro y1166 e1166 b1166
  clear b1166
  have q535 : (IntKind.wrap .i32 ((wX b0 26) - (sg (wB b0 26) * (wY b0 26 / 2 ^ 26)))) = (wX b0 27) := by exact wNX H 26 (by decide)
  have q536 : (shrZ .i32 (IntKind.wrap .i32 ((wX b0 26) - (sg (wB b0 26) * (wY b0 26 / 2 ^ 26)))) 27) = (wX b0 27 / 2 ^ 27) := by rw [q535]; exact wSX H 27 (by decide) rfl
  obtain rfl : y1166 = (wX b0 27 / 2 ^ 27) := e1166.trans q536
  clear q535 q536
  intro y1167 e1167 b1167
  clear b1167
  have q537 : ((bxor .i32 (wX b0 27 / 2 ^ 27) (dd (wB b0 27))) - (dd (wB b0 27))) = (sg (wB b0 27) * (wX b0 27 / 2 ^ 27)) := by exact wFX H 27 (by decide)
  have q538 : (IntKind.wrap .i32 ((bxor .i32 (wX b0 27 / 2 ^ 27) (dd (wB b0 27))) - (dd (wB b0 27)))) = (sg (wB b0 27) * (wX b0 27 / 2 ^ 27)) := by rw [q537]; exact wWX H 27 (by decide)
  obtain rfl : y1167 = (sg (wB b0 27) * (wX b0 27 / 2 ^ 27)) := e1167.trans q538
  clear q537 q538
  intro y1168 e1168 b1168
  clear b1168
  have q539 : ((bxor .i32 4 (dd (wB b0 27))) - (dd (wB b0 27))) = (sg (wB b0 27) * 4) := by exact flip_sg _ (by decide) (by decide)
  have q540 : (IntKind.wrap .i32 ((bxor .i32 4 (dd (wB b0 27))) - (dd (wB b0 27)))) = (sg (wB b0 27) * 4) := by rw [q539]; exact wrap_sg _ (by decide) (by decide)
  obtain rfl : y1168 = (sg (wB b0 27) * 4) := e1168.trans q540
  clear q539 q540
  intro y1169 e1169 b1169
  clear b1169
  have q541 : (IntKind.wrap .i32 ((wB b0 26) - (sg (wB b0 26) * 8))) = (wB b0 27) := by exact wNB H 26 (by decide) rfl
  have q542 : ((IntKind.wrap .i32 ((wB b0 26) - (sg (wB b0 26) * 8))) - (sg (wB b0 27) * 4)) = ((wB b0 27) - (sg (wB b0 27) * 4)) := by rw [q541]
  have q543 : (IntKind.wrap .i32 ((IntKind.wrap .i32 ((wB b0 26) - (sg (wB b0 26) * 8))) - (sg (wB b0 27) * 4))) = (wB b0 28) := by rw [q542]; exact wNB H 27 (by decide) rfl
  obtain rfl : y1169 = (wB b0 28) := e1169.trans q543
  clear q541 q542 q543
  intro y1170 e1170 b1170
  clear b1170
  have q544 : (IntKind.wrap .i32 ((wY b0 27) + (sg (wB b0 27) * (wX b0 27 / 2 ^ 27)))) = (wY b0 28) := by exact wNY H 27 (by decide)
  have bb := wBd H 28 (by decide)
  have hc : y1170 = wavX a0 := by
    rw [e1170, hfar, flip_if (by omega) (by omega), hX]
  rw [q544, hc, ← hY]
  exact hR
end Go.Eng
end
