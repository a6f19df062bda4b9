/-
  Parts of the engine, a program's symbolic run, proved sound; and of plain laws.
-/
import Derived.Test.YtfkdlidcogpncaaGreatDoorGmC
set_option linter.unusedVariables false
set_option linter.unusedSimpArgs false

/-!  -/
noncomputable section
namespace Go.Eng
abbrev b32 (x : Int) : BitVec 32 := BitVec.ofInt 32 x
theorem two32 : (((2 ^ 32 : Nat)) : Int) = 4294967296 := by decide
theorem wi_b (x : Int) : IntKind.wrap .i32 x = (b32 x).toInt := by
 have h : IntKind.wrap .i32 x = if 2147483648 ≤ x % 4294967296 then x % 4294967296 - 4294967296 else x % 4294967296 := by
  simp [IntKind.wrap, IntKind.bits, IntKind.signed] <;> (try split) <;> omega
 rw [h, BitVec.toInt_ofInt]
 simp only [Int.bmod, two32]
 split <;> split <;> omega
theorem b_nat (z : BitVec 32) : b32 (z.toNat : Int) = z := by
 apply BitVec.eq_of_toNat_eq
 rw [BitVec.toNat_ofInt]
 have := z.isLt
 omega
theorem wi_nat (z : BitVec 32) : IntKind.wrap .i32 (z.toNat : Int) = z.toInt := by rw [wi_b, b_nat]
theorem b_toNat (x : Int) : ((b32 x).toNat : Int) = x % 4294967296 := by
 rw [BitVec.toNat_ofInt, two32]; omega
theorem wi_mod (x : Int) : IntKind.wrap .i32 (x % 4294967296) = IntKind.wrap .i32 x := by
 rw [wi_b, wi_b]
 congr 1
 apply BitVec.eq_of_toNat_eq
 rw [BitVec.toNat_ofInt, BitVec.toNat_ofInt, two32]
 congr 1; omega
theorem wi_cong {x y : Int} (h : x % 4294967296 = y % 4294967296) : IntKind.wrap .i32 x = IntKind.wrap .i32 y := by rw [← wi_mod x, ← wi_mod y, h]
def bt (Z : BitVec 32) (i : Nat) : Int := if Z.getLsbD i then 1 else 0
theorem bitZ_bt (x : Int) (i : Nat) : bitZ x i = bt (b32 x) i := by
 unfold bitZ bt
 rw [Int.toNat_natCast, ← b_toNat, BitVec.getLsbD, Nat.testBit_eq_decide_div_mod_eq]
 have c : ((b32 x).toNat : Int) / 2 ^ i % 2 = (((b32 x).toNat / 2 ^ i % 2 : Nat) : Int) := by norm_cast
 have hN : (b32 x).toNat / 2 ^ i % 2 < 2 := Nat.mod_lt _ (by decide)
 rw [c]
 generalize (b32 x).toNat / 2 ^ i % 2 = N at *
 by_cases h : N = 1
 ·subst h; rfl
 ·have : N = 0 := by omega
  subst this; rfl
theorem sumB_mod (Z : BitVec 32) (f : Nat → Int) (h : ∀ i, i < 32 → f i = bt Z i) : ∀ k, k ≤ 32 → sumB f k = ((Z.toNat % 2 ^ k : Nat) : Int)
 | 0, _ => by simp [sumB, Nat.mod_one]
 | k + 1, hk => by
  rw [sumB, sumB_mod Z f h k (by omega), h k (by omega), Nat.mod_pow_succ]
  unfold bt BitVec.getLsbD
  rw [Nat.testBit_eq_decide_div_mod_eq]
  have hN : Z.toNat / 2 ^ k % 2 < 2 := Nat.mod_lt _ (by decide)
  push_cast
  have c : (Z.toNat : Int) / 2 ^ k % 2 = ((Z.toNat / 2 ^ k % 2 : Nat) : Int) := by norm_cast
  rw [c]
  generalize Z.toNat / 2 ^ k % 2 = N at *
  have hN : N = 0 ∨ N = 1 := by omega
  rcases hN with rfl | rfl <;> simp
theorem sumB_word (Z : BitVec 32) (f : Nat → Int) (h : ∀ i, i < 32 → f i = bt Z i) : IntKind.wrap .i32 (sumB f 32) = Z.toInt := by
 rw [sumB_mod Z f h 32 (Nat.le_refl _), Nat.mod_eq_of_lt Z.isLt, wi_nat]
theorem sumB_congr {f g : Nat → Int} : ∀ k, (∀ i, i < k → f i = g i) → sumB f k = sumB g k
 | 0, _ => rfl
 | k + 1, h => by rw [sumB, sumB, sumB_congr k (fun i hi => h i (by omega)), h k (by omega)]
theorem of_chn (g : Nat → Int) : ofZ (g 0) (g 1) (chn ((List.range 30).map fun i => g (i + 2))) = IntKind.wrap .i32 (sumB g 32) := by
 unfold ofZ
 congr 1
 refine sumB_congr 32 fun i hi => ?_
 unfold ofF
 by_cases h0 : i = 0
 ·subst h0; rfl
 ·rw [if_neg h0]
  by_cases h1 : i = 1
  ·subst h1; rfl
  ·rw [if_neg h1, show (i : Int) - 2 = ((i - 2 : Nat) : Int) by omega, qJz]
   have hr : i - 2 < 30 := by omega
   simp [List.getD_eq_getElem?_getD, hr]
   congr 1; omega
theorem of_word (Z : BitVec 32) (g : Nat → Int) (h : ∀ i, i < 32 → g i = bt Z i) : ofZ (g 0) (g 1) (chn ((List.range 30).map fun i => g (i + 2))) = Z.toInt := (of_chn g).trans (sumB_word Z g h)
theorem and31 {n : Int} : BO.ev .and .i32 n 31 = n % 32 := by
 show IntKind.wrap .i32 ((BitVec.ofInt 32 n &&& BitVec.ofInt 32 31).toNat : Int) = _
 have e2 : (BitVec.ofInt 32 31).toNat = 2 ^ 5 - 1 := by decide
 rw [BitVec.toNat_and, e2, Nat.and_two_pow_sub_one_eq_mod]
 have e1 := b_toNat n
 have e3 : (((b32 n).toNat % 2 ^ 5 : Nat) : Int) = n % 32 := by omega
 rw [e3]
 exact wi32 (by omega) (by omega)
theorem shl_bt (x : Int) (s : Nat) (hs : s < 32) : IntKind.wrap .i32 (BO.ev .shl .u32 (IntKind.wrap .u32 x) s) = (b32 x <<< s).toInt := by
 rw [← wi_nat]
 show IntKind.wrap .i32 (IntKind.wrap .u32 (IntKind.wrap .u32 x * 2 ^ (Nat.min (s : Int).toNat 32))) = _
 rw [wu32, wu32, wi_mod, BitVec.toNat_shiftLeft, Int.toNat_natCast, show Nat.min s 32 = s from Nat.min_eq_left (by omega)]
 refine wi_cong ?_
 rw [Nat.shiftLeft_eq]
 have e1 := b_toNat x
 have e2 : (((b32 x).toNat * 2 ^ s % 2 ^ 32 : Nat) : Int) = ((b32 x).toNat : Int) * 2 ^ s % 4294967296 := by
  rw [Int.natCast_emod, two32, Int.natCast_mul, Int.natCast_pow]; rfl
 rw [e2, e1, Int.emod_emod_of_dvd _ (Int.dvd_refl _)]
theorem shr_bt (x : Int) (s : Nat) (hs : s ≤ 32) : BO.ev .shr .u32 (IntKind.wrap .u32 x) s = ((b32 x >>> s).toNat : Int) := by
 rw [qXg, wu32, BitVec.toNat_ushiftRight, Nat.shiftRight_eq_div_pow, Int.toNat_natCast, show Nat.min s IntKind.u32.bits = s from Nat.min_eq_left (by show s ≤ 32; omega)]
 have e1 := b_toNat x
 push_cast
 rw [e1]
theorem rol_bt (x : Int) (s : Nat) (hs : s < 32) : IntKind.wrap .i32 (BO.ev .or .u32 (BO.ev .shl .u32 (IntKind.wrap .u32 x) s) (BO.ev .shr .u32 (IntKind.wrap .u32 x) (32 - (s : Int)))) = (b32 x <<< s ||| b32 x >>> (32 - s)).toInt := by
 rw [show (32 : Int) - (s : Int) = ((32 - s : Nat) : Int) by omega, shr_bt x (32 - s) (by omega)]
 have e : BO.ev .shl .u32 (IntKind.wrap .u32 x) s = ((b32 x <<< s).toNat : Int) := by
  show IntKind.wrap .u32 (IntKind.wrap .u32 x * 2 ^ (Nat.min (s : Int).toNat 32)) = _
  rw [wu32, wu32, BitVec.toNat_shiftLeft, Int.toNat_natCast, show Nat.min s 32 = s from Nat.min_eq_left (by omega), Nat.shiftLeft_eq]
  have e1 := b_toNat x
  rw [Int.natCast_emod, two32, Int.natCast_mul, Int.natCast_pow, e1]; rfl
 rw [e]
 show IntKind.wrap .i32 (IntKind.wrap .u32 ((BitVec.ofInt 32 ((b32 x <<< s).toNat : Int) ||| BitVec.ofInt 32 ((b32 x >>> (32 - s)).toNat : Int)).toNat : Int)) = _
 rw [show BitVec.ofInt 32 ((b32 x <<< s).toNat : Int) = b32 x <<< s from b_nat _, show BitVec.ofInt 32 ((b32 x >>> (32 - s)).toNat : Int) = b32 x >>> (32 - s) from b_nat _, wu32, wi_mod, wi_nat]
theorem qKk {op b : Int} (h1 : 1 ≤ op) (h2 : op ≤ 30) (h3 : op ≠ 22) (h4 : op ≠ 23) : aluP op b := by unfold aluP; omega
theorem alu9 {x n : Int} (x1 : -2147483648 ≤ x) (x2 : x ≤ 2147483647) (n1 : -2147483648 ≤ n) (n2 : n ≤ 2147483647) : aluV 9 x n = (b32 x <<< (n % 32).toNat).toInt := by
 rw [qJq (qKk (by decide) (by decide) (by decide) (by decide)) x1 x2 n1 n2]
 unfold aluX
 simp only [Int.reduceEq, if_false, if_true]
 rw [and31, show n % 32 = ((n % 32).toNat : Nat) by omega, shl_bt x _ (by omega)]; rfl
theorem alu10 {x n : Int} (x1 : -2147483648 ≤ x) (x2 : x ≤ 2147483647) (n1 : -2147483648 ≤ n) (n2 : n ≤ 2147483647) : aluV 10 x n = (b32 x >>> (n % 32).toNat).toInt := by
 rw [qJq (qKk (by decide) (by decide) (by decide) (by decide)) x1 x2 n1 n2]
 unfold aluX
 simp only [Int.reduceEq, if_false, if_true]
 rw [and31, show n % 32 = ((n % 32).toNat : Nat) by omega, shr_bt x _ (by omega), wi_nat]; rfl
theorem and31u (s : Nat) (h : s < 32) : BO.ev .and .u64 (s : Int) 31 = s := by
 have h : ∀ k : Fin 32, BO.ev .and .u64 (k.val : Int) 31 = (k.val : Int) := by decide +kernel
 exact h ⟨s, by assumption⟩
theorem alu12 {x n : Int} (x1 : -2147483648 ≤ x) (x2 : x ≤ 2147483647) (n1 : -2147483648 ≤ n) (n2 : n ≤ 2147483647) : aluV 12 x n = (b32 x <<< (n % 32).toNat ||| b32 x >>> (32 - (n % 32).toNat)).toInt := by
 rw [qJq (qKk (by decide) (by decide) (by decide) (by decide)) x1 x2 n1 n2]
 unfold aluX
 simp only [Int.reduceEq, if_false, if_true]
 rw [and31, show n % 32 = ((n % 32).toNat : Nat) by omega, and31u _ (by omega), rol_bt x _ (by omega)]; rfl
theorem alu5 {x n : Int} (x1 : -2147483648 ≤ x) (x2 : x ≤ 2147483647) (n1 : -2147483648 ≤ n) (n2 : n ≤ 2147483647) : aluV 5 x n = (b32 x &&& b32 n).toInt := by
 rw [qJq (qKk (by decide) (by decide) (by decide) (by decide)) x1 x2 n1 n2]
 exact wi_nat _
theorem alu6 {x n : Int} (x1 : -2147483648 ≤ x) (x2 : x ≤ 2147483647) (n1 : -2147483648 ≤ n) (n2 : n ≤ 2147483647) : aluV 6 x n = (b32 x ||| b32 n).toInt := by
 rw [qJq (qKk (by decide) (by decide) (by decide) (by decide)) x1 x2 n1 n2]
 exact wi_nat _
theorem alu7 {x n : Int} (x1 : -2147483648 ≤ x) (x2 : x ≤ 2147483647) (n1 : -2147483648 ≤ n) (n2 : n ≤ 2147483647) : aluV 7 x n = (b32 x ^^^ b32 n).toInt := by
 rw [qJq (qKk (by decide) (by decide) (by decide) (by decide)) x1 x2 n1 n2]
 exact wi_nat _
theorem alu8 {x n : Int} (x1 : -2147483648 ≤ x) (x2 : x ≤ 2147483647) (n1 : -2147483648 ≤ n) (n2 : n ≤ 2147483647) : aluV 8 x n = (b32 x &&& ~~~ b32 n).toInt := by
 rw [qJq (qKk (by decide) (by decide) (by decide) (by decide)) x1 x2 n1 n2]
 exact wi_nat _
end Go.Eng
end
