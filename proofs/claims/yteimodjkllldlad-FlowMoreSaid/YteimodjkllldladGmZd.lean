/-
  Parts of the engine, a program's symbolic run, proved sound; and of plain laws.
-/
import Derived.Test.YteimodjkllldladGmZc
set_option linter.unusedVariables false
set_option linter.unusedSimpArgs false

/-!  -/
noncomputable section
namespace Go.Eng
theorem ofInt_wrap (x : Int) : BitVec.ofInt 32 (IntKind.wrap .u32 x) = BitVec.ofInt 32 x := by
 apply BitVec.eq_of_toInt_eq
 rw [BitVec.toInt_ofInt, BitVec.toInt_ofInt]
 have : IntKind.wrap .u32 x = x % 4294967296 := by simp [IntKind.wrap, IntKind.bits, IntKind.signed]
 rw [this]
 have h32 : (2 : Nat) ^ 32 = 4294967296 := by decide
 rw [h32]
 unfold Int.bmod
 simp
theorem ofInt_nat (v : BitVec 32) : BitVec.ofInt 32 (v.toNat : Int) = v := by
 apply BitVec.eq_of_toNat_eq
 rw [BitVec.toNat_ofInt]
 have h := v.isLt
 have h32 : (2 : Nat) ^ 32 = 4294967296 := by decide
 rw [h32] at *
 omega
theorem qKj (x r : Int) : bitP (IntKind.wrap .u32 x) r ↔ bitP x r := by unfold bitP; rw [ofInt_wrap]
theorem bit_bv (v : BitVec 32) (r : Int) : bitP (IntKind.wrap .u32 (v.toNat : Int)) r ↔ v.getLsbD r.toNat = true := by
 rw [qKj]; unfold bitP; rw [ofInt_nat]
theorem bit_or (a b r : Int) : bitP (orW a b) r ↔ bitP a r ∨ bitP b r := by
 unfold orW
 rw [bit_bv, BitVec.getLsbD_or, Bool.or_eq_true]; rfl
theorem qXm (r : Int) : ¬ bitP 0 r := by unfold bitP; simp
theorem bits_ext {a b : Int} (h : ∀ r : Int, 0 ≤ r → r < 32 → (bitP a r ↔ bitP b r)) : IntKind.wrap .u32 a = IntKind.wrap .u32 b := by
 have e : BitVec.ofInt 32 a = BitVec.ofInt 32 b := by
  apply BitVec.eq_of_getLsbD_eq
  intro i hi
  have := h i (by omega) (by omega)
  unfold bitP at this
  rw [Int.toNat_natCast] at this
  exact Bool.eq_iff_iff.2 this
 have wn : ∀ x : Int, IntKind.wrap .u32 x = ((BitVec.ofInt 32 x).toNat : Int) := fun x => by
  rw [BitVec.toNat_ofInt]
  have : IntKind.wrap .u32 x = x % 4294967296 := by simp [IntKind.wrap, IntKind.bits, IntKind.signed]
  rw [this]
  have h32 : (2 : Nat) ^ 32 = 4294967296 := by decide
  rw [h32]; omega
 rw [wn, wn, e]
theorem one_bit {d : Int} (d0 : 0 ≤ d) (d1 : d < 32) (r : Int) (r0 : 0 ≤ r) (r1 : r < 32) : bitP (IntKind.wrap .u32 (1 * 2 ^ (Nat.min d.toNat 32))) r ↔ r = d := by
 rw [qKj]
 obtain ⟨k, rfl⟩ : ∃ k : Nat, d = k := ⟨d.toNat, by omega⟩
 obtain ⟨j, rfl⟩ : ∃ j : Nat, r = j := ⟨r.toNat, by omega⟩
 rw [Int.toNat_natCast, show Nat.min k 32 = k from Nat.min_eq_left (by omega)]
 unfold bitP
 rw [Int.toNat_natCast]
 have : BitVec.ofInt 32 (1 * 2 ^ k) = BitVec.ofNat 32 (2 ^ k) := by
  rw [Int.one_mul]
  have : ((2 : Int) ^ k) = ((2 ^ k : Nat) : Int) := by simp
  rw [this, BitVec.ofInt_natCast]
 rw [this, BitVec.getLsbD_ofNat, Nat.testBit_two_pow]
 simp only [Bool.and_eq_true, decide_eq_true_eq]
 omega
theorem and_one {s d : Int} (d0 : 0 ≤ d) (d1 : d < 32) : IntKind.wrap .u32 ((BitVec.ofInt 32 s &&& BitVec.ofInt 32 (IntKind.wrap .u32 (1 * 2 ^ (Nat.min d.toNat 32)))).toNat : Int) = 0 ↔ ¬ bitP s d := by
 constructor
 ·intro h hb
  have h1 : bitP (IntKind.wrap .u32 ((BitVec.ofInt 32 s &&& BitVec.ofInt 32 (IntKind.wrap .u32 (1 * 2 ^ (Nat.min d.toNat 32)))).toNat : Int)) d := by
   rw [bit_bv, BitVec.getLsbD_and, Bool.and_eq_true]
   exact ⟨hb, (one_bit d0 d1 d d0 d1).2 rfl⟩
  rw [h] at h1
  exact qXm d h1
 ·intro hb
  have := bits_ext (a := IntKind.wrap .u32 ((BitVec.ofInt 32 s &&& BitVec.ofInt 32 (IntKind.wrap .u32 (1 * 2 ^ (Nat.min d.toNat 32)))).toNat : Int)) (b := 0) fun r r0 r1 => by
   rw [bit_bv, BitVec.getLsbD_and, Bool.and_eq_true]
   constructor
   ·rintro ⟨h1, h2⟩
    have h2 : bitP (IntKind.wrap .u32 (1 * 2 ^ (Nat.min d.toNat 32))) r := h2
    rw [one_bit d0 d1 r r0 r1] at h2
    subst h2; exact absurd h1 hb
   ·intro h; exact absurd h (qXm r)
  rw [wrap_wrap .u32 .u32 _ (by decide)] at this
  rw [this]; decide
theorem bit_not {s d : Int} (d0 : 0 ≤ d) (d1 : d < 32) (r : Int) (r0 : 0 ≤ r) (r1 : r < 32) : bitP (IntKind.wrap .u32 ((BitVec.ofInt 32 s &&& ~~~(BitVec.ofInt 32 (IntKind.wrap .u32 (1 * 2 ^ (Nat.min d.toNat 32))))).toNat : Int)) r ↔ bitP s r ∧ r ≠ d := by
 rw [bit_bv, BitVec.getLsbD_and, Bool.and_eq_true, BitVec.getLsbD_not, Bool.and_eq_true, Bool.not_eq_true']
 have h := one_bit d0 d1 r r0 r1
 unfold bitP at h ⊢
 simp only [decide_eq_true_eq]
 constructor
 ·rintro ⟨h1, _, h2⟩
  exact ⟨h1, fun e => by rw [h.2 e] at h2; exact absurd h2 (by decide)⟩
 ·rintro ⟨h1, h2⟩
  refine ⟨h1, by omega, ?_⟩
  cases hb : (BitVec.ofInt 32 (IntKind.wrap .u32 (1 * 2 ^ (Nat.min d.toNat 32)))).getLsbD r.toNat with
  | false => rfl
  | true => exact absurd (h.1 hb) h2
theorem bit_one0 {d : Int} (d0 : 0 ≤ d) (d1 : d < 32) (r : Int) (r0 : 0 ≤ r) (r1 : r < 32) : bitP (IntKind.wrap .u32 ((BitVec.ofInt 32 (IntKind.wrap .u32 (1 * 2 ^ (Nat.min d.toNat 32))) &&& ~~~(BitVec.ofInt 32 1)).toNat : Int)) r ↔ r = d ∧ d ≠ 0 := by
 have h1 : BitVec.ofInt 32 1 = BitVec.ofInt 32 (IntKind.wrap .u32 (1 * 2 ^ (Nat.min (0 : Int).toNat 32))) := by decide
 rw [h1]
 have h := bit_not (s := IntKind.wrap .u32 (1 * 2 ^ (Nat.min d.toNat 32))) (d := 0) (by decide) (by decide) r r0 r1
 rw [h, one_bit d0 d1 r r0 r1]
 clear h h1
 constructor
 ·rintro ⟨g1, g2⟩; subst g1; exact ⟨rfl, g2⟩
 ·rintro ⟨g1, g2⟩; subst g1; exact ⟨rfl, g2⟩
theorem sum_bit (p : Nat → Bool) : ∀ k : Nat, 0 ≤ sumP p k ∧ sumP p k < 2 ^ k ∧ (∀ r : Nat, r < k → ((sumP p k).toNat.testBit r = p r))
 | 0 => ⟨Int.le_refl _, by show (0 : Int) < 2 ^ 0; decide, fun r h => absurd h (Nat.not_lt_zero _)⟩
 | k + 1 => by
  obtain ⟨h0, h1, h2⟩ := sum_bit p k
  have hp : (2 : Int) ^ (k + 1) = 2 * 2 ^ k := by rw [Int.pow_succ, Int.mul_comm]
  have hc : ((2 ^ k : Nat) : Int) = (2 : Int) ^ k := by simp
  by_cases e : p k = true
  ·have es : sumP p (k + 1) = sumP p k + 2 ^ k := by rw [sumP, if_pos e]
   rw [es]
   refine ⟨by omega, by omega, fun r hr => ?_⟩
   have : (sumP p k + 2 ^ k).toNat = 2 ^ k + (sumP p k).toNat := by omega
   rw [this]
   by_cases g : r = k
   ·subst g
    rw [Nat.testBit_two_pow_add_eq, Nat.testBit_lt_two_pow (by omega), e]; rfl
   ·rw [Nat.testBit_two_pow_add_gt (by omega)]; exact h2 r (by omega)
  ·have es : sumP p (k + 1) = sumP p k := by rw [sumP, if_neg e, Int.add_zero]
   rw [es]
   refine ⟨h0, by omega, fun r hr => ?_⟩
   by_cases g : r = k
   ·subst g
    rw [Nat.testBit_lt_two_pow (by omega)]
    cases h : p r with
    | true => exact absurd h e
    | false => rfl
   ·exact h2 r (by omega)
theorem sum_bitP (p : Nat → Bool) (r : Int) (r0 : 0 ≤ r) (r1 : r < 32) : bitP (sumP p 32) r ↔ p r.toNat = true := by
 obtain ⟨h0, h1, h2⟩ := sum_bit p 32
 have := h2 r.toNat (by omega)
 unfold bitP
 have e : BitVec.ofInt 32 (sumP p 32) = BitVec.ofNat 32 (sumP p 32).toNat := by
  rw [← BitVec.ofInt_natCast]; congr 1; omega
 rw [e, BitVec.getLsbD_ofNat, this]
 simp only [Bool.and_eq_true, decide_eq_true_eq]
 constructor
 ·exact fun h => h.2
 ·exact fun h => ⟨by omega, h⟩
theorem sum_wrap (p : Nat → Bool) : IntKind.wrap .u32 (sumP p 32) = sumP p 32 := by
 obtain ⟨h0, h1, _⟩ := sum_bit p 32
 have : IntKind.wrap .u32 (sumP p 32) = sumP p 32 % 4294967296 := by simp [IntKind.wrap, IntKind.bits, IntKind.signed]
 rw [this]
 have : (2 : Int) ^ 32 = 4294967296 := by decide
 omega
end Go.Eng
end
