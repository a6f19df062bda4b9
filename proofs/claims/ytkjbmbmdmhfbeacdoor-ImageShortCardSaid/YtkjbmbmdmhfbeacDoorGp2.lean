/-
  Parts of the engine, a program's symbolic run, proved sound; and of plain laws.
-/
import Derived.Test.YtkjbmbmdmhfbeacDoorGp1
set_option linter.unusedVariables false
set_option linter.unusedSimpArgs false
/-!  -/
noncomputable section
namespace Go.Eng
def tN (x : Nat) : Nat := if 32768 ≤ x then (2 * x % 65536) ^^^ 4129 else 2 * x % 65536
theorem tN_lt (x : Nat) : tN x < 65536 := by
 unfold tN
 split
 ·exact @Nat.xor_lt_two_pow _ _ 16 (by omega) (by omega)
 ·omega
theorem crcT_nat (x : Nat) : crcT (x : Int) = (tN x : Nat) := by
 unfold crcT tN xorZ
 by_cases h : 32768 ≤ x
 ·rw [if_pos (by omega), if_pos h]
  rw [show (2 * (x : Int) % 65536).toNat = 2 * x % 65536 by omega, show ((4129 : Int).toNat) = 4129 from rfl]
 ·rw [if_neg (by omega), if_neg h]
  omega
def tI (x : Nat) : Nat → Nat
 | 0 => x
 | k + 1 => tN (tI x k)
theorem crcI_nat (x : Nat) : ∀ k, crcI (x : Int) k = (tI x k : Nat)
 | 0 => rfl
 | k + 1 => by rw [crcI, crcI_nat x k, crcT_nat]; rfl
theorem hi15 {a : Nat} (h : a < 65536) : (32768 ≤ a) ↔ a.testBit 15 = true := by
 rw [Nat.testBit_eq_decide_div_mod_eq, decide_eq_true_eq]
 omega
theorem dbl_xor (a b : Nat) : 2 * (a ^^^ b) % 65536 = (2 * a % 65536) ^^^ (2 * b % 65536) := by
 rw [show (65536 : Nat) = 2 ^ 16 from rfl, ← Nat.xor_mod_two_pow]
 congr 1
 have := @Nat.shiftLeft_xor_distrib 1 a b
 simp only [Nat.shiftLeft_eq, Nat.pow_one] at this
 rw [Nat.mul_comm, this, Nat.mul_comm a, Nat.mul_comm b]
theorem tN_lin {a b : Nat} (ha : a < 65536) (hb : b < 65536) : tN (a ^^^ b) = tN a ^^^ tN b := by
 have hx : a ^^^ b < 65536 := @Nat.xor_lt_two_pow _ _ 16 ha hb
 have e := hi15 hx
 have ea := hi15 ha
 have eb := hi15 hb
 rw [Nat.testBit_xor] at e
 unfold tN
 rw [dbl_xor]
 generalize 2 * a % 65536 = u
 generalize 2 * b % 65536 = v
 cases h1 : a.testBit 15 <;> cases h2 : b.testBit 15 <;> rw [h1, h2] at e <;> rw [h1] at ea <;> rw [h2] at eb <;> simp only [Bool.xor_false, Bool.xor_true, Bool.false_eq_true, iff_false, iff_true, Bool.not_false, Bool.not_true, Bool.xor_self] at e ea eb
 ·rw [if_neg e, if_neg ea, if_neg eb]
 ·rw [if_pos e, if_neg ea, if_pos eb, Nat.xor_assoc]
 ·rw [if_pos e, if_pos ea, if_neg eb, Nat.xor_assoc, Nat.xor_assoc, Nat.xor_comm v]
 ·rw [if_neg e, if_pos ea, if_pos eb]
  rw [Nat.xor_assoc, ← Nat.xor_assoc 4129 v, Nat.xor_comm 4129 v, Nat.xor_assoc v, Nat.xor_self, Nat.xor_zero]
theorem tI_lin {a b : Nat} (ha : a < 65536) (hb : b < 65536) : ∀ k, tI (a ^^^ b) k = tI a k ^^^ tI b k
 | 0 => rfl
 | k + 1 => by
  have h1 : tI a k < 65536 := by cases k with | zero => exact ha | succ k => exact tN_lt _
  have h2 : tI b k < 65536 := by cases k with | zero => exact hb | succ k => exact tN_lt _
  simp only [tI]
  rw [tI_lin ha hb k, tN_lin h1 h2]
theorem tI_small {y : Nat} (h : y < 4096) : tI y 4 = 16 * y := by
 have t : ∀ x, x < 32768 → tN x = 2 * x := fun x hx => by unfold tN; rw [if_neg (by omega)]; omega
 simp only [tI]
 rw [t y (by omega), t (2 * y) (by omega), t (2 * (2 * y)) (by omega), t (2 * (2 * (2 * y))) (by omega)]
 omega
def foN (k : Nat) : Nat := [0, 4129, 8258, 12387, 16516, 20645, 24774, 28903, 33032, 37161, 41290, 45419, 49548, 53677, 57806, 61935].getD k 0
theorem tI_hi : ∀ k, k < 16 → tI (4096 * k) 4 = foN k := by decide
theorem foN_lt : ∀ k, k < 16 → foN k < 65536 := by decide
theorem split12 (a b : Nat) (hb : b < 4096) : 4096 * a + b = (4096 * a) ^^^ b := by
 apply Nat.eq_of_testBit_eq
 intro j
 have h1 := Nat.testBit_two_pow_mul_add a (i := 12) hb j
 have h0 := Nat.testBit_two_pow_mul_add a (i := 12) (b := 0) (by decide) j
 rw [Nat.testBit_xor, show (4096 : Nat) = 2 ^ 12 from rfl, h1]
 rw [Nat.add_zero] at h0
 rw [h0]
 split
 ·simp
 ·have : b.testBit j = false := Nat.testBit_lt_two_pow (Nat.lt_of_lt_of_le hb (Nat.pow_le_pow_right (n := 2) (i := 12) (by decide) (by omega)))
  simp [this]
theorem mul_xor (a b : Nat) : 4096 * (a ^^^ b) = (4096 * a) ^^^ (4096 * b) := by
 have := @Nat.shiftLeft_xor_distrib 12 a b
 simp only [Nat.shiftLeft_eq, show (2 ^ 12 : Nat) = 4096 from rfl] at this
 rw [Nat.mul_comm, this, Nat.mul_comm a, Nat.mul_comm b]
def nibN (c n : Nat) : Nat := ((c * 16) ^^^ foN ((c / 4096 ^^^ n) % 16)) % 65536
theorem nib_ok {c n : Nat} (hc : c < 65536) (hn : n < 16) : nibN c n = tI (c ^^^ 4096 * n) 4 := by
 have hh : c / 4096 ^^^ n < 16 := @Nat.xor_lt_two_pow _ _ 4 (by omega) hn
 have hx : c ^^^ 4096 * n = (4096 * (c / 4096 ^^^ n)) ^^^ (c % 4096) := by
  have := split12 (c / 4096) (c % 4096) (by omega)
  rw [show 4096 * (c / 4096) + c % 4096 = c by omega] at this
  rw [mul_xor]
  conv => lhs; rw [this]
  rw [Nat.xor_assoc, Nat.xor_comm (c % 4096), ← Nat.xor_assoc]
 rw [hx, tI_lin (by omega) (by omega), tI_hi _ hh, tI_small (by omega)]
 unfold nibN
 rw [Nat.mod_eq_of_lt hh, show (65536 : Nat) = 2 ^ 16 from rfl, Nat.xor_mod_two_pow, Nat.mod_eq_of_lt (foN_lt _ hh), Nat.xor_comm]
 congr 1
 omega
theorem tI_add (x : Nat) : ∀ k, tI x (4 + k) = tI (tI x 4) k
 | 0 => rfl
 | k + 1 => by
  show tN (tI x (4 + k)) = tN (tI (tI x 4) k)
  rw [tI_add x k]
theorem crcS_nib {c b : Nat} (hc : c < 65536) (hb : b < 256) : crcS c b = (nibN (nibN c (b / 16)) (b % 16) : Nat) := by
 have h1 : nibN c (b / 16) < 65536 := by unfold nibN; omega
 rw [nib_ok h1 (by omega), nib_ok hc (by omega)]
 unfold crcS
 have e : xorZ ((c : Int) % 65536) (256 * (b : Int)) = ((c ^^^ 256 * b : Nat) : Int) := by
  unfold xorZ
  rw [show ((c : Int) % 65536).toNat = c by omega, show (256 * (b : Int)).toNat = 256 * b by omega]
 rw [e, crcI_nat, show (8 : Nat) = 4 + 4 from rfl, tI_add]
 congr 2
 have hsp : c ^^^ 256 * b = (c ^^^ 4096 * (b / 16)) ^^^ (256 * (b % 16)) := by
  rw [Nat.xor_assoc]
  congr 1
  rw [← split12 _ _ (by omega)]
  omega
 have hl : c ^^^ 4096 * (b / 16) < 65536 := @Nat.xor_lt_two_pow _ _ 16 hc (by omega)
 rw [hsp, tI_lin hl (by omega), tI_small (y := 256 * (b % 16)) (by omega)]
 congr 1
 omega
theorem ba65535 (x : Int) : band .i32 x 65535 = x % 65536 := by
 show IntKind.wrap .i32 ((BitVec.ofInt 32 x &&& BitVec.ofInt 32 65535).toNat : Int) = _
 have e2 : (BitVec.ofInt 32 65535).toNat = 2 ^ 16 - 1 := by decide
 rw [BitVec.toNat_and, e2, Nat.and_two_pow_sub_one_eq_mod]
 have e1 := b_toNat x
 have : ((((BitVec.ofInt 32 x).toNat % 2 ^ 16 : Nat)) : Int) = x % 65536 := by
  have e1 : (((BitVec.ofInt 32 x).toNat : Nat) : Int) = x % 4294967296 := e1
  generalize (BitVec.ofInt 32 x).toNat = N at e1
  rw [show (2 : Nat) ^ 16 = 65536 from rfl]
  omega
 rw [this]
 exact qZc .i32 _ (by show (-2147483648 : Int) ≤ _; omega) (by show _ ≤ (2147483647 : Int); omega)
theorem ba15 (x : Int) : band .i32 x 15 = x % 16 := by
 show IntKind.wrap .i32 ((BitVec.ofInt 32 x &&& BitVec.ofInt 32 15).toNat : Int) = _
 have e2 : (BitVec.ofInt 32 15).toNat = 2 ^ 4 - 1 := by decide
 rw [BitVec.toNat_and, e2, Nat.and_two_pow_sub_one_eq_mod]
 have e1 := b_toNat x
 have : ((((BitVec.ofInt 32 x).toNat % 2 ^ 4 : Nat)) : Int) = x % 16 := by
  have e1 : (((BitVec.ofInt 32 x).toNat : Nat) : Int) = x % 4294967296 := e1
  generalize (BitVec.ofInt 32 x).toNat = N at e1
  rw [show (2 : Nat) ^ 4 = 16 from rfl]
  omega
 rw [this]
 exact qZc .i32 _ (by show (-2147483648 : Int) ≤ _; omega) (by show _ ≤ (2147483647 : Int); omega)
theorem bx_nat {a b : Nat} (ha : a < 2147483648) (hb : b < 2147483648) : bxor .i32 (a : Int) (b : Int) = ((a ^^^ b : Nat) : Int) := by
 show IntKind.wrap .i32 ((BitVec.ofInt 32 (a : Int) ^^^ BitVec.ofInt 32 (b : Int)).toNat : Int) = _
 rw [BitVec.toNat_xor, BitVec.ofInt_natCast, BitVec.ofInt_natCast, BitVec.toNat_ofNat, BitVec.toNat_ofNat, Nat.mod_eq_of_lt (by omega), Nat.mod_eq_of_lt (by omega)]
 have := @Nat.xor_lt_two_pow a b 31 (by omega) (by omega)
 exact qZc .i32 _ (by show (-2147483648 : Int) ≤ _; omega) (by show _ ≤ (2147483647 : Int); omega)
theorem four_rd {k : Nat} (h : k < 16) : IntKind.wrap .i32 (rdZ (qQz 0 (qQz 4129 (qQz 8258 (qQz 12387 (qQz 16516 (qQz 20645 (qQz 24774 (qQz 28903 (qQz 33032 (qQz 37161 (qQz 41290 (qQz 45419 (qQz 49548 (qQz 53677 (qQz 57806 (qQz 61935 0)))))))))))))))) (k : Int)) = (foN k : Nat) := by
 rw [show (qQz 0 (qQz 4129 (qQz 8258 (qQz 12387 (qQz 16516 (qQz 20645 (qQz 24774 (qQz 28903 (qQz 33032 (qQz 37161 (qQz 41290 (qQz 45419 (qQz 49548 (qQz 53677 (qQz 57806 (qQz 61935 0)))))))))))))))) = chn [0, 4129, 8258, 12387, 16516, 20645, 24774, 28903, 33032, 37161, 41290, 45419, 49548, 53677, 57806, 61935] from rfl, rd_chn]
 have h2 := foN_lt k h
 have e : ([0, 4129, 8258, 12387, 16516, 20645, 24774, 28903, 33032, 37161, 41290, 45419, 49548, 53677, 57806, 61935] : List Int).getD k 0 = (foN k : Nat) := by
  have : ∀ k, k < 16 → ([0, 4129, 8258, 12387, 16516, 20645, 24774, 28903, 33032, 37161, 41290, 45419, 49548, 53677, 57806, 61935] : List Int).getD k 0 = (foN k : Nat) := by decide
  exact this k h
 rw [e]
 exact qZc .i32 _ (by show (-2147483648 : Int) ≤ _; omega) (by show _ ≤ (2147483647 : Int); omega)
theorem nib_word {c n : Nat} (hc : c < 65536) (hn : n < 16) :
  band .i32 (bxor .i32 (shlZ .i32 (c : Int) 4) (IntKind.wrap .i32 (rdZ (qQz 0 (qQz 4129 (qQz 8258 (qQz 12387 (qQz 16516 (qQz 20645 (qQz 24774 (qQz 28903 (qQz 33032 (qQz 37161 (qQz 41290 (qQz 45419 (qQz 49548 (qQz 53677 (qQz 57806 (qQz 61935 0)))))))))))))))) (band .i32 (bxor .i32 (shrZ .i32 (c : Int) 12) (n : Int)) 15)))) 65535 = (nibN c n : Nat) := by
 have e1 : shrZ .i32 (c : Int) 12 = ((c / 4096 : Nat) : Int) := by
  rw [show shrZ .i32 (c : Int) 12 = (c : Int) / 4096 from shr_ev .i32 c 12]; omega
 have e2 : shlZ .i32 (c : Int) 4 = ((c * 16 : Nat) : Int) := by
  show IntKind.wrap .i32 ((c : Int) * 16) = _
  rw [qZc .i32 _ (by show (-2147483648 : Int) ≤ _; omega) (by show _ ≤ (2147483647 : Int); omega)]
  omega
 rw [e1, e2, bx_nat (by omega) (by omega), ba15, ba65535]
 rw [show (((c / 4096 ^^^ n : Nat)) : Int) % 16 = (((c / 4096 ^^^ n) % 16 : Nat) : Int) by omega, four_rd (by omega)]
 have := foN_lt ((c / 4096 ^^^ n) % 16) (by omega)
 rw [bx_nat (by omega) (by omega)]
 unfold nibN
 omega
theorem wu8 (x : Int) : IntKind.wrap .u8 x = x % 256 := rfl
theorem slen_row {n q : Int} (h0 : 0 ≤ n) (h1 : n ≤ 1000000) : slenZ (qQz n (qQz q 0)) = n := by
 unfold slenZ; rw [qQy]; unfold strMax; split <;> (try split) <;> omega
theorem sby_row (n q i : Int) : qJd (qQz n (qQz q 0)) i = rdZ q i % 256 := by
 unfold qJd
 rw [qQp _ _ (by decide), show (1 : Int) - 1 = 0 from rfl, qQy]
theorem seq_row {n m q q' : Int} (h0 : 0 ≤ n) (h1 : n ≤ 1000000) (g0 : 0 ≤ m) (g1 : m ≤ 1000000) :
  seqZ (qQz n (qQz q 0)) (qQz m (qQz q' 0)) ≠ 0 ↔ n = m ∧ ∀ i : Nat, (i : Int) < n → IntKind.wrap .u8 (rdZ q i) = IntKind.wrap .u8 (rdZ q' i) := by
 rw [seqZ_iff]
 simp only [wu8]
 constructor
 ·intro h
  have hs := qJo (qQz n (qQz q 0))
  have hs' := qJo (qQz m (qQz q' 0))
  rw [slen_row h0 h1] at hs
  rw [slen_row g0 g1, ← h] at hs'
  have e : n = m := by omega
  subst e
  refine ⟨rfl, fun i hi => ?_⟩
  have a := qKa (qQz n (qQz q 0)) i (by rw [slen_row h0 h1]; exact hi)
  have b := qKa (qQz n (qQz q' 0)) i (by rw [slen_row h0 h1]; exact hi)
  rw [h, b] at a
  have a := Option.some.inj a
  rw [sby_row, sby_row] at a
  have u := congrArg UInt8.toNat a
  rw [UInt8.toNat_ofNat', UInt8.toNat_ofNat'] at u
  omega
 ·rintro ⟨rfl, h⟩
  exact str_congr h h1
theorem seq_row0 {n m q q' : Int} (h0 : 0 ≤ n) (h1 : n ≤ 1000000) (g0 : 0 ≤ m) (g1 : m ≤ 1000000) :
  (seqZ (qQz n (qQz q 0)) (qQz m (qQz q' 0)) = 0) ↔ ¬ (n = m ∧ ∀ i : Nat, (i : Int) < n → IntKind.wrap .u8 (rdZ q i) = IntKind.wrap .u8 (rdZ q' i)) := by
 rw [← seq_row h0 h1 g0 g1]; omega
theorem slc_rd {c n : Int} (h0 : 0 ≤ n) (i : Nat) : rdZ (slcZ c n) i = if (i : Int) = n + 1 then crcZ c n % 256 else if (i : Int) = n then crcZ c n / 256 else rdZ c i := by
 unfold slcZ
 rw [qQt, qQt]
 by_cases e : (i : Int) = n + 1
 ·rw [if_pos (by omega), if_pos e]
 ·rw [if_neg (by omega), if_neg e]
  by_cases g : (i : Int) = n
  ·rw [if_pos (by omega), if_pos g]
  ·rw [if_neg (by omega), if_neg g]
end Go.Eng
end
/-!  -/
noncomputable section
namespace Go.Eng
theorem u32_bd (x : Int) : 0 ≤ IntKind.wrap .u32 x ∧ IntKind.wrap .u32 x ≤ 4294967295 := wrap_bd .u32 x
theorem u32_mod (x : Int) : IntKind.wrap .u32 x = x % 4294967296 := wu32 x
theorem nby_bd (x s t : Int) : 0 ≤ nby x s t ∧ nby x s t ≤ 255 := by unfold nby; omega
theorem nby_w (x s t : Int) : IntKind.wrap .u8 (nby x s t) = nby x s t := by have := nby_bd x s t; exact w8 this.1 this.2
theorem pb_rd (q x s : Int) {n : Int} (h0 : 0 ≤ n) : ∀ (k i : Nat), rdZ (pbF q n x s k) i = if n ≤ i ∧ (i : Int) < n + k then nby x s (i - n) else rdZ q i
 | 0, i => by rw [if_neg (by omega)]; rfl
 | k + 1, i => by
  rw [pbF, qQt, pb_rd q x s h0 k i]
  by_cases e : (i : Int) = n + k
  ·rw [if_pos (by omega), if_pos (by omega)]
   congr 1; omega
  ·rw [if_neg (by omega)]
   by_cases g : n ≤ i ∧ (i : Int) < n + k
   ·rw [if_pos g, if_pos (by omega)]
   ·rw [if_neg g, if_neg (by omega)]
theorem pbZ_def (q n x s : Int) : pbZ q n (qQz x (qQz s 0)) = pbF q n x s s.toNat := by
 unfold pbZ
 rw [qQy, qQp _ _ (by decide), show (1 : Int) - 1 = 0 from rfl, qQy]
theorem pbZ_rd (q x : Int) {s n : Int} (h0 : 0 ≤ n) (s0 : 0 ≤ s) (i : Nat) : rdZ (pbZ q n (qQz x (qQz s 0))) i = if n ≤ i ∧ (i : Int) < n + s then nby x s (i - n) else rdZ q i := by
 rw [pbZ_def, pb_rd q x s h0, Int.toNat_of_nonneg s0]
theorem wby_rd (x : Int) (i : Nat) (h : i < 4) : rdZ (wbyZ x) i = nby x 4 i := by
 unfold wbyZ
 rw [pb_rd 0 x 4 (by decide), if_pos (by omega)]
 congr 1
theorem nby_4 (x : Int) {s t : Int} : nby x s t = nby x 4 (t + (4 - s)) := by
 unfold nby
 rw [show s - 1 - t = 4 - 1 - (t + (4 - s)) by omega]
theorem nby_i32 (x s t : Int) : nby (IntKind.wrap .i32 x) s t = nby x s t := by
 unfold nby
 rw [show IntKind.wrap .u32 (IntKind.wrap .i32 x) = IntKind.wrap .u32 x from wrap_wrap .u32 .i32 x (by decide)]
theorem nby_u32 (x s t : Int) : nby (IntKind.wrap .u32 x) s t = nby x s t := by
 unfold nby
 rw [show IntKind.wrap .u32 (IntKind.wrap .u32 x) = IntKind.wrap .u32 x from wrap_wrap .u32 .u32 x (by decide)]
theorem nby40 (x : Int) : nby x 4 0 = IntKind.wrap .u32 x / 16777216 := by
 have := u32_bd x
 show IntKind.wrap .u32 x / 16777216 % 256 = _
 omega
theorem nby41 (x : Int) : nby x 4 1 = IntKind.wrap .u32 x / 65536 % 256 := rfl
theorem nby42 (x : Int) : nby x 4 2 = IntKind.wrap .u32 x / 256 % 256 := rfl
theorem nby43 (x : Int) : nby x 4 3 = IntKind.wrap .u32 x % 256 := by
 show IntKind.wrap .u32 x / 1 % 256 = _
 rw [Int.ediv_one]
end Go.Eng
end
/-!  -/
noncomputable section
namespace Go.Eng
def By (B : Int → Int) (q len : Int) : Prop := ∀ i : Nat, (i : Int) < len → IntKind.wrap .u8 (rdZ q i) = B i
theorem By.put {B : Int → Int} {q n x s : Int} (h : By B q n) (h0 : 0 ≤ n) (s0 : 0 ≤ s) (hx : ∀ t : Int, 0 ≤ t → t < s → B (n + t) = nby x s t) : By B (pbZ q n (qQz x (qQz s 0))) (n + s) := by
 intro i hi
 rw [pbZ_rd q x h0 s0]
 by_cases e : n ≤ i ∧ (i : Int) < n + s
 ·rw [if_pos e, nby_w, ← hx (i - n) (by omega) (by omega)]
  congr 1; omega
 ·rw [if_neg e]
  exact h i (by omega)
theorem By.one {B : Int → Int} {q n x : Int} (h : By B q n) (h0 : 0 ≤ n) (hx : B n = IntKind.wrap .u8 x) : By B (updZ q n x) (n + 1) := by
 intro i hi
 rw [qQt]
 by_cases e : (i : Int) = n
 ·rw [if_pos (by omega), e, hx]
 ·rw [if_neg (by omega)]
  exact h i (by omega)
theorem crcF_congr {c d : Int} : ∀ k : Nat, (∀ i : Nat, i < k → byt c i = byt d i) → crcF c k = crcF d k
 | 0, _ => rfl
 | k + 1, h => by rw [crcF, crcF, crcF_congr k (fun i hi => h i (by omega)), h k (by omega)]
theorem slc_congr {c d n : Int} (h0 : 0 ≤ n) (h : ∀ i : Nat, (i : Int) < n → byt c i = byt d i) : qZi [.int .u8] (slcZ c n) (slcZ d n) (n + 2) := by
 have e : crcZ c n = crcZ d n := crcF_congr n.toNat fun i hi => h i (by omega)
 refine qJq fun i hi => ?_
 rw [slc_rd h0, slc_rd h0, e]
 by_cases e1 : (i : Int) = n + 1
 ·rw [if_pos e1, if_pos e1]
 ·rw [if_neg e1, if_neg e1]
  by_cases e2 : (i : Int) = n
  ·rw [if_pos e2, if_pos e2]
  ·rw [if_neg e2, if_neg e2]
   exact h i (by omega)
theorem LZ_map_rd (f : Nat → Int) (n : Nat) {i : Nat} (h : i < n) : rdZ (LZ ((List.range n).map f)) i = f i := by
 unfold rdZ
 rw [ZL_LZ, Int.toNat_natCast, List.getD_eq_getElem?_getD, List.getElem?_map, List.getElem?_range h]
 rfl
section
variable (nC nD nI nO cC cD cS cI cO : Int)
theorem pB_bd (i : Int) : 0 ≤ pB nC nD nI nO cC cD cS cI cO i ∧ pB nC nD nI nO cC cD cS cI cO i ≤ 255 := by
 unfold pB
 repeat' split
 all_goals first | omega | exact nby_bd _ _ _
theorem pC_by {i : Nat} (h : (i : Int) < pN nC nD nI nO) : byt (pC nC nD nI nO cC cD cS cI cO) i = pB nC nD nI nO cC cD cS cI cO i := by
 unfold byt pC
 rw [LZ_map_rd _ _ (by omega)]
 have := pB_bd nC nD nI nO cC cD cS cI cO i
 exact w8 this.1 this.2
theorem pB_mag : By (pB nC nD nI nO cC cD cS cI cO) (qQz 65 (qQz 83 (qQz 84 (qQz 49 0)))) 4 := by
 intro i hi
 have : i = 0 ∨ i = 1 ∨ i = 2 ∨ i = 3 := by omega
 rw [show (qQz 65 (qQz 83 (qQz 84 (qQz 49 0)))) = chn [65, 83, 84, 49] from rfl, rd_chn]
 unfold pB
 rw [if_pos (by omega)]
 rcases this with rfl | rfl | rfl | rfl <;> decide
variable {nC nD nI nO}
theorem pB_nC {t : Int} (h0 : 0 ≤ t) (h1 : t < 2) : pB nC nD nI nO cC cD cS cI cO (4 + t) = nby nC 2 t := by
 unfold pB
 rw [if_neg (by omega), if_pos (by omega)]
 congr 1; omega
theorem pB_C {k t : Int} (k0 : 0 ≤ k) (k1 : k < nC) (h0 : 0 ≤ t) (h1 : t < 4) : pB nC nD nI nO cC cD cS cI cO (6 + 4 * k + t) = nby (IntKind.wrap .u32 (rdZ cC k)) 4 t := by
 unfold pB
 rw [if_neg (by omega), if_neg (by omega), if_pos (by omega)]
 congr 1
 ·congr 2; omega
 ·omega
theorem pB_nD (hC : 0 ≤ nC) {t : Int} (h0 : 0 ≤ t) (h1 : t < 2) : pB nC nD nI nO cC cD cS cI cO (6 + 4 * nC + t) = nby nD 2 t := by
 unfold pB
 rw [if_neg (by omega), if_neg (by omega), if_neg (by omega), if_pos (by omega)]
 congr 1; omega
theorem pB_D (hC : 0 ≤ nC) {k t : Int} (k0 : 0 ≤ k) (k1 : k < nD) (h0 : 0 ≤ t) (h1 : t < 4) : pB nC nD nI nO cC cD cS cI cO (8 + 4 * nC + 5 * k + t) = nby (IntKind.wrap .i32 (rdZ cD k)) 4 t := by
 unfold pB
 rw [if_neg (by omega), if_neg (by omega), if_neg (by omega), if_neg (by omega), if_pos (by omega), if_pos (by omega)]
 congr 1
 ·congr 2; omega
 ·omega
theorem pB_S (hC : 0 ≤ nC) {k : Int} (k0 : 0 ≤ k) (k1 : k < nD) : pB nC nD nI nO cC cD cS cI cO (8 + 4 * nC + 5 * k + 4) = if rdZ cS k ≠ 0 then 1 else 0 := by
 unfold pB
 rw [if_neg (by omega), if_neg (by omega), if_neg (by omega), if_neg (by omega), if_pos (by omega), if_neg (by omega)]
 rw [show (8 + 4 * nC + 5 * k + 4 - (8 + 4 * nC)) / 5 = k by omega]
theorem pB_nI (hC : 0 ≤ nC) (hD : 0 ≤ nD) : pB nC nD nI nO cC cD cS cI cO (8 + 4 * nC + 5 * nD) = nby nI 1 0 := by
 unfold pB
 rw [if_neg (by omega), if_neg (by omega), if_neg (by omega), if_neg (by omega), if_neg (by omega), if_pos (by omega)]
theorem pB_I (hC : 0 ≤ nC) (hD : 0 ≤ nD) {k t : Int} (k0 : 0 ≤ k) (k1 : k < nI) (h0 : 0 ≤ t) (h1 : t < 2) : pB nC nD nI nO cC cD cS cI cO (9 + 4 * nC + 5 * nD + 2 * k + t) = nby (IntKind.wrap .i64 (rdZ cI k)) 2 t := by
 unfold pB
 rw [if_neg (by omega), if_neg (by omega), if_neg (by omega), if_neg (by omega), if_neg (by omega), if_neg (by omega), if_pos (by omega)]
 congr 1
 ·congr 2; omega
 ·omega
theorem pB_nO (hC : 0 ≤ nC) (hD : 0 ≤ nD) (hI : 0 ≤ nI) : pB nC nD nI nO cC cD cS cI cO (9 + 4 * nC + 5 * nD + 2 * nI) = nby nO 1 0 := by
 unfold pB
 rw [if_neg (by omega), if_neg (by omega), if_neg (by omega), if_neg (by omega), if_neg (by omega), if_neg (by omega), if_neg (by omega), if_pos (by omega)]
theorem pB_O (hC : 0 ≤ nC) (hD : 0 ≤ nD) (hI : 0 ≤ nI) {k t : Int} (k0 : 0 ≤ k) (h0 : 0 ≤ t) (h1 : t < 2) : pB nC nD nI nO cC cD cS cI cO (10 + 4 * nC + 5 * nD + 2 * nI + 2 * k + t) = nby (IntKind.wrap .i64 (rdZ cO k)) 2 t := by
 unfold pB
 rw [if_neg (by omega), if_neg (by omega), if_neg (by omega), if_neg (by omega), if_neg (by omega), if_neg (by omega), if_neg (by omega), if_neg (by omega)]
 congr 1
 ·congr 2; omega
 ·omega
variable {cC cD cS cI cO}
theorem by_nC {q : Int} (h : By (pB nC nD nI nO cC cD cS cI cO) q 4) : By (pB nC nD nI nO cC cD cS cI cO) (pbZ q 4 (qQz nC (qQz 2 0))) 6 := by
 have := h.put (x := nC) (s := 2) (by decide) (by decide) fun t t0 t1 => pB_nC cC cD cS cI cO t0 t1
 exact this
theorem by_C {q n k : Int} (k0 : 0 ≤ k) (k1 : k < nC) (hn : n = 6 + 4 * k) (h : By (pB nC nD nI nO cC cD cS cI cO) q n) : By (pB nC nD nI nO cC cD cS cI cO) (pbZ q n (qQz (IntKind.wrap .u32 (rdZ cC k)) (qQz 4 0))) (n + 4) := by
 subst hn
 exact h.put (by omega) (by decide) fun t t0 t1 => pB_C cC cD cS cI cO k0 k1 t0 t1
theorem by_nD {q n : Int} (hC : 0 ≤ nC) (hn : n = 6 + 4 * nC) (h : By (pB nC nD nI nO cC cD cS cI cO) q n) : By (pB nC nD nI nO cC cD cS cI cO) (pbZ q n (qQz nD (qQz 2 0))) (n + 2) := by
 subst hn
 exact h.put (by omega) (by decide) fun t t0 t1 => pB_nD cC cD cS cI cO hC t0 t1
theorem by_D {q n k x : Int} (hC : 0 ≤ nC) (k0 : 0 ≤ k) (k1 : k < nD) (hn : n = 8 + 4 * nC + 5 * k) (hx : ∀ t, nby x 4 t = nby (IntKind.wrap .i32 (rdZ cD k)) 4 t) (h : By (pB nC nD nI nO cC cD cS cI cO) q n) :
  By (pB nC nD nI nO cC cD cS cI cO) (pbZ q n (qQz x (qQz 4 0))) (n + 4) := by
 subst hn
 exact h.put (by omega) (by decide) fun t t0 t1 => by rw [hx]; exact pB_D cC cD cS cI cO hC k0 k1 t0 t1
theorem by_S {q n k x : Int} (hC : 0 ≤ nC) (k0 : 0 ≤ k) (k1 : k < nD) (hn : n = 8 + 4 * nC + 5 * k + 4) (hx : x = if rdZ cS k ≠ 0 then 1 else 0) (h : By (pB nC nD nI nO cC cD cS cI cO) q n) :
  By (pB nC nD nI nO cC cD cS cI cO) (pbZ q n (qQz x (qQz 1 0))) (n + 1) := by
 subst hn
 refine h.put (by omega) (by decide) fun t t0 t1 => ?_
 have e : t = 0 := by omega
 subst e
 rw [Int.add_zero, pB_S cC cD cS cI cO hC k0 k1, hx]
 split <;> decide
theorem by_S1 {q n k x : Int} (hC : 0 ≤ nC) (k0 : 0 ≤ k) (k1 : k < nD) (hn : n = 8 + 4 * nC + 5 * k + 4) (hx : x = if rdZ cS k ≠ 0 then 1 else 0) (h : By (pB nC nD nI nO cC cD cS cI cO) q n) :
  By (pB nC nD nI nO cC cD cS cI cO) (updZ q n x) (n + 1) := by
 subst hn
 refine h.one (by omega) ?_
 rw [pB_S cC cD cS cI cO hC k0 k1, hx]
 split <;> decide
theorem by_nI {q n : Int} (hC : 0 ≤ nC) (hD : 0 ≤ nD) (hn : n = 8 + 4 * nC + 5 * nD) (h : By (pB nC nD nI nO cC cD cS cI cO) q n) : By (pB nC nD nI nO cC cD cS cI cO) (pbZ q n (qQz nI (qQz 1 0))) (n + 1) := by
 subst hn
 refine h.put (by omega) (by decide) fun t t0 t1 => ?_
 have e : t = 0 := by omega
 subst e
 rw [Int.add_zero, pB_nI cC cD cS cI cO hC hD]
theorem by_I {q n k : Int} (hC : 0 ≤ nC) (hD : 0 ≤ nD) (k0 : 0 ≤ k) (k1 : k < nI) (hn : n = 9 + 4 * nC + 5 * nD + 2 * k) (h : By (pB nC nD nI nO cC cD cS cI cO) q n) :
  By (pB nC nD nI nO cC cD cS cI cO) (pbZ q n (qQz (IntKind.wrap .i64 (rdZ cI k)) (qQz 2 0))) (n + 2) := by
 subst hn
 exact h.put (by omega) (by decide) fun t t0 t1 => pB_I cC cD cS cI cO hC hD k0 k1 t0 t1
theorem by_nO {q n : Int} (hC : 0 ≤ nC) (hD : 0 ≤ nD) (hI : 0 ≤ nI) (hn : n = 9 + 4 * nC + 5 * nD + 2 * nI) (h : By (pB nC nD nI nO cC cD cS cI cO) q n) : By (pB nC nD nI nO cC cD cS cI cO) (pbZ q n (qQz nO (qQz 1 0))) (n + 1) := by
 subst hn
 refine h.put (by omega) (by decide) fun t t0 t1 => ?_
 have e : t = 0 := by omega
 subst e
 rw [Int.add_zero, pB_nO cC cD cS cI cO hC hD hI]
theorem by_O {q n k : Int} (hC : 0 ≤ nC) (hD : 0 ≤ nD) (hI : 0 ≤ nI) (k0 : 0 ≤ k) (hn : n = 10 + 4 * nC + 5 * nD + 2 * nI + 2 * k) (h : By (pB nC nD nI nO cC cD cS cI cO) q n) :
  By (pB nC nD nI nO cC cD cS cI cO) (pbZ q n (qQz (IntKind.wrap .i64 (rdZ cO k)) (qQz 2 0))) (n + 2) := by
 subst hn
 exact h.put (by omega) (by decide) fun t t0 t1 => pB_O cC cD cS cI cO hC hD hI k0 t0 t1
theorem by_end {q : Int} (h0 : 0 ≤ pN nC nD nI nO) (h : By (pB nC nD nI nO cC cD cS cI cO) q (pN nC nD nI nO)) : qZi [.int .u8] (slcZ q (pN nC nD nI nO)) (slcZ (pC nC nD nI nO cC cD cS cI cO) (pN nC nD nI nO)) (pN nC nD nI nO + 2) :=
 slc_congr h0 fun i hi => by rw [pC_by nC nD nI nO cC cD cS cI cO hi]; exact h i hi
end
theorem putN_ev (nC nD nI nO : Int) : putN nC nD (qQz nI (qQz nO 0)) = pN nC nD nI nO + 2 := by
 unfold putN
 rw [qQy, qQp _ _ (by decide), show (1 : Int) - 1 = 0 from rfl, qQy]
theorem putZ_ev (nC nD nI nO cC cD cS cI cO : Int) : putZ nC nD (qQz nI (qQz nO (qQz cC (qQz cD (qQz cS (qQz cI (qQz cO 0))))))) = slcZ (pC nC nD nI nO cC cD cS cI cO) (pN nC nD nI nO) := by
 unfold putZ
 have e : (qQz nI (qQz nO (qQz cC (qQz cD (qQz cS (qQz cI (qQz cO 0))))))) = chn [nI, nO, cC, cD, cS, cI, cO] := rfl
 have r : ∀ k : Nat, rdZ (chn [nI, nO, cC, cD, cS, cI, cO]) (k : Nat) = [nI, nO, cC, cD, cS, cI, cO].getD k 0 := fun k => rd_chn _ k
 rw [e, show (0 : Int) = ((0 : Nat) : Int) from rfl, show (1 : Int) = ((1 : Nat) : Int) from rfl, show (2 : Int) = ((2 : Nat) : Int) from rfl, show (3 : Int) = ((3 : Nat) : Int) from rfl, show (4 : Int) = ((4 : Nat) : Int) from rfl, show (5 : Int) = ((5 : Nat) : Int) from rfl, show (6 : Int) = ((6 : Nat) : Int) from rfl, r, r, r, r, r, r, r]
 rfl
end Go.Eng
end
