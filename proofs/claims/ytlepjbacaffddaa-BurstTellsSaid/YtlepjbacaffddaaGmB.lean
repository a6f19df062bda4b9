/-
  Parts of the engine, a program's symbolic run, proved sound; and of plain laws.
-/
import Derived.Test.YtlepjbacaffddaaGmN
set_option linter.unusedVariables false
set_option linter.unusedSimpArgs false

/-! Bits of texts, in plain words. No program. -/
section
namespace Go.Eng
theorem half_step (x : Int) (k : Nat) : x / 2 ^ k / 2 = x / 2 ^ (k + 1) := by
  rw [Int.pow_succ, Int.ediv_ediv_of_nonneg (Int.pow_nonneg (by omega))]
theorem half_nn {x : Int} (h : 0 ≤ x) (k : Nat) : 0 ≤ x / 2 ^ k := Int.ediv_nonneg h (Int.pow_nonneg (by omega))
theorem half_le {x : Int} (h : 0 ≤ x) (k : Nat) : x / 2 ^ k ≤ x := Int.ediv_le_self _ h
theorem bitA_01 (x r : Int) : bitA x r = 0 ∨ bitA x r = 1 := by unfold bitA; omega
theorem bit_get {x r : Int} (h0 : 0 ≤ x) (h1 : x ≤ 255) (r0 : 0 ≤ r) (r1 : r ≤ 7) : bitA x r = if (BitVec.ofInt 8 x).getLsbD (7 - r).toNat then 1 else 0 := by
  obtain ⟨n, rfl⟩ := Int.eq_ofNat_of_zero_le h0
  have e : BitVec.ofInt 8 (n : Int) = BitVec.ofNat 8 n := by simp
  rw [e, BitVec.getLsbD_ofNat]
  have hr : (7 - r).toNat < 8 := by omega
  simp only [hr, decide_true, Bool.true_and, Nat.testBit_eq_decide_div_mod_eq, decide_eq_true_eq]
  unfold bitA
  generalize (7 - r).toNat = k
  have hp : ((2 : Int) ^ k) = ((2 ^ k : Nat) : Int) := by simp
  rw [hp]
  split <;> omega
theorem shr128 {j : Int} (h0 : 0 ≤ j) (h1 : j ≤ 7) : BitVec.ofInt 8 (shrZ .u8 128 j) = BitVec.twoPow 8 (7 - j).toNat := by
  obtain ⟨n, rfl⟩ := Int.eq_ofNat_of_zero_le h0
  have hn : n = 0 ∨ n = 1 ∨ n = 2 ∨ n = 3 ∨ n = 4 ∨ n = 5 ∨ n = 6 ∨ n = 7 := by omega
  rcases hn with rfl | rfl | rfl | rfl | rfl | rfl | rfl | rfl <;> decide
theorem band128 {v j : Int} (h0 : 0 ≤ j) (h1 : j ≤ 7) : band .u8 v (shrZ .u8 128 j) ≠ 0 ↔ (BitVec.ofInt 8 v).getLsbD (7 - j).toNat = true := by
  have e : band .u8 v (shrZ .u8 128 j) = IntKind.wrap .u8 ((BitVec.ofInt 8 v &&& BitVec.ofInt 8 (shrZ .u8 128 j)).toNat : Int) := rfl
  rw [e, shr128 h0 h1, BitVec.and_twoPow]
  have hk : (7 - j).toNat < 8 := by omega
  have hp := Nat.two_pow_pos (7 - j).toNat
  have hp2 : (2 : Nat) ^ (7 - j).toNat ≤ 2 ^ 7 := Nat.pow_le_pow_right (by omega) (by omega)
  by_cases hb : (BitVec.ofInt 8 v).getLsbD (7 - j).toNat = true
  · rw [if_pos hb, BitVec.toNat_twoPow_of_lt hk, w8 (by omega) (by omega)]
    simp only [hb, iff_true]
    omega
  · rw [if_neg hb]
    simp [hb]; decide
theorem xor8 (x y : Int) : BitVec.ofInt 8 (bxor .u8 x y) = BitVec.ofInt 8 x ^^^ BitVec.ofInt 8 y := by
  have e : bxor .u8 x y = IntKind.wrap .u8 ((BitVec.ofInt 8 x ^^^ BitVec.ofInt 8 y).toNat : Int) := rfl
  have hl := (BitVec.ofInt 8 x ^^^ BitVec.ofInt 8 y).isLt
  rw [e, w8 (by omega) (by omega)]
  generalize BitVec.ofInt 8 x ^^^ BitVec.ofInt 8 y = v
  rw [BitVec.ofInt_natCast, BitVec.ofNat_toNat, BitVec.setWidth_eq]
theorem bit_diff {x y j : Int} (hx0 : 0 ≤ x) (hx1 : x ≤ 255) (hy0 : 0 ≤ y) (hy1 : y ≤ 255) (h0 : 0 ≤ j) (h1 : j ≤ 7) : band .u8 (bxor .u8 x y) (shrZ .u8 128 j) ≠ 0 ↔ bitA x j ≠ bitA y j := by
  rw [band128 h0 h1, xor8, BitVec.getLsbD_xor, bit_get hx0 hx1 h0 h1, bit_get hy0 hy1 h0 h1]
  cases (BitVec.ofInt 8 x).getLsbD (7 - j).toNat <;> cases (BitVec.ofInt 8 y).getLsbD (7 - j).toNat <;> simp
theorem plF_at {a b : Int} {k : Nat} {i : Nat} (h : i < (plF a b k).length) : 0 ≤ (plF a b k).getD i 0 ∧ (plF a b k).getD i 0 < k := by
  have hm : (plF a b k).getD i 0 ∈ plF a b k := by
    rw [List.getD_eq_getElem?_getD, List.getElem?_eq_getElem h]; exact List.getElem_mem h
  have := (plF_mem a b k _).1 hm
  exact ⟨this.1, this.2.1⟩
theorem span_zero {a b n : Int} (h : plN a b n = 0) : spanZ a b n = 0 := by
  unfold plN at h
  unfold spanZ
  simp only
  rw [if_pos (by omega)]
theorem span_some {a b n : Int} (h : plN a b n ≠ 0) : IntKind.wrap .i64 (IntKind.wrap .i64 (1 + IntKind.wrap .i64 (rdZ (plC a b n) (plN a b n - 1))) - IntKind.wrap .i64 (rdZ (plC a b n) 0)) = spanZ a b n := by
  have hbd := plN_bd a b n
  have hk : cut (8 * n) 1000000 ≤ 1000000 := by unfold cut; split <;> omega
  unfold plN at h hbd
  unfold spanZ plN plC
  simp only
  generalize hL : plF a b (cut (8 * n) 1000000) = L at h hbd ⊢
  have h1 : 0 < L.length := by omega
  rw [(Rw.lz L).rd (i := (L.length : Int) - 1) (by omega) (by omega), (Rw.lz L).rd (i := 0) (by omega) (by omega), if_neg (by omega)]
  rw [show ((L.length : Int) - 1).toNat = L.length - 1 by omega, show (0 : Int).toNat = 0 from rfl]
  have g1 := plF_at (a := a) (b := b) (k := cut (8 * n) 1000000) (i := L.length - 1) (by rw [hL]; omega)
  have g2 := plF_at (a := a) (b := b) (k := cut (8 * n) 1000000) (i := 0) (by rw [hL]; omega)
  rw [hL] at g1 g2
  rw [w64 (x := L.getD (L.length - 1) 0) (by omega) (by omega), w64 (x := L.getD 0 0) (by omega) (by omega), w64 (x := 1 + _) (by omega) (by omega), w64 (by omega) (by omega)]
end Go.Eng
end
