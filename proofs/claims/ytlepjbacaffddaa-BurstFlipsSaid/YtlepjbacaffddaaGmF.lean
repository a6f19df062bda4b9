/-
  Parts of the engine, a program's symbolic run, proved sound; and of plain laws.
-/
import Derived.Test.YtlepjbacaffddaaGmB
set_option linter.unusedVariables false
set_option linter.unusedSimpArgs false

/-! Texts with bits turned, in plain words. No program. -/
section
namespace Go.Eng
/-- a row's parts, wrapped, are a list's -/
def RwK (k : IntKind) (q : Int) (L : List Int) : Prop := ∀ i : Nat, i < L.length → k.wrap (rdZ q i) = L.getD i 0
theorem RwK.set {k : IntKind} {q x i : Int} {L : List Int} (h : RwK k q L) (h0 : 0 ≤ i) {y : Int} (hy : k.wrap x = y) : RwK k (updZ q i x) (L.set i.toNat y) := by
  intro j hj
  rw [rdZ_upd, Int.toNat_natCast]
  simp only [List.length_set] at hj
  rw [List.getD_eq_getElem?_getD, List.getElem?_set]
  by_cases he : j = i.toNat
  · subst he; simp [hj, hy]
  · rw [if_neg he, if_neg (fun e => he e.symm), h j hj, List.getD_eq_getElem?_getD]
theorem RwK.eq {k : IntKind} {q n : Int} {L : List Int} (h : RwK k q L) (hn : n ≤ L.length) : rowEq [.int k] q (LZ L) n := rowEq_one fun i hi => by
  have hl : i < L.length := by omega
  rw [Rw.lz L i hl, ← h i hl, wrap_wrap _ _ _ (by exact Nat.le_refl _)]
theorem RwK.rd {k : IntKind} {q i : Int} {L : List Int} (h : RwK k q L) (h0 : 0 ≤ i) (h1 : i < L.length) : k.wrap (rdZ q i) = L.getD i.toNat 0 := by
  have := h i.toNat (by omega)
  rw [Int.toNat_of_nonneg h0] at this
  exact this
theorem bytes_len (c n : Int) : (bytZ c n).length = n.toNat := by simp [bytZ]
theorem bytes_get (c n : Int) {i : Nat} (h : i < n.toNat) : (bytZ c n).getD i 0 = IntKind.wrap .u8 (rdZ c i) := by
  simp [bytZ, List.getD_eq_getElem?_getD, List.getElem?_range h]
theorem bytes_rw (c n q : Int) (h : ∀ i : Nat, i < n.toNat → rdZ q i = rdZ c i) : RwK .u8 q (bytZ c n) := fun i hi => by
  rw [bytes_len] at hi
  rw [bytes_get c n hi, h i hi]
theorem app0 (c i : Int) : rdZ (appZ 0 0 c) i = rdZ c i := by
  rw [rdZ_app, if_neg (by simp), show (0 : Int).toNat = 0 from rfl, Nat.sub_zero, rdZ_toNat]
theorem flF_len (c n a b : Int) : ∀ i, (flF c n a b i).length = n.toNat
  | 0 => bytes_len c n
  | i + 1 => by simp only [flF]; split <;> simp [flF_len c n a b i]
theorem flF_off {c n a b : Int} : ∀ {i : Nat}, (∀ k, k < i → ¬ flOn n a b k) → flF c n a b i = bytZ c n
  | 0, _ => rfl
  | i + 1, h => by simp only [flF]; rw [if_neg (h i (by omega)), flF_off fun k hk => h k (by omega)]
theorem flC_eq (c n a b : Int) : flC c n (consZ a (consZ b 0)) = LZ (flF c n a b 16) := by
  unfold flC
  rw [rdZ_cons_zero, rdZ_cons_succ _ _ (by omega), show (1 : Int) - 1 = 0 from rfl, rdZ_cons_zero]
theorem flip_all : ((List.range 256).all fun x => (List.range 8).all fun r => decide (bxor .u8 (x : Int) (shrZ .u8 128 (r : Int)) = flipB x r ∧ 0 ≤ flipB x r ∧ flipB x r ≤ 255)) = true := by decide +kernel
theorem flip_one {x r : Int} (h0 : 0 ≤ x) (h1 : x ≤ 255) (r0 : 0 ≤ r) (r1 : r ≤ 7) : bxor .u8 x (shrZ .u8 128 r) = flipB x r ∧ 0 ≤ flipB x r ∧ flipB x r ≤ 255 := by
  obtain ⟨n, rfl⟩ := Int.eq_ofNat_of_zero_le h0
  obtain ⟨m, rfl⟩ := Int.eq_ofNat_of_zero_le r0
  have h := List.all_eq_true.1 (List.all_eq_true.1 flip_all n (by simp; omega)) m (by simp; omega)
  simpa using h
theorem flF_bd (c n a b : Int) : ∀ (i j : Nat), j < n.toNat → 0 ≤ (flF c n a b i).getD j 0 ∧ (flF c n a b i).getD j 0 ≤ 255
  | 0, j, h => by simp only [flF]; rw [bytes_get c n h]; exact u8_bd _
  | i + 1, j, h => by
    simp only [flF]
    split
    · rename_i ho
      have ih := flF_bd c n a b i
      rw [List.getD_eq_getElem?_getD, List.getElem?_set]
      split
      · rename_i e
        have ho2 := ho.2
        have := ih ((a + i) / 8).toNat (by omega)
        split
        · exact (flip_one this.1 this.2 (by omega) (by omega)).2
        · simp
      · rw [← List.getD_eq_getElem?_getD]; exact ih j h
    · exact flF_bd c n a b i j h
/-- the test of the program on a bit of 16 -/
theorem bit16 {b i : Int} (hb0 : 0 ≤ b) (hb1 : b ≤ 65535) (h0 : 0 ≤ i) (h1 : i ≤ 15) : band .u16 (shrZ .u16 b (IntKind.wrap .u64 (15 - i))) 1 = b / 2 ^ (15 - i.toNat) % 2 := by
  obtain ⟨n, rfl⟩ := Int.eq_ofNat_of_zero_le h0
  have hw : IntKind.wrap .u64 (15 - (n : Int)) = 15 - (n : Int) := wrap_in .u64 _ (by show (0 : Int) ≤ _; omega) (by show _ ≤ (18446744073709551615 : Int); omega)
  have hs : shrZ .u16 b (15 - (n : Int)) = b / 2 ^ (15 - n) := by
    show b.fdiv (2 ^ (Nat.min (15 - (n : Int)).toNat 16)) = _
    rw [show Nat.min (15 - (n : Int)).toNat 16 = 15 - n by rw [show (15 - (n : Int)).toNat = 15 - n by omega]; exact Nat.min_eq_left (by omega)]
    exact Int.fdiv_eq_ediv_of_nonneg _ (Int.pow_nonneg (by omega))
  rw [hw, hs, Int.toNat_natCast]
  have hn0 := half_nn hb0 (15 - n)
  have hn1 := half_le hb0 (15 - n)
  generalize b / 2 ^ (15 - n) = v at hn0 hn1
  obtain ⟨m, rfl⟩ := Int.eq_ofNat_of_zero_le hn0
  show IntKind.wrap .u16 ((BitVec.ofInt 16 (m : Int) &&& BitVec.ofInt 16 1).toNat : Int) = _
  have e : (BitVec.ofInt 16 (m : Int) &&& BitVec.ofInt 16 1).toNat = m % 2 := by
    rw [BitVec.toNat_and]
    have e1 : (BitVec.ofInt 16 (m : Int)).toNat = m := by simp; omega
    have e2 : (BitVec.ofInt 16 (1 : Int)).toNat = 1 := by decide
    rw [e1, e2, Nat.and_one_is_mod]
  rw [e, wrap_in .u16 _ (by show (0 : Int) ≤ _; omega) (by show _ ≤ (65535 : Int); omega)]
  omega
/-- .. and of the reference: what is doubled round by round -/
def dbl (b : Int) (i : Nat) : Int := b * 2 ^ i % 65536
theorem dbl_step {b x : Int} {i : Nat} (hx : x = dbl b i) : BO.ev .rem .i64 (IntKind.wrap .i64 (2 * x)) 65536 = dbl b (i + 1) := by
  have h0 : 0 ≤ x ∧ x < 65536 := by rw [hx]; unfold dbl; omega
  rw [w64 (by omega) (by omega), rem_pos (by omega), hx]
  unfold dbl
  rw [Int.pow_succ, ← Int.mul_assoc]
  generalize b * 2 ^ i = y
  omega
theorem dbl_bit {b : Int} {i : Nat} (hb0 : 0 ≤ b) (hb1 : b ≤ 65535) (h1 : i ≤ 15) : 32768 ≤ dbl b i ↔ b / 2 ^ (15 - i) % 2 = 1 := by
  have : i = 0 ∨ i = 1 ∨ i = 2 ∨ i = 3 ∨ i = 4 ∨ i = 5 ∨ i = 6 ∨ i = 7 ∨ i = 8 ∨ i = 9 ∨ i = 10 ∨ i = 11 ∨ i = 12 ∨ i = 13 ∨ i = 14 ∨ i = 15 := by omega
  unfold dbl
  rcases this with rfl | rfl | rfl | rfl | rfl | rfl | rfl | rfl | rfl | rfl | rfl | rfl | rfl | rfl | rfl | rfl <;> simp only [Nat.reduceSub, Int.reducePow] <;> omega
end Go.Eng
end
