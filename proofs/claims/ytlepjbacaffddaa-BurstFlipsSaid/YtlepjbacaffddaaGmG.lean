/-
  Parts of the engine, a program's symbolic run, proved sound; and of plain laws.
-/
import Derived.Test.YtlepjbacaffddaaGmF
set_option linter.unusedVariables false
set_option linter.unusedSimpArgs false

/-! Bits turned in a text: where it differs, and turned again. No program. -/
section
namespace Go.Eng
theorem flip_bits_all : ((List.range 256).all fun x => (List.range 8).all fun r => (List.range 8).all fun s => decide (bitA (flipB (x : Int) (r : Int)) (s : Int) = if s = r then 1 - bitA (x : Int) (s : Int) else bitA (x : Int) (s : Int))) = true := by decide +kernel
theorem flip_bits {x r s : Int} (h0 : 0 ≤ x) (h1 : x ≤ 255) (r0 : 0 ≤ r) (r1 : r ≤ 7) (s0 : 0 ≤ s) (s1 : s ≤ 7) : bitA (flipB x r) s = if s = r then 1 - bitA x s else bitA x s := by
  obtain ⟨n, rfl⟩ := Int.eq_ofNat_of_zero_le h0
  obtain ⟨m, rfl⟩ := Int.eq_ofNat_of_zero_le r0
  obtain ⟨k, rfl⟩ := Int.eq_ofNat_of_zero_le s0
  have h := List.all_eq_true.1 (List.all_eq_true.1 (List.all_eq_true.1 flip_bits_all n (by simp; omega)) m (by simp; omega)) k (by simp; omega)
  have h := of_decide_eq_true h
  rw [h]
  by_cases e : k = m
  · simp [e]
  · rw [if_neg e, if_neg (by omega)]
theorem bits_eq {x y : Int} (hx0 : 0 ≤ x) (hx1 : x ≤ 255) (hy0 : 0 ≤ y) (hy1 : y ≤ 255) (h : ∀ r : Int, 0 ≤ r → r ≤ 7 → bitA x r = bitA y r) : x = y := by
  have h0 := h 0 (by omega) (by omega)
  have h1 := h 1 (by omega) (by omega)
  have h2 := h 2 (by omega) (by omega)
  have h3 := h 3 (by omega) (by omega)
  have h4 := h 4 (by omega) (by omega)
  have h5 := h 5 (by omega) (by omega)
  have h6 := h 6 (by omega) (by omega)
  have h7 := h 7 (by omega) (by omega)
  unfold bitA at *
  simp only [Int.reduceSub, Int.reduceToNat, Int.reducePow] at *
  omega
/-- which bit of a text is turned -/
def turned (a b : Int) (k : Int) : Prop := 0 ≤ k - a ∧ k - a ≤ 15 ∧ b / 2 ^ (15 - (k - a).toNat) % 2 = 1
instance (a b k : Int) : Decidable (turned a b k) := by unfold turned; infer_instance
theorem flF_bits (c n a b : Int) : ∀ (i : Nat), i ≤ 16 → ∀ k : Int, 0 ≤ k → k < 8 * n →
    bitA ((flF c n a b i).getD (k / 8).toNat 0) (k % 8) = if turned a b k ∧ k - a < i then 1 - bitB c k else bitB c k
  | 0, _, k, h0, h1 => by
    rw [if_neg (by unfold turned; omega)]
    simp only [flF]
    rw [bytes_get c n (by omega), Int.toNat_of_nonneg (by omega)]
    rfl
  | i + 1, hi, k, h0, h1 => by
    have ih := flF_bits c n a b i (by omega) k h0 h1
    have hl := flF_len c n a b i
    simp only [flF]
    split
    · rename_i ho
      have hb := flF_bd c n a b i ((a + i) / 8).toNat (by have := ho.2; omega)
      have ho2 := ho.2
      by_cases e : (k / 8).toNat = ((a + i) / 8).toNat
      · rw [List.getD_eq_getElem?_getD, List.getElem?_set, if_pos e.symm, if_pos (by omega), Option.getD_some]
        rw [flip_bits hb.1 hb.2 (by omega) (by omega) (by omega) (by omega), ← e, ih]
        by_cases e2 : k = a + i
        · have ht : turned a b k := ⟨by omega, by omega, by rw [show (k - a).toNat = i by omega]; exact ho.1⟩
          rw [if_pos (by omega), if_neg (by omega), if_pos ⟨ht, by omega⟩]
        · rw [if_neg (by omega)]
          congr 1
          exact propext ⟨fun h => ⟨h.1, by omega⟩, fun h => ⟨h.1, by omega⟩⟩
      · rw [List.getD_eq_getElem?_getD, List.getElem?_set, if_neg (fun h => e h.symm), ← List.getD_eq_getElem?_getD, ih]
        congr 1
        exact propext ⟨fun h => ⟨h.1, by omega⟩, fun h => ⟨h.1, by omega⟩⟩
    · rename_i ho
      rw [ih]
      congr 1
      refine propext ⟨fun h => ⟨h.1, by omega⟩, fun h => ⟨h.1, ?_⟩⟩
      by_cases e : k = a + i
      · exfalso
        refine ho ⟨?_, by omega, by omega⟩
        have := h.1.2.2
        rw [show (k - a).toNat = i by omega] at this
        exact this
      · omega
theorem flC_bit {c n a b k : Int} (h0 : 0 ≤ k) (h1 : k < 8 * n) : bitB (LZ (flF c n a b 16)) k = if turned a b k then 1 - bitB c k else bitB c k := by
  have h := flF_bits c n a b 16 (by omega) k h0 h1
  have hbd := flF_bd c n a b 16 (k / 8).toNat (by omega)
  have hr := (Rw.lz (flF c n a b 16)).rd (i := k / 8) (by omega) (by rw [flF_len]; omega)
  unfold bitB at h ⊢
  rw [hr, w8 hbd.1 hbd.2, h]
  congr 1
  exact propext ⟨fun h => h.1, fun h => ⟨h, by have := h.2.1; omega⟩⟩
theorem bitB_01 (c k : Int) : bitB c k = 0 ∨ bitB c k = 1 := bitA_01 _ _
theorem fl_mem {c n a b x : Int} (hn : 0 ≤ n) (hn2 : n ≤ 100000) : x ∈ plF c (LZ (flF c n a b 16)) (cut (8 * n) 1000000) ↔ 0 ≤ x ∧ x < 8 * n ∧ turned a b x := by
  have hcut : cut (8 * n) 1000000 = (8 * n).toNat := by unfold cut; rw [if_pos (by omega)]
  rw [hcut, plF_mem]
  have hb := bitB_01 c x
  constructor
  · rintro ⟨h1, h2, h3⟩
    refine ⟨h1, by omega, ?_⟩
    rw [flC_bit h1 (by omega)] at h3
    split at h3
    · assumption
    · exact absurd rfl h3
  · rintro ⟨h1, h2, h3⟩
    refine ⟨h1, by omega, ?_⟩
    rw [flC_bit h1 h2, if_pos h3]
    omega
/-! ### rising lists -/
theorem plF_up (a b : Int) : ∀ k, (plF a b k).Pairwise (· < ·)
  | 0 => List.Pairwise.nil
  | k + 1 => by
    simp only [plF]
    refine List.pairwise_append.2 ⟨plF_up a b k, ?_, fun x hx y hy => ?_⟩
    · split
      · exact List.Pairwise.nil
      · exact List.pairwise_singleton _ _
    · have := (plF_mem a b k x).1 hx
      split at hy
      · cases hy
      · simp at hy; omega
theorem up_get {l : List Int} (h : l.Pairwise (· < ·)) : ∀ (i : Nat), i < l.length → l.getD 0 0 + i ≤ l.getD i 0 ∧ ∀ j, i ≤ j → j < l.length → l.getD i 0 + ((j - i : Nat) : Int) ≤ l.getD j 0 := by
  have key : ∀ (i d : Nat), i + d < l.length → l.getD i 0 + (d : Int) ≤ l.getD (i + d) 0 := by
    intro i d
    induction d with
    | zero => intro _; simp
    | succ d ih =>
      intro hd
      have h1 := ih (by omega)
      have h2 := List.pairwise_iff_getElem.1 h (i + d) (i + (d + 1)) (by omega) (by omega) (by omega)
      rw [List.getD_eq_getElem?_getD, List.getD_eq_getElem?_getD, List.getElem?_eq_getElem (show i + (d + 1) < l.length by omega), Option.getD_some]
      rw [List.getD_eq_getElem?_getD, List.getD_eq_getElem?_getD, List.getElem?_eq_getElem (show i + d < l.length by omega), Option.getD_some] at h1
      omega
  intro i hi
  refine ⟨by have := key 0 i (by omega); rw [Nat.zero_add] at this; exact this, fun j hj hjl => ?_⟩
  have := key i (j - i) (by omega)
  rw [show i + (j - i) = j by omega] at this
  exact this
theorem getD_mem {l : List Int} {i : Nat} (h : i < l.length) : l.getD i 0 ∈ l := by
  rw [List.getD_eq_getElem?_getD, List.getElem?_eq_getElem h]; exact List.getElem_mem h
/-- the span of what is turned -/
theorem fl_span {c n a b : Int} (hn : 0 ≤ n) (hn2 : n ≤ 100000) : 0 ≤ spanZ c (LZ (flF c n a b 16)) n ∧ spanZ c (LZ (flF c n a b 16)) n ≤ 16 ∧ plN c (LZ (flF c n a b 16)) n ≤ spanZ c (LZ (flF c n a b 16)) n ∧
    (spanZ c (LZ (flF c n a b 16)) n = 0 ↔ plN c (LZ (flF c n a b 16)) n = 0) := by
  have hm := fun x => fl_mem (c := c) (n := n) (a := a) (b := b) (x := x) hn hn2
  have hu := plF_up c (LZ (flF c n a b 16)) (cut (8 * n) 1000000)
  unfold spanZ plN
  generalize plF c (LZ (flF c n a b 16)) (cut (8 * n) 1000000) = L at hm hu ⊢
  simp only
  by_cases h0 : L.length = 0
  · rw [if_pos h0]; omega
  · rw [if_neg h0]
    have g1 := (hm _).1 (getD_mem (l := L) (i := 0) (by omega))
    have g2 := (hm _).1 (getD_mem (l := L) (i := L.length - 1) (by omega))
    have g3 := (up_get hu (L.length - 1) (by omega)).1
    have t1 := g1.2.2
    have t2 := g2.2.2
    unfold turned at t1 t2
    omega
theorem low_zero (m : Nat) : ∀ k, (∀ i, i < k → m / 2 ^ i % 2 = 0) → m % 2 ^ k = 0
  | 0, _ => by simp [Nat.mod_one]
  | k + 1, h => by rw [Nat.mod_pow_succ, low_zero m k fun i hi => h i (by omega), h k (by omega)]; simp
theorem some_bit {b : Int} (h0 : 0 ≤ b) (h1 : b ≤ 65535) (h2 : b ≠ 0) : ∃ j : Nat, j < 16 ∧ b / 2 ^ (15 - j) % 2 = 1 := by
  obtain ⟨m, rfl⟩ := Int.eq_ofNat_of_zero_le h0
  refine Decidable.byContradiction fun h => h2 ?_
  have hh : ∀ i : Nat, i < 16 → m / 2 ^ i % 2 = 0 := fun i hi => by
    refine Decidable.byContradiction fun e => h ⟨15 - i, by omega, ?_⟩
    rw [show 15 - (15 - i) = i by omega]
    have hp : ((2 : Int) ^ i) = ((2 ^ i : Nat) : Int) := by simp
    rw [hp]
    omega
  have := low_zero m 16 hh
  omega
theorem fl_none {c n a b : Int} (hn : 0 ≤ n) (hn2 : n ≤ 100000) (hb0 : 0 ≤ b) (hb1 : b ≤ 65535) (h0 : 0 ≤ a) (h1 : a ≤ 8 * n - 16) : plN c (LZ (flF c n a b 16)) n = 0 ↔ b = 0 := by
  have hm := fun x => fl_mem (c := c) (n := n) (a := a) (b := b) (x := x) hn hn2
  unfold plN
  generalize plF c (LZ (flF c n a b 16)) (cut (8 * n) 1000000) = L at hm
  constructor
  · intro h
    refine Decidable.byContradiction fun hb => ?_
    obtain ⟨j, hj, hbit⟩ := some_bit hb0 hb1 hb
    have hin : (a + j) ∈ L := (hm (a + j)).2 ⟨by omega, by omega, by omega, by omega, by rw [show (a + (j : Int) - a).toNat = j by omega]; exact hbit⟩
    have : L = [] := List.eq_nil_of_length_eq_zero (by omega)
    rw [this] at hin
    cases hin
  · rintro rfl
    have : L = [] := by
      refine List.eq_nil_iff_forall_not_mem.2 fun x hx => ?_
      have := ((hm x).1 hx).2.2.2.2
      simp at this
    rw [this]; rfl
/-- a text is told by its bytZ -/
theorem str_congr {n q q' : Int} (h : ∀ i : Nat, (i : Int) < n → rdZ q i % 256 = rdZ q' i % 256) (hn : n ≤ 1000000) : strOf (consZ n (consZ q 0)) = strOf (consZ n (consZ q' 0)) := by
  have e1 : ∀ q : Int, slenZ (consZ n (consZ q 0)) = if n < 0 then 0 else n := fun q => by
    unfold slenZ strMax; rw [rdZ_cons_zero]; split
    · rfl
    · rw [if_neg (by omega)]
  have e2 : ∀ (q i : Int), sbyteZ (consZ n (consZ q 0)) i = rdZ q i % 256 := fun q i => by
    unfold sbyteZ; rw [rdZ_cons_succ _ _ (by omega), show (1 : Int) - 1 = 0 by omega, rdZ_cons_zero]
  unfold strOf
  rw [e1, e1]
  congr 2
  refine List.map_congr_left fun i hi => ?_
  rw [e2, e2, h i (by simp at hi; split at hi <;> omega)]
theorem wrap8 (x : Int) : IntKind.wrap .u8 x = x % 256 := by simp [IntKind.wrap, IntKind.bits, IntKind.signed]
/-- turned twice -/
theorem fl_twice {c n a b : Int} (hn2 : n ≤ 100000) : strOf (consZ n (consZ (LZ (flF (LZ (flF c n a b 16)) n a b 16)) 0)) = strOf (consZ n (consZ c 0)) := by
  refine str_congr (fun i hi => ?_) (by omega)
  have h1 := flF_bd (LZ (flF c n a b 16)) n a b 16 i (by omega)
  have h2 := u8_bd (rdZ c i)
  have hr := (Rw.lz (flF (LZ (flF c n a b 16)) n a b 16)).rd (i := (i : Int)) (by omega) (by rw [flF_len]; omega)
  rw [← wrap8, ← wrap8, hr, Int.toNat_natCast, w8 h1.1 h1.2]
  refine bits_eq h1.1 h1.2 h2.1 h2.2 fun r r0 r1 => ?_
  have hb := flC_bit (c := LZ (flF c n a b 16)) (n := n) (a := a) (b := b) (k := 8 * i + r) (by omega) (by omega)
  have hb2 := flC_bit (c := c) (n := n) (a := a) (b := b) (k := 8 * i + r) (by omega) (by omega)
  rw [hb2] at hb
  unfold bitB at hb
  rw [show (8 * (i : Int) + r) / 8 = i by omega, show (8 * (i : Int) + r) % 8 = r by omega, hr, Int.toNat_natCast, w8 h1.1 h1.2] at hb
  rw [hb]
  split <;> omega
theorem seqZ_of {x y : Int} (h : strOf x = strOf y) : seqZ x y = 1 := by unfold seqZ; rw [if_pos h]
end Go.Eng
end
