/-
  Plain laws of numbers, part D: the root; a number by a root.
-/
import Derived.Test.YtjooaieolphomaaPlC
set_option linter.unusedVariables false
set_option linter.unusedSimpArgs false
namespace Go.Eng

theorem sq_nonneg' (a : Int) : 0 ≤ a * a := by
  rcases Int.le_total 0 a with h | h
  · exact Int.mul_nonneg h h
  · exact Int.mul_nonneg_of_nonpos_of_nonpos h h

/-- less by its square -/
theorem le_of_sq {a b : Int} (hb : 0 ≤ b) (h : a * a ≤ b * b) : a ≤ b := by
  rcases Int.lt_or_le b a with h' | h'
  · exfalso
    have := Int.mul_le_mul (show b + 1 ≤ a by omega) (show b + 1 ≤ a by omega) (by omega) (by omega)
    have e : (b + 1) * (b + 1) = b * b + 2 * b + 1 := by grind
    omega
  · exact h'

theorem sat32_min {m : Int} (h : -2147483648 ≤ m) : sat32 m = minZ m 2147483647 := by
  have e : BO.ev .max .i64 m (-2147483648) = m := by
    show (if -2147483648 > m then _ else _) = m
    rw [if_neg (by omega)]
  unfold sat32
  rw [e]
  rfl

theorem wrap_u32_eq (m : Int) : IntKind.wrap .u32 m = m % 4294967296 := by simp [IntKind.wrap, IntKind.bits, IntKind.signed]
theorem wrap_i32_far {r d : Int} (h1 : -2147483648 ≤ r) (h2 : r ≤ 2147483647) : IntKind.wrap .i32 (IntKind.wrap .u32 (r + 4294967296 * d)) = r := by
  rw [wrap_u32_eq]
  simp only [IntKind.wrap, IntKind.bits, IntKind.signed]
  simp
  split <;> omega
theorem shr1_bd {m : Int} (h1 : -2147483648 ≤ m) (h2 : m ≤ 2147483647) : -1073741824 ≤ shrZ .i32 m 1 ∧ shrZ .i32 m 1 ≤ 1073741823 := by
  rw [half_eq _ (by decide)]; omega

/-- the names of a run are Newton's steps -/
theorem steps {u y3 y4 y5 y6 y7 y8 y9 y10 y11 y12 y13 y14 y15 : Int}
    (e3 : y3 = minZ (1184766729 - mulqZ 715827883 u) 2147483647) (b3 : -962716918 ≤ y3)
    (e4 : y4 = IntKind.wrap .i32 (shlZ .u32 (IntKind.wrap .u32 (mulqZ u (mulqZ y3 y3))) 2))
    (e5 : y5 = mulqZ y3 (minZ (1073741824 - y4) 2147483647)) (b5 : -2147483648 ≤ y5 ∧ y5 ≤ 2147483647)
    (e6 : y6 = minZ (y3 + shrZ .i32 y5 1) 2147483647)
    (e7 : y7 = IntKind.wrap .i32 (shlZ .u32 (IntKind.wrap .u32 (mulqZ u (mulqZ y6 y6))) 2))
    (e8 : y8 = mulqZ y6 (minZ (1073741824 - y7) 2147483647))
    (e9 : y9 = sat32 (y6 + shrZ .i32 y8 1))
    (e10 : y10 = IntKind.wrap .i32 (shlZ .u32 (IntKind.wrap .u32 (mulqZ u (mulqZ y9 y9))) 2))
    (e11 : y11 = mulqZ y9 (minZ (1073741824 - y10) 2147483647))
    (e12 : y12 = sat32 (y9 + shrZ .i32 y11 1))
    (e13 : y13 = IntKind.wrap .i32 (shlZ .u32 (IntKind.wrap .u32 (mulqZ u (mulqZ y12 y12))) 2))
    (e14 : y14 = mulqZ y12 (minZ (1073741824 - y13) 2147483647))
    (e15 : y15 = sat32 (y12 + shrZ .i32 y14 1)) : y15 = stepZ u (stepZ u (stepZ u (stepZ u (root0 u)))) := by
  have s3 : y3 = root0 u := e3
  have hb := shr1_bd b5.1 b5.2
  have s6 : y6 = stepZ u y3 := by
    rw [← sat32_min (by omega)] at e6
    rw [e6, e5, e4]; rfl
  have s9 : y9 = stepZ u y6 := by rw [e9, e8, e7]; rfl
  have s12 : y12 = stepZ u y9 := by rw [e12, e11, e10]; rfl
  have s15 : y15 = stepZ u y12 := by rw [e15, e14, e13]; rfl
  rw [s15, s12, s9, s6, s3]

theorem pow15 {h : Nat} (hh : h ≤ 15) : (2 : Int) ^ h ≤ 32768 := (by decide : ∀ k : Fin 16, (2 : Int) ^ k.val ≤ 32768) ⟨h, by omega⟩
theorem pow_sq (h : Nat) : (2 : Int) ^ h * 2 ^ h = 2 ^ (2 * h) := by rw [← Int.pow_add]; congr 1; omega

/-- a number by a root, back in its place: (z, h) of x; v any number whose product stays small -/
theorem scale_near {v z Q : Int} {h : Nat} (hh : h ≤ 15) (hQ : Q = 2 ^ h) (hB1 : -1729382256910270464 ≤ v * z * Q) (hB2 : v * z * Q ≤ 1729382256910270464) :
    ∃ s : Int, IntKind.wrap .i32 (shlZ .u32 (IntKind.wrap .u32 (mulqZ v z)) h) = s ∧ 1073741824 * s ≤ v * z * Q + 536870912 * Q ∧ v * z * Q - 536870912 * Q ≤ 1073741824 * s := by
  have hQ1 : 1 ≤ Q := by rw [hQ]; exact Int.pow_pos (n := 2) (m := h) (by decide)
  have hQ2 : Q ≤ 32768 := by rw [hQ]; exact pow15 hh
  have hp1 : -1729382256910270464 ≤ v * z ∧ v * z ≤ 1729382256910270464 := by
    generalize v * z = p at *
    constructor
    · rcases Int.lt_or_le p (-1729382256910270464) with h' | h'
      · have := Int.mul_le_mul_of_nonneg_left hQ1 (show 0 ≤ -p by omega)
        have e : -p * Q = -(p * Q) := by grind
        omega
      · exact h'
    · rcases Int.lt_or_le 1729382256910270464 p with h' | h'
      · have := Int.mul_le_mul_of_nonneg_left hQ1 (show 0 ≤ p by omega)
        omega
      · exact h'
  have hm := mulq_near (x := v) (y := z) rfl (by omega) (by omega)
  generalize mulqZ v z = m at hm ⊢
  have h1 := Int.mul_le_mul_of_nonneg_right hm.1 (show 0 ≤ Q by omega)
  have h2 := Int.mul_le_mul_of_nonneg_right (Int.le_of_lt hm.2) (show 0 ≤ Q by omega)
  have h1' : 1073741824 * (m * Q) ≤ v * z * Q + 536870912 * Q := by grind
  have h2' : v * z * Q - 536870912 * Q ≤ 1073741824 * (m * Q) := by grind
  refine ⟨m * Q, ?_, h1', h2'⟩
  -- the shift
  have hmw : ∃ c : Int, IntKind.wrap .u32 m = m + 4294967296 * c := by
    rcases Int.lt_or_le m 0 with h' | h'
    · refine ⟨1, ?_⟩
      rw [wrap_u32_eq]; omega
    · exact ⟨0, by rw [wrap_u32 h' (by omega)]; omega⟩
  obtain ⟨c, hc⟩ := hmw
  rw [hc, shl_eq (by show h ≤ 32; omega), ← hQ]
  have e : (m + 4294967296 * c) * Q = m * Q + 4294967296 * (c * Q) := by grind
  rw [e]
  have hmQ : -2147483648 ≤ m * Q ∧ m * Q ≤ 2147483647 := by omega
  exact wrap_i32_far hmQ.1 hmQ.2

theorem root_scale {x z X Q : Int} {h : Nat} (hx1 : 1 ≤ x) (hx2 : x ≤ 2147483647) (hQ : Q = 2 ^ h) (hX : X = x * 2 ^ (2 * h)) (hX2 : X < 4294967296) (hz : 0 ≤ z) (hz1 : 1 ≤ z)
    (hV1 : -54188302518488530944 ≤ X * (z * z) - 1237940039285380274899124224) (hV2 : X * (z * z) - 1237940039285380274899124224 ≤ 54188302518488530944) :
    0 < x * z * Q ∧ x * z * Q ≤ 1729382256910270464 ∧ (x * z * Q) * (x * z * Q) = x * (X * (z * z)) ∧ x * z * Q * Q ≤ 2305843009213693952 + 1152921504606846 ∧ Q * Q ≤ 4294967295 := by
  have hQ1 : 1 ≤ Q := by rw [hQ]; exact Int.pow_pos (n := 2) (m := h) (by decide)
  have hQQ : Q * Q = 2 ^ (2 * h) := by rw [hQ, pow_sq]
  have hXQ : X = x * (Q * Q) := by rw [hX, hQQ]
  have e1 : (x * z * Q) * (x * z * Q) = x * (X * (z * z)) := by rw [hXQ]; grind
  have hxz := Int.mul_le_mul hx1 hz1 (by decide) (by omega)
  have hpos := Int.mul_le_mul hxz hQ1 (by decide) (by omega)
  have hB0 : 0 < x * z * Q := by omega
  refine ⟨hB0, ?_, e1, ?_, ?_⟩
  · refine le_of_sq (by decide) ?_
    rw [e1]
    have := Int.mul_le_mul hx2 (show X * (z * z) ≤ 1237940039285380274899124224 + 54188302518488530944 by omega) (Int.mul_nonneg (by rw [hXQ]; exact Int.mul_nonneg (by omega) (sq_nonneg' Q)) (sq_nonneg' z)) (by decide)
    omega
  · refine le_of_sq (by decide) ?_
    have e2 : x * z * Q * Q * (x * z * Q * Q) = X * (X * (z * z)) := by rw [hXQ]; grind
    rw [e2]
    have := Int.mul_le_mul (show X ≤ 4294967295 by omega) (show X * (z * z) ≤ 1237940039285380274899124224 + 54188302518488530944 by omega) (Int.mul_nonneg (by rw [hXQ]; exact Int.mul_nonneg (by omega) (sq_nonneg' Q)) (sq_nonneg' z)) (by decide)
    omega
  · have := Int.mul_le_mul_of_nonneg_right hx1 (sq_nonneg' Q)
    omega

/-- the root, squared -/
theorem sqrt_near {x z X Q s : Int} {h : Nat} (hh : h ≤ 15) (hx1 : 1 ≤ x) (hx2 : x ≤ 2147483647) (hQ : Q = 2 ^ h) (hX : X = x * 2 ^ (2 * h)) (hX2 : X < 4294967296) (hz : 0 ≤ z) (hz1 : 1 ≤ z)
    (hV1 : -54188302518488530944 ≤ X * (z * z) - 1237940039285380274899124224) (hV2 : X * (z * z) - 1237940039285380274899124224 ≤ 54188302518488530944)
    (hs1 : 1073741824 * s ≤ x * z * Q + 536870912 * Q) (hs2 : x * z * Q - 536870912 * Q ≤ 1073741824 * s) :
    0 < s ∧ s * s - x * 1073741824 < 64 * x + 8589934592 ∧ -(s * s - x * 1073741824) < 64 * x + 8589934592 := by
  obtain ⟨b0, b1, b2, b3, b4⟩ := root_scale hx1 hx2 hQ hX hX2 hz hz1 hV1 hV2
  have hQ1 : 1 ≤ Q := by rw [hQ]; exact Int.pow_pos (n := 2) (m := h) (by decide)
  have c1 := Int.mul_le_mul_of_nonneg_left hV1 (show 0 ≤ x by omega)
  have c2 := Int.mul_le_mul_of_nonneg_left hV2 (show 0 ≤ x by omega)
  have c1' : x * 1237940039285380274899124224 - 54188302518488530944 * x ≤ x * (X * (z * z)) := by grind
  have c2' : x * (X * (z * z)) ≤ x * 1237940039285380274899124224 + 54188302518488530944 * x := by grind
  generalize x * (X * (z * z)) = xV at *
  generalize x * z * Q = B at *
  have hQ2 : Q ≤ 32768 := by rw [hQ]; exact pow15 hh
  have far : 536870912 * Q < B := by
    rcases Int.lt_or_le (536870912 * Q) B with h' | h'
    · exact h'
    · exfalso
      obtain ⟨_, d1⟩ := mul_bd0 (show 0 ≤ B by omega) (show B ≤ 17592186044416 by omega) (show 0 ≤ B by omega) (show B ≤ 17592186044416 by omega)
      omega
  have hspos : 0 < s := by omega
  refine ⟨hspos, ?_, ?_⟩
  · have q := Int.mul_le_mul hs1 hs1 (by omega) (by omega)
    have e1 : (B + 536870912 * Q) * (B + 536870912 * Q) = B * B + 1073741824 * (B * Q) + 288230376151711744 * (Q * Q) := by grind
    have e2 : 1073741824 * s * (1073741824 * s) = 1152921504606846976 * (s * s) := by grind
    rw [e1, e2] at q
    omega
  · have q := Int.mul_le_mul hs2 hs2 (by omega) (by omega)
    have e1 : (B - 536870912 * Q) * (B - 536870912 * Q) = B * B - 1073741824 * (B * Q) + 288230376151711744 * (Q * Q) := by grind
    have e2 : 1073741824 * s * (1073741824 * s) = 1152921504606846976 * (s * s) := by grind
    have e3 := sq_nonneg' Q
    rw [e1, e2] at q
    omega
end Go.Eng
