/-
  Plain laws of numbers, part S: words from bits, as expressions that a run comes to.
-/
import Derived.Test.YtjooaieolphomaaPlR
set_option linter.unusedVariables false
set_option linter.unusedSimpArgs false
namespace Go.Eng

/-- a word from its bits, the highest first, as a run reckons it -/
def horE (cx : Cx) : E → List E → E
  | acc, [] => acc
  | acc, b :: l => horE cx (E.b' cx .add .i64 (E.b' cx .mul .i64 (.c 2) acc) b) l
/-- the same in numbers -/
def horZ : Int → List Int → Int
  | acc, [] => acc
  | acc, b :: l => horZ (2 * acc + b) l

theorem horE_ev {cx : Cx} {ρ : Env} (hρ : EnvOk cx ρ) : ∀ (l : List E) (acc : E) (m : Nat), (∀ e ∈ l, 0 ≤ e.ev ρ ∧ e.ev ρ ≤ 1) → 0 ≤ acc.ev ρ → acc.ev ρ < 2 ^ m → m + l.length ≤ 32 →
    (horE cx acc l).ev ρ = horZ (acc.ev ρ) (l.map (E.ev ρ))
  | [], acc, m, _, _, _, _ => rfl
  | b :: l, acc, m, hb, h0, h1, hm => by
    have hb0 := hb b List.mem_cons_self
    have hm' : m ≤ 31 := by simp at hm; omega
    have hp : (2 : Int) ^ m ≤ 2147483648 := (by decide : ∀ k : Fin 32, (2 : Int) ^ k.val ≤ 2147483648) ⟨m, by omega⟩
    have e2 : BO.ev .mul .i64 2 (acc.ev ρ) = 2 * acc.ev ρ := wrap_in _ _ (by simp [klo]; omega) (by simp [khi]; omega)
    have e3 : BO.ev .add .i64 (2 * acc.ev ρ) (b.ev ρ) = 2 * acc.ev ρ + b.ev ρ := wrap_in _ _ (by simp [klo]; omega) (by simp [khi]; omega)
    have e4 : (E.b' cx .add .i64 (E.b' cx .mul .i64 (.c 2) acc) b).ev ρ = 2 * acc.ev ρ + b.ev ρ := by
      rw [E.b'_ev hρ, E.b'_ev hρ]
      show BO.ev .add .i64 (BO.ev .mul .i64 2 (acc.ev ρ)) (b.ev ρ) = _
      rw [e2, e3]
    simp only [horE, List.map_cons, horZ]
    rw [horE_ev hρ l _ (m + 1) (fun e he => hb e (List.mem_cons_of_mem _ he)) (by rw [e4]; omega) (by rw [e4, Int.pow_succ]; omega) (by simp at hm; omega), e4]

/-- the bits from place j - 1 down to 0, then zeros -/
theorem horZ_bits (y : Int) : ∀ (j m : Nat), horZ (y / 2 ^ j % 2 ^ m) ((List.range j).reverse.map fun i => y / 2 ^ i % 2) = y % 2 ^ (m + j)
  | 0, m => by simp [horZ]
  | j + 1, m => by
    rw [List.range_succ, List.reverse_append, List.map_append]
    simp only [List.reverse_cons, List.reverse_nil, List.nil_append, List.map_cons, List.map_nil, List.cons_append, horZ]
    rw [bit_step, horZ_bits y j (m + 1)]
    congr 2; omega

theorem horZ_zeros (a : Int) : ∀ (k : Nat), horZ a (List.replicate k 0) = a * 2 ^ k
  | 0 => by simp [horZ]
  | k + 1 => by
    rw [List.replicate_succ]
    simp only [horZ]
    rw [horZ_zeros (2 * a + 0) k, Int.pow_succ]
    grind
theorem horZ_app (a : Int) : ∀ (l m : List Int), horZ a (l ++ m) = horZ (horZ a l) m
  | [], m => rfl
  | b :: l, m => by simp only [List.cons_append, horZ]; exact horZ_app _ l m

theorem bits_down (y : Int) (j : Nat) (h0 : 0 ≤ y) : horZ 0 ((List.range j).reverse.map fun i => y / 2 ^ i % 2) = y % 2 ^ j := by
  have := horZ_bits y j 0
  simpa using this

/-- and with 31: the rest by 32 -/
theorem band31_mod {n : Int} (h1 : -2147483648 ≤ n) (h2 : n ≤ 2147483647) : band .i32 n 31 = n % 32 := by
  unfold band
  simp only [BO.ev]
  have hb : IntKind.i32.bits = 32 := rfl
  have e2 : (BitVec.ofInt IntKind.i32.bits 31).toNat = 2 ^ 5 - 1 := by decide
  rw [BitVec.toNat_and, e2, Nat.and_two_pow_sub_one_eq_mod]
  have e1 : ((BitVec.ofInt IntKind.i32.bits n).toNat : Int) = n % 4294967296 := by
    rw [hb, BitVec.toNat_ofInt]
    have h : (((2 ^ 32 : Nat)) : Int) = 4294967296 := by decide
    rw [h]; omega
  have e3 : (((BitVec.ofInt IntKind.i32.bits n).toNat % 2 ^ 5 : Nat) : Int) = n % 32 := by omega
  rw [e3]
  exact wrap_i32 (by omega) (by omega)

def bitE (i : Nat) : E := .f 2 (.v 0) (.c i) (.c 0)

theorem bitE_ev {ρ : Env} (hf : ρ.f = fN) (i : Nat) : (bitE i).ev ρ = ρ.i 0 % 4294967296 / 2 ^ i % 2 := by
  simp only [bitE, E.ev, hf]
  show bitZ _ _ = _
  unfold bitZ
  rw [Int.toNat_natCast]

/-- shl by k -/
def shlL (k : Nat) : List E := (List.range (32 - k)).reverse.map bitE ++ List.replicate k (.c 0)
/-- shr by k -/
def shrL (k : Nat) : List E := List.replicate k (.c 0) ++ (List.range (32 - k)).reverse.map fun i => bitE (i + k)

theorem shlL_hor {ρ : Env} (hf : ρ.f = fN) {k : Nat} (hk : k ≤ 31) : horZ 0 ((shlL k).map (E.ev ρ)) = ρ.i 0 % 4294967296 % 2 ^ (32 - k) * 2 ^ k := by
  have e : (shlL k).map (E.ev ρ) = ((List.range (32 - k)).reverse.map fun i => ρ.i 0 % 4294967296 / 2 ^ i % 2) ++ List.replicate k 0 := by
    unfold shlL
    rw [List.map_append, List.map_map, List.map_replicate]
    congr 1
    apply List.map_congr_left
    intro i _
    exact bitE_ev hf i
  rw [e, horZ_app, bits_down _ _ (by omega), horZ_zeros]

theorem horZ_lead : ∀ (k : Nat) (l : List Int), horZ 0 (List.replicate k 0 ++ l) = horZ 0 l
  | 0, l => rfl
  | k + 1, l => by
    rw [List.replicate_succ]
    simp only [List.cons_append, horZ]
    exact horZ_lead k l

theorem shrL_hor {ρ : Env} (hf : ρ.f = fN) {k : Nat} (hk : k ≤ 31) : horZ 0 ((shrL k).map (E.ev ρ)) = ρ.i 0 % 4294967296 / 2 ^ k := by
  have e : (shrL k).map (E.ev ρ) = List.replicate k 0 ++ ((List.range (32 - k)).reverse.map fun i => ρ.i 0 % 4294967296 / 2 ^ k / 2 ^ i % 2) := by
    unfold shrL
    rw [List.map_append, List.map_map, List.map_replicate]
    congr 1
    apply List.map_congr_left
    intro i _
    show (bitE (i + k)).ev ρ = _
    rw [bitE_ev hf, Nat.add_comm i k, Int.pow_add, Int.ediv_ediv_of_nonneg (Int.le_of_lt (Int.pow_pos (by decide)))]
  rw [e, horZ_lead, bits_down _ _ (Int.ediv_nonneg (by omega) (Int.le_of_lt (Int.pow_pos (by decide))))]
  have hp : (0 : Int) < 2 ^ k := Int.pow_pos (by decide)
  refine Int.emod_eq_of_lt (Int.ediv_nonneg (by omega) (by omega)) ?_
  refine Int.ediv_lt_of_lt_mul hp ?_
  rw [← Int.pow_add, show 32 - k + k = 32 by omega]
  have : (2 : Int) ^ 32 = 4294967296 := by decide
  omega

theorem bits01 {ρ : Env} (hf : ρ.f = fN) (k : Nat) : (∀ e ∈ shlL k, 0 ≤ e.ev ρ ∧ e.ev ρ ≤ 1) ∧ (∀ e ∈ shrL k, 0 ≤ e.ev ρ ∧ e.ev ρ ≤ 1) := by
  have hb : ∀ i, 0 ≤ (bitE i).ev ρ ∧ (bitE i).ev ρ ≤ 1 := fun i => by rw [bitE_ev hf]; omega
  constructor
  · intro e he
    rcases List.mem_append.1 he with h | h
    · obtain ⟨i, _, rfl⟩ := List.mem_map.1 h
      exact hb i
    · have := List.eq_of_mem_replicate h
      subst this
      simp [E.ev]
  · intro e he
    rcases List.mem_append.1 he with h | h
    · have := List.eq_of_mem_replicate h
      subst this
      simp [E.ev]
    · obtain ⟨i, _, rfl⟩ := List.mem_map.1 h
      exact hb (i + k)

end Go.Eng
namespace Go.Eng
/-- a choice by a truth -/
theorem ite01 (p : Prop) [Decidable p] (a b : Int) : (if bool01 (decide p) ≠ 0 then a else b) = if p then a else b := by
  by_cases h : p <;> simp [bool01, h]

theorem low_ref (x : Int) :
    (if bool01 (decide (x.tmod 4294967296 < 0)) ≠ 0 then
      (if bool01 (decide (2147483648 ≤ x.tmod 4294967296 + 4294967296)) ≠ 0 then IntKind.wrap .i32 (x.tmod 4294967296 + 4294967296 - 4294967296) else IntKind.wrap .i32 (x.tmod 4294967296 + 4294967296))
    else (if bool01 (decide (2147483648 ≤ x.tmod 4294967296)) ≠ 0 then IntKind.wrap .i32 (x.tmod 4294967296 - 4294967296) else IntKind.wrap .i32 (x.tmod 4294967296))) = IntKind.wrap .i32 x := by
  simp only [ite01, wi32]
  have h := mod32 x
  generalize x.tmod 4294967296 = r at *
  split at h <;> rename_i hr
  · rw [if_pos hr]; split <;> split <;> omega
  · rw [if_neg hr]; split <;> split <;> omega

theorem sat_ref (x : Int) :
    (if bool01 (decide (x < -2147483648)) ≠ 0 then -2147483648 else (if bool01 (decide (2147483647 < x)) ≠ 0 then 2147483647 else IntKind.wrap .i32 x)) =
      BO.ev .min .i64 (BO.ev .max .i64 x (-2147483648)) 2147483647 := by
  simp only [ite01]
  rw [sat_eq]
  unfold satZ
  split
  · rfl
  · split
    · rfl
    · exact wrap_i32 (by omega) (by omega)

/-- the rounded product, as the reference reckons it -/
theorem mulq_ref {p : Int} (h1 : -4611686018427387904 ≤ p) (h2 : p ≤ 4611686018427387904) (q : Int) (hq : q = if 536870912 ≤ p % 1073741824 then p / 1073741824 + 1 else p / 1073741824) : q = (p + 536870912) / 1073741824 := by
  rw [hq]; split <;> omega

theorem exact_tdiv (p : Int) : (p - p % 1073741824).tdiv 1073741824 = p / 1073741824 := by
  have : p - p % 1073741824 = 1073741824 * (p / 1073741824) := by omega
  rw [this, Int.mul_tdiv_cancel_left _ (by decide)]

theorem wrap_i64 {x : Int} (h1 : -9223372036854775808 ≤ x) (h2 : x ≤ 9223372036854775807) : IntKind.wrap .i64 x = x := wrap_in _ _ (by simp [klo]; omega) (by simp [khi]; omega)

def SATm (m : Int) : Int := BO.ev .min .i64 (BO.ev .max .i64 m (-2147483648)) 2147483647
theorem mulq_ref2 {x y : Int} (hx : -2147483648 ≤ x ∧ x ≤ 2147483647) (hy : -2147483648 ≤ y ∧ y ≤ 2147483647) :
    (if bool01 (decide ((x * y).tmod 1073741824 < 0)) ≠ 0 then
      (if bool01 (decide (536870912 ≤ (x * y).tmod 1073741824 + 1073741824)) ≠ 0 then SATm (IntKind.wrap .i64 (IntKind.wrap .i64 ((x * y - ((x * y).tmod 1073741824 + 1073741824)).tdiv 1073741824) + 1))
        else SATm (IntKind.wrap .i64 ((x * y - ((x * y).tmod 1073741824 + 1073741824)).tdiv 1073741824)))
    else
      (if bool01 (decide (536870912 ≤ (x * y).tmod 1073741824)) ≠ 0 then SATm (IntKind.wrap .i64 (IntKind.wrap .i64 ((x * y - (x * y).tmod 1073741824).tdiv 1073741824) + 1))
        else SATm (IntKind.wrap .i64 ((x * y - (x * y).tmod 1073741824).tdiv 1073741824)))) = mulqZ x y := by
  obtain ⟨h1, h2⟩ := mul_bd (show -2147483648 ≤ x by omega) (show x ≤ 2147483648 by omega) (show -2147483648 ≤ y by omega) (show y ≤ 2147483648 by omega)
  simp only [ite01]
  rw [mulqZ_eq, ← sat_eq .i64]
  have h := mod30 (x * y)
  have e := exact_tdiv (x * y)
  generalize x * y = p at *
  show _ = SATm _
  have w1 : IntKind.wrap .i64 (p / 1073741824) = p / 1073741824 := wrap_i64 (by omega) (by omega)
  have w2 : IntKind.wrap .i64 (p / 1073741824 + 1) = p / 1073741824 + 1 := wrap_i64 (by omega) (by omega)
  by_cases hr : p.tmod 1073741824 < 0
  · rw [if_pos hr] at h ⊢
    rw [h, e, w1, w2]
    split <;> (congr 1; omega)
  · rw [if_neg hr] at h ⊢
    rw [h, e, w1, w2]
    split <;> (congr 1; omega)

/-! ### all bits of a word -/
def mkQuo : Nat → E
  | 0 => .w .u32 (.v 0)
  | j + 1 => .b .quo .i64 (mkQuo j) (.c 2)
def mkBits : List SV := (List.range 32).map fun j => .int .i64 (.b .rem .i64 (mkQuo j) (.c 2))
def resBits : List SV := (List.range 32).map fun j => .int .i64 (bitE j)

theorem mkQuo_ev (ρ : Env) : ∀ j, (mkQuo j).ev ρ = ρ.i 0 % 4294967296 / 2 ^ j
  | 0 => by simp only [mkQuo, E.ev, wu32]; simp
  | j + 1 => by
    have ih := mkQuo_ev ρ j
    simp only [mkQuo, E.ev, BO.ev, ih]
    have hp : (0 : Int) < 2 ^ j := Int.pow_pos (by decide)
    have h0 : 0 ≤ ρ.i 0 % 4294967296 / 2 ^ j := Int.ediv_nonneg (by omega) (Int.le_of_lt hp)
    have h1 : ρ.i 0 % 4294967296 / 2 ^ j ≤ ρ.i 0 % 4294967296 := Int.ediv_le_self _ (by omega)
    rw [Int.tdiv_eq_ediv_of_nonneg h0, Int.pow_succ, ← Int.ediv_ediv_of_nonneg (Int.le_of_lt hp)]
    generalize ρ.i 0 % 4294967296 / 2 ^ j = q at *
    exact wrap_i64 (by omega) (by omega)

theorem bits_den (ρ : Env) (hf : ρ.f = fN) (β : Nat → Nat × Nat) : (SV.agg mkBits).den ρ β = (SV.agg resBits).den ρ β := by
  simp only [SV.den, denL_map]
  unfold mkBits resBits
  rw [List.map_map, List.map_map]
  congr 2
  apply List.map_congr_left
  intro j _
  show Value.int .i64 _ = Value.int .i64 _
  congr 1
  rw [bitE_ev hf]
  show ((mkQuo j).ev ρ).tmod 2 = _
  have hp : (0 : Int) < 2 ^ j := Int.pow_pos (by decide)
  rw [mkQuo_ev, Int.tmod_eq_emod_of_nonneg (Int.ediv_nonneg (by omega) (Int.le_of_lt hp))]
end Go.Eng
