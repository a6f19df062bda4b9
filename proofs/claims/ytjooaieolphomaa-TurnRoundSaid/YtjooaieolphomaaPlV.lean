/-
  Plain laws of numbers, part V: the references' flips, signs, the least and the greatest.
-/
import Derived.Test.YtjooaieolphomaaPlU
set_option linter.unusedVariables false
set_option linter.unusedSimpArgs false
namespace Go.Eng

def bitV (v i : Nat) : E := .f 2 (.v v) (.c i) (.c 0)
theorem bitV_ev {ρ : Env} (hf : ρ.f = fN) (v i : Nat) : (bitV v i).ev ρ = ρ.i v % 4294967296 / 2 ^ i % 2 := by
  simp only [bitV, E.ev, hf]
  show bitZ _ _ = _
  unfold bitZ
  rw [Int.toNat_natCast]

theorem xor_bit (a b i : Nat) : (((a ^^^ b : Nat) : Int)) / 2 ^ i % 2 = ((a : Int) / 2 ^ i % 2 + (b : Int) / 2 ^ i % 2) % 2 := by
  have h := Nat.testBit_xor a b i
  rw [Nat.testBit_eq_decide_div_mod_eq, Nat.testBit_eq_decide_div_mod_eq, Nat.testBit_eq_decide_div_mod_eq] at h
  have c : ∀ n : Nat, (n : Int) / 2 ^ i % 2 = ((n / 2 ^ i % 2 : Nat) : Int) := by intro n; norm_cast
  rw [c, c, c]
  have p1 : a / 2 ^ i % 2 < 2 := Nat.mod_lt _ (by decide)
  have p2 : b / 2 ^ i % 2 < 2 := Nat.mod_lt _ (by decide)
  have p3 : (a ^^^ b) / 2 ^ i % 2 < 2 := Nat.mod_lt _ (by decide)
  generalize a / 2 ^ i % 2 = x at *
  generalize b / 2 ^ i % 2 = y at *
  generalize (a ^^^ b) / 2 ^ i % 2 = z at *
  by_cases hx : x = 1 <;> by_cases hy : y = 1 <;> simp [hx, hy] at h <;> omega

def xorL (cx : Cx) : List E := (List.range 32).reverse.map fun i => E.b' cx .rem .i64 (E.b' cx .add .i64 (bitV 0 i) (bitV 1 i)) (.c 2)
def flipX (cx : Cx) : E := E.w' cx .i32 (E.b' cx .sub .i64 (E.w' cx .i32 (horE cx (.c 0) (xorL cx))) (.v 1))
def flipR : SV := .int .i32 (.w .i32 (.b .psub .i64 (.b .xor .i32 (.v 0) (.v 1)) (.v 1)))

theorem flip_res {cx : Cx} {ρ : Env} (hρ : EnvOk cx ρ) (hf : ρ.f = fN) (h0 : -2147483648 ≤ ρ.i 0 ∧ ρ.i 0 ≤ 2147483647) (h1 : -2147483648 ≤ ρ.i 1 ∧ ρ.i 1 ≤ 2147483647) :
    (SV.int .i32 (flipX cx)).den ρ (fun _ => (0, 0)) = flipR.den ρ (fun _ => (0, 0)) := by
  obtain ⟨a, ha⟩ : ∃ a : Nat, ρ.i 0 % 4294967296 = a := ⟨(ρ.i 0 % 4294967296).toNat, by omega⟩
  obtain ⟨b, hb⟩ : ∃ b : Nat, ρ.i 1 % 4294967296 = b := ⟨(ρ.i 1 % 4294967296).toNat, by omega⟩
  have ha' : a < 2 ^ 32 := by omega
  have hb' : b < 2 ^ 32 := by omega
  have hx : a ^^^ b < 2 ^ 32 := Nat.xor_lt_two_pow ha' hb'
  have one : ∀ i, (E.b' cx .rem .i64 (E.b' cx .add .i64 (bitV 0 i) (bitV 1 i)) (.c 2)).ev ρ = (((a ^^^ b : Nat) : Int)) / 2 ^ i % 2 := by
    intro i
    rw [E.b'_ev hρ, E.b'_ev hρ, bitV_ev hf, bitV_ev hf, ha, hb, xor_bit]
    have p1 : 0 ≤ (a : Int) / 2 ^ i % 2 ∧ (a : Int) / 2 ^ i % 2 ≤ 1 := by omega
    have p2 : 0 ≤ (b : Int) / 2 ^ i % 2 ∧ (b : Int) / 2 ^ i % 2 ≤ 1 := by omega
    show (IntKind.wrap .i64 ((a : Int) / 2 ^ i % 2 + (b : Int) / 2 ^ i % 2)).tmod 2 = _
    rw [wrap_i64 (by omega) (by omega), Int.tmod_eq_emod_of_nonneg (by omega)]
  have hbit : ∀ e ∈ xorL cx, 0 ≤ e.ev ρ ∧ e.ev ρ ≤ 1 := by
    intro e he
    obtain ⟨i, _, rfl⟩ := List.mem_map.1 he
    rw [one]; omega
  have hlen : (xorL cx).length = 32 := by simp [xorL]
  have hhor : horZ 0 ((xorL cx).map (E.ev ρ)) = ((a ^^^ b : Nat) : Int) := by
    have e : (xorL cx).map (E.ev ρ) = (List.range 32).reverse.map fun i => (((a ^^^ b : Nat) : Int)) / 2 ^ i % 2 := by
      unfold xorL
      rw [List.map_map]
      apply List.map_congr_left
      intro i _
      exact one i
    rw [e, bits_down _ _ (by omega)]
    exact Int.emod_eq_of_lt (by omega) (by exact_mod_cast hx)
  have hxor : BO.ev .xor .i32 (ρ.i 0) (ρ.i 1) = IntKind.wrap .i32 ((a ^^^ b : Nat) : Int) := by
    simp only [BO.ev]
    have hk : IntKind.i32.bits = 32 := rfl
    have t : ∀ (x : Int) (n : Nat), x % 4294967296 = n → (BitVec.ofInt IntKind.i32.bits x).toNat = n := by
      intro x n hn
      rw [hk, BitVec.toNat_ofInt]
      have h : (((2 ^ 32 : Nat)) : Int) = 4294967296 := by decide
      rw [h]; omega
    rw [BitVec.toNat_xor, t _ _ ha, t _ _ hb]
  show Value.int .i32 ((flipX cx).ev ρ) = Value.int .i32 (IntKind.wrap .i32 (BO.ev .xor .i32 (ρ.i 0) (ρ.i 1) - ρ.i 1))
  congr 1
  unfold flipX
  rw [E.w'_ev hρ, E.b'_ev hρ, hor_x hρ _ hbit hlen, hhor, hxor]
  show IntKind.wrap .i32 (IntKind.wrap .i64 (IntKind.wrap .i32 ((a ^^^ b : Nat) : Int) - ρ.i 1)) = _
  rw [wrap_wrap .i32 .i64 _ (by decide)]

theorem sign_ref {x : Int} (h : -2147483648 ≤ x ∧ x ≤ 2147483647) : (if bool01 (decide (x < 0)) ≠ 0 then -1 else 0) = BO.ev .shr .i32 x 31 := by
  rw [ite01]
  have := shr_eq (k := .i32) (n := 31) (by decide) x
  show _ = shrZ .i32 x 31
  rw [show ((31 : Nat) : Int) = 31 from rfl] at this
  rw [this]
  have e : (2 : Int) ^ 31 = 2147483648 := by decide
  rw [e]
  split <;> omega
theorem max_ref (a b : Int) : (if bool01 (decide (a < b)) ≠ 0 then b else a) = BO.ev .max .i64 a b := by
  rw [ite01]; simp only [BO.ev]
theorem min_ref (a b : Int) : (if bool01 (decide (a < b)) ≠ 0 then a else b) = BO.ev .min .i64 a b := by
  rw [ite01]; simp only [BO.ev]; split <;> split <;> omega
theorem abs_ref {x : Int} (h : -2147483648 ≤ x ∧ x ≤ 2147483647) : (if bool01 (decide (x < 0)) ≠ 0 then BO.ev .min .i64 (0 - x) 2147483647 else x) = BO.ev .max .i64 x (BO.ev .min .i64 (0 - x) 2147483647) := by
  rw [ite01]; simp only [BO.ev]; split <;> split <;> split <;> omega
end Go.Eng
