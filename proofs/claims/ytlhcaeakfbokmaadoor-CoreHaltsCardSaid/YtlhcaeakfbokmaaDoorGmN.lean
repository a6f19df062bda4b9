/-
  Parts of the engine, a program's symbolic run, proved sound; and of plain laws.
-/
import Derived.Test.YtlhcaeakfbokmaaDoorGu5
set_option linter.unusedVariables false
set_option linter.unusedSimpArgs false

/-! Words of plain statements, put in order. No program. -/
section
namespace Go.Eng
theorem b01_ne (b : Bool) : (bool01 b ≠ 0) = (b = true) := by cases b <;> simp [bool01]
theorem b01_eq (b : Bool) : (bool01 b = 0) = (b = false) := by cases b <;> simp [bool01]
theorem b01_iff (b : Bool) : (bool01 b ≠ 0 ↔ b = true) := by cases b <;> simp [bool01]
theorem iteZ_ne (t x y : Int) : iteZ t x y = if t ≠ 0 then x else y := rfl
theorem quo_pos {y k : Int} (h : 0 ≤ y) (h2 : y ≤ 9223372036854775807) (hk : 0 < k) : BO.ev .quo .i64 y k = y / k := by
  show IntKind.wrap .i64 (y.tdiv k) = _
  rw [Int.tdiv_eq_ediv_of_nonneg h]
  have h1 : 0 ≤ y / k := Int.ediv_nonneg h (by omega)
  have h3 : y / k ≤ y := Int.ediv_le_self k h
  exact wrap_in .i64 _ (by show (-9223372036854775808 : Int) ≤ _; omega) (by show _ ≤ (9223372036854775807 : Int); omega)
theorem rem_pos {y k : Int} (h : 0 ≤ y) : BO.ev .rem .i64 y k = y % k := by
  show y.tmod k = _
  exact Int.tmod_eq_emod_of_nonneg h
theorem w64 {x : Int} (h1 : -9223372036854775808 ≤ x) (h2 : x ≤ 9223372036854775807) : IntKind.wrap .i64 x = x := wrap_in .i64 _ h1 h2
theorem w64_id (x : Int) : IntKind.wrap .i64 (IntKind.wrap .i64 x) = IntKind.wrap .i64 x := wrap_wrap .i64 .i64 x (by decide)
theorem u8_bd (x : Int) : 0 ≤ IntKind.wrap .u8 x ∧ IntKind.wrap .u8 x ≤ 255 := wrap_bd .u8 x
theorem w8 {x : Int} (h1 : 0 ≤ x) (h2 : x ≤ 255) : IntKind.wrap .u8 x = x := wrap_in .u8 _ h1 h2
theorem i64_bd (x : Int) : -9223372036854775808 ≤ IntKind.wrap .i64 x ∧ IntKind.wrap .i64 x ≤ 9223372036854775807 := wrap_bd .i64 x
theorem sameZ_iff (c d n : Int) : sameZ c d n ≠ 0 ↔ ∀ i : Nat, (i : Int) < n → IntKind.wrap .i64 (rdZ c i) = IntKind.wrap .i64 (rdZ d i) := by
  unfold sameZ; split <;> simp_all
theorem sameZ_refl (c n : Int) : sameZ c c n = 1 := by unfold sameZ; rw [if_pos fun _ _ => rfl]
theorem w64_emod (x : Int) : (IntKind.wrap .i64 x - x) % 18446744073709551616 = 0 := by
  simp [IntKind.wrap, IntKind.bits, IntKind.signed] <;> (try split) <;> omega
theorem w64_cong {x y : Int} (h : (x - y) % 18446744073709551616 = 0) : IntKind.wrap .i64 x = IntKind.wrap .i64 y := by
  have h1 := w64_emod x
  have h2 := w64_emod y
  have h3 := i64_bd x
  have h4 := i64_bd y
  omega
theorem w64_add_l (x y : Int) : IntKind.wrap .i64 (IntKind.wrap .i64 x + y) = IntKind.wrap .i64 (x + y) := w64_cong (by have := w64_emod x; omega)
theorem w64_add_r (x y : Int) : IntKind.wrap .i64 (x + IntKind.wrap .i64 y) = IntKind.wrap .i64 (x + y) := w64_cong (by have := w64_emod y; omega)
/-! ### what must hold on the way -/
theorem ob_le {a b : Int} {X : Prop} : ((a ≤ b → X) ∧ (b < a → False)) ↔ (a ≤ b ∧ X) := ⟨fun h => by by_cases g : a ≤ b; exact ⟨g, h.1 g⟩; exact (h.2 (by omega)).elim, fun h => ⟨fun _ => h.2, fun g => by omega⟩⟩
theorem ob_lt {a b : Int} {X : Prop} : ((a < b → X) ∧ (b ≤ a → False)) ↔ (a < b ∧ X) := ⟨fun h => by by_cases g : a < b; exact ⟨g, h.1 g⟩; exact (h.2 (by omega)).elim, fun h => ⟨fun _ => h.2, fun g => by omega⟩⟩
theorem ob_p {p X : Prop} : ((p → X) ∧ (¬ p → False)) ↔ (p ∧ X) := ⟨fun h => by by_cases g : p; exact ⟨g, h.1 g⟩; exact (h.2 g).elim, fun h => ⟨fun _ => h.2, fun g => g h.1⟩⟩
theorem ob_n {p X : Prop} : ((¬ p → X) ∧ (p → False)) ↔ (¬ p ∧ X) := ⟨fun h => by by_cases g : p; exact (h.2 g).elim; exact ⟨g, h.1 g⟩, fun h => ⟨fun _ => h.2, fun g => h.1 g⟩⟩
end Go.Eng
end
