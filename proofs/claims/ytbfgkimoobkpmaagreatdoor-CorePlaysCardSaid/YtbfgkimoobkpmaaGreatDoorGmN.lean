/-
  Parts of the engine, a program's symbolic run, proved sound; and of plain laws.
-/
import Derived.Test.YtbfgkimoobkpmaaGreatDoorGu5
set_option linter.unusedVariables false
set_option linter.unusedSimpArgs false

/-!  -/
section
namespace Go.Eng
theorem b01_eq (b : Bool) : (bool01 b = 0) = (b = false) := by cases b <;> simp [bool01]
theorem iteZ_ne (t x y : Int) : iteZ t x y = if t ≠ 0 then x else y := rfl
theorem quo_pos {y k : Int} (h : 0 ≤ y) (h2 : y ≤ 9223372036854775807) (hk : 0 < k) : BO.ev .quo .i64 y k = y / k := by
  show IntKind.wrap .i64 (y.tdiv k) = _
  rw [Int.tdiv_eq_ediv_of_nonneg h]
  have h1 : 0 ≤ y / k := Int.ediv_nonneg h (by omega)
  have h3 : y / k ≤ y := Int.ediv_le_self k h
  exact wrap_in .i64 _ (by show (-9223372036854775808 : Int) ≤ _; omega) (by show _ ≤ (9223372036854775807 : Int); omega)
theorem rem_pos {y k : Int} (h : 0 ≤ y) : BO.ev .rem .i64 y k = y % k := by
  show y.tmod k = _
  exact Int.tmod_eq_emod_of_nonneg h
theorem w64 {x : Int} (h1 : -9223372036854775808 ≤ x) (h2 : x ≤ 9223372036854775807) : IntKind.wrap .i64 x = x := wrap_in .i64 _ h1 h2
theorem i64_bd (x : Int) : -9223372036854775808 ≤ IntKind.wrap .i64 x ∧ IntKind.wrap .i64 x ≤ 9223372036854775807 := wrap_bd .i64 x
theorem w64_emod (x : Int) : (IntKind.wrap .i64 x - x) % 18446744073709551616 = 0 := by
  simp [IntKind.wrap, IntKind.bits, IntKind.signed] <;> (try split) <;> omega
theorem ob_le {a b : Int} {X : Prop} : ((a ≤ b → X) ∧ (b < a → False)) ↔ (a ≤ b ∧ X) := ⟨fun h => by by_cases g : a ≤ b; exact ⟨g, h.1 g⟩; exact (h.2 (by omega)).elim, fun h => ⟨fun _ => h.2, fun g => by omega⟩⟩
theorem ob_lt {a b : Int} {X : Prop} : ((a < b → X) ∧ (b ≤ a → False)) ↔ (a < b ∧ X) := ⟨fun h => by by_cases g : a < b; exact ⟨g, h.1 g⟩; exact (h.2 (by omega)).elim, fun h => ⟨fun _ => h.2, fun g => by omega⟩⟩
theorem ob_p {p X : Prop} : ((p → X) ∧ (¬ p → False)) ↔ (p ∧ X) := ⟨fun h => by by_cases g : p; exact ⟨g, h.1 g⟩; exact (h.2 g).elim, fun h => ⟨fun _ => h.2, fun g => g h.1⟩⟩
theorem ob_n {p X : Prop} : ((¬ p → X) ∧ (p → False)) ↔ (¬ p ∧ X) := ⟨fun h => by by_cases g : p; exact (h.2 g).elim; exact ⟨g, h.1 g⟩, fun h => ⟨fun _ => h.2, fun g => h.1 g⟩⟩
end Go.Eng
end
