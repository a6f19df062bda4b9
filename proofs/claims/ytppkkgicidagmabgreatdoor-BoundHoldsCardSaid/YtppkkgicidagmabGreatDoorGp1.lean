/-
  Parts of the engine, a program's symbolic run, proved sound; and of plain laws.
-/
import Derived.Test.YtppkkgicidagmabGreatDoorGu5
set_option linter.unusedVariables false
set_option linter.unusedSimpArgs false
/-!  -/
noncomputable section
namespace Go.Eng
theorem b01_eq (b : Bool) : (qQj b = 0) = (b = false) := by cases b <;> simp [qQj]
theorem iteZ_ne (t x y : Int) : iteZ t x y = if t ≠ 0 then x else y := rfl
theorem w64 {x : Int} (h1 : -9223372036854775808 ≤ x) (h2 : x ≤ 9223372036854775807) : IntKind.wrap .i64 x = x := qXi .i64 _ h1 h2
theorem i64_bd (x : Int) : -9223372036854775808 ≤ IntKind.wrap .i64 x ∧ IntKind.wrap .i64 x ≤ 9223372036854775807 := qXm .i64 x
theorem ob_le {a b : Int} {X : Prop} : ((a ≤ b → X) ∧ (b < a → False)) ↔ (a ≤ b ∧ X) := ⟨fun h => by by_cases g : a ≤ b; exact ⟨g, h.1 g⟩; exact (h.2 (by omega)).elim, fun h => ⟨fun _ => h.2, fun g => by omega⟩⟩
theorem ob_lt {a b : Int} {X : Prop} : ((a < b → X) ∧ (b ≤ a → False)) ↔ (a < b ∧ X) := ⟨fun h => by by_cases g : a < b; exact ⟨g, h.1 g⟩; exact (h.2 (by omega)).elim, fun h => ⟨fun _ => h.2, fun g => by omega⟩⟩
theorem ob_p {p X : Prop} : ((p → X) ∧ (¬ p → False)) ↔ (p ∧ X) := ⟨fun h => by by_cases g : p; exact ⟨g, h.1 g⟩; exact (h.2 g).elim, fun h => ⟨fun _ => h.2, fun g => g h.1⟩⟩
theorem ob_n {p X : Prop} : ((¬ p → X) ∧ (p → False)) ↔ (¬ p ∧ X) := ⟨fun h => by by_cases g : p; exact (h.2 g).elim; exact ⟨g, h.1 g⟩, fun h => ⟨fun _ => h.2, fun g => h.1 g⟩⟩
theorem nrm : (∀ b : Bool, (qQj b = 0) = (b = false)) ∧ (∀ {p : Prop} [Decidable p], (decide p = true) = p) ∧ (∀ {p : Prop} {x : Decidable p}, decide p = false ↔ ¬ p) ∧
  (∀ {a b : Int}, (a == b) = true ↔ a = b) ∧ (∀ {a b : Int}, (a == b) = false ↔ a ≠ b) ∧ (∀ {a b : Int}, (a != b) = true ↔ a ≠ b) ∧ (∀ {a b : Int}, (a != b) = false ↔ a = b) ∧
  (∀ {a b : Int}, ¬ a ≤ b ↔ b < a) ∧ (∀ {a b : Int}, ¬ a < b ↔ b ≤ a) ∧ (∀ p : Prop, (True ∧ p) = p) ∧ (∀ p : Prop, (p ∧ True) = p) ∧ (∀ t x y : Int, iteZ t x y = if t ≠ 0 then x else y) ∧
  (∀ a b : Int, (a ≠ b) = ¬ a = b) ∧ (∀ b : Bool, (¬ b = false) = (b = true)) ∧ (∀ b : Bool, (¬ b = true) = (b = false)) ∧ ((¬ True) = False) ∧ ((¬ False) = True) ∧ (∀ {p : Prop} [Decidable p], ¬ ¬ p ↔ p) ∧
  (∀ p : Prop, (True → p) ↔ p) ∧ (∀ p : Prop, (False → p) = True) ∧ (∀ p : Prop, (True ↔ p) = p) ∧ (∀ p : Prop, (p ↔ True) = p) ∧ (∀ p : Prop, (False ↔ p) = ¬ p) ∧ (∀ p : Prop, (p ↔ False) = ¬ p) ∧
  (∀ a : Int, (a = a) = True) ∧ (∀ {x : Decidable True} (t e : Int), (if True then t else e) = t) ∧ (∀ {x : Decidable False} (t e : Int), (if False then t else e) = e) :=
 ⟨b01_eq, decide_eq_true_eq, decide_eq_false_iff_not, beq_iff_eq, beq_eq_false_iff_ne, bne_iff_ne, bne_eq_false_iff_eq, Int.not_le, Int.not_lt, true_and, and_true, iteZ_ne, fun _ _ => rfl, Bool.not_eq_false, Bool.not_eq_true, not_true_eq_false, not_false_eq_true, Decidable.not_not,
  fun p => ⟨fun h => h trivial, fun h _ => h⟩, false_implies, true_iff, iff_true, false_iff, iff_false, fun a => eq_self a, fun t e => if_true t e, fun t e => if_false t e⟩
theorem nro : (∀ {a b : Int} {X : Prop}, ((a ≤ b → X) ∧ (b < a → False)) ↔ (a ≤ b ∧ X)) ∧ (∀ {a b : Int} {X : Prop}, ((a < b → X) ∧ (b ≤ a → False)) ↔ (a < b ∧ X)) ∧ (∀ {p X : Prop}, ((p → X) ∧ (¬ p → False)) ↔ (p ∧ X)) ∧ (∀ {p X : Prop}, ((¬ p → X) ∧ (p → False)) ↔ (¬ p ∧ X)) :=
 ⟨ob_le, ob_lt, ob_p, ob_n⟩
end Go.Eng
end
/-!  -/
noncomputable section
namespace Go.Eng
end Go.Eng
end
/-!  -/
noncomputable section
namespace Go.Eng
end Go.Eng
end
/-!  -/
noncomputable section
namespace Go.Eng
def chn : List Int → Int
 | [] => 0
 | x :: l => qQq x (chn l)
theorem rd_chn : ∀ (l : List Int) (i : Nat), rdZ (chn l) i = l.getD i 0
 | [], i => by simp [chn, rdZ_nil]
 | x :: l, 0 => by rw [chn]; exact qQy _ _
 | x :: l, i + 1 => by
  rw [chn, qQh _ _ (by omega), show ((i + 1 : Nat) : Int) - 1 = (i : Nat) by omega, rd_chn l i]
  simp
end Go.Eng
end
