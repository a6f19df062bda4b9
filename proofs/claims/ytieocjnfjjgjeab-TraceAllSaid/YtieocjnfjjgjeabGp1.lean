/-
  Parts of the engine, a program's symbolic run, proved sound; and of plain laws.
-/
import Derived.Test.YtieocjnfjjgjeabGu5
set_option linter.unusedVariables false
set_option linter.unusedSimpArgs false
/-!  -/
noncomputable section
namespace Go.Eng
theorem b01_eq (b : Bool) : (qQq b = 0) = (b = false) := by cases b <;> simp [qQq]
theorem iteZ_ne (t x y : Int) : iteZ t x y = if t ≠ 0 then x else y := rfl
theorem w64 {x : Int} (h1 : -9223372036854775808 ≤ x) (h2 : x ≤ 9223372036854775807) : IntKind.wrap .i64 x = x := qXk .i64 _ h1 h2
theorem nrm : (∀ b : Bool, (qQq b = 0) = (b = false)) ∧ (∀ {p : Prop} [Decidable p], (decide p = true) = p) ∧ (∀ {p : Prop} {x : Decidable p}, decide p = false ↔ ¬ p) ∧
  (∀ {a b : Int}, (a == b) = true ↔ a = b) ∧ (∀ {a b : Int}, (a == b) = false ↔ a ≠ b) ∧ (∀ {a b : Int}, (a != b) = true ↔ a ≠ b) ∧ (∀ {a b : Int}, (a != b) = false ↔ a = b) ∧
  (∀ {a b : Int}, ¬ a ≤ b ↔ b < a) ∧ (∀ {a b : Int}, ¬ a < b ↔ b ≤ a) ∧ (∀ p : Prop, (True ∧ p) = p) ∧ (∀ p : Prop, (p ∧ True) = p) ∧ (∀ t x y : Int, iteZ t x y = if t ≠ 0 then x else y) ∧
  (∀ a b : Int, (a ≠ b) = ¬ a = b) ∧ (∀ b : Bool, (¬ b = false) = (b = true)) ∧ (∀ b : Bool, (¬ b = true) = (b = false)) ∧ ((¬ True) = False) ∧ ((¬ False) = True) ∧ (∀ {p : Prop} [Decidable p], ¬ ¬ p ↔ p) ∧
  (∀ p : Prop, (True → p) ↔ p) ∧ (∀ p : Prop, (False → p) = True) ∧ (∀ p : Prop, (True ↔ p) = p) ∧ (∀ p : Prop, (p ↔ True) = p) ∧ (∀ p : Prop, (False ↔ p) = ¬ p) ∧ (∀ p : Prop, (p ↔ False) = ¬ p) ∧
  (∀ a : Int, (a = a) = True) ∧ (∀ {x : Decidable True} (t e : Int), (if True then t else e) = t) ∧ (∀ {x : Decidable False} (t e : Int), (if False then t else e) = e) :=
 ⟨b01_eq, decide_eq_true_eq, decide_eq_false_iff_not, beq_iff_eq, beq_eq_false_iff_ne, bne_iff_ne, bne_eq_false_iff_eq, Int.not_le, Int.not_lt, true_and, and_true, iteZ_ne, fun _ _ => rfl, Bool.not_eq_false, Bool.not_eq_true, not_true_eq_false, not_false_eq_true, Decidable.not_not,
  fun p => ⟨fun h => h trivial, fun h _ => h⟩, false_implies, true_iff, iff_true, false_iff, iff_false, fun a => eq_self a, fun t e => if_true t e, fun t e => if_false t e⟩
end Go.Eng
end
/-!  -/
noncomputable section
namespace Go.Eng
end Go.Eng
end
/-!  -/
noncomputable section
namespace Go.Eng
end Go.Eng
end
/-!  -/
noncomputable section
namespace Go.Eng
theorem shr_ev (k : IntKind) (x s : Int) : BO.ev .shr k x s = x / 2 ^ (Nat.min s.toNat k.bits) := by
 show x.fdiv (2 ^ _) = _
 rw [Int.fdiv_eq_ediv_of_nonneg _ (Int.le_of_lt (Int.pow_pos (by decide)))]
def I64 (x : Int) : Prop := -9223372036854775808 ≤ x ∧ x ≤ 9223372036854775807
def Mac.ok (m : Mac) : Prop := I64 m.pc ∧ I64 m.st ∧ I64 m.co ∧ 0 ≤ m.nm
structure Inv (w c1 n0 n1 : Int) (m : Mac) : Prop where
 ok : m.ok
 co : m.co = costF m.mq m.nm.toNat
 mks : ∀ i : Nat, (i : Int) < m.nm → (0 ≤ mk m.mq i 0 ∧ mk m.mq i 0 < n0) ∧ (-1 ≤ mk m.mq i 1 ∧ mk m.mq i 1 < n1) ∧ (1 ≤ mk m.mq i 2 ∧ mk m.mq i 2 ≤ 34)
 mem : ∀ i : Int, 0 ≤ i → i < n1 → (∃ k : Nat, (k : Int) < m.nm ∧ mk m.mq k 1 = i ∧ IntKind.wrap .u32 (rdZ w (mk m.mq k 0)) / 67108864 = 35) ∨ IntKind.wrap .i32 (rdZ m.rm i) = IntKind.wrap .i32 (rdZ c1 i)
section
variable {w c1 n0 n1 : Int} {m : Mac}
end
end Go.Eng
end
/-!  -/
noncomputable section
namespace Go.Eng
end Go.Eng
end
/-!  -/
noncomputable section
namespace Go.Eng
def rokP (x : Int) : Prop := 1 ≤ qJx x ∧ ¬ seqZ (qQk 1 (qQk (dropZ (rdZ x 1) 0) 0)) (qQk 1 (qQk (qQk 114 0) 0)) = 0 ∧ ¬ numK (qQk (qJx x - 1) (qQk (dropZ (rdZ x 1) 1) 0)) = 0
noncomputable instance (x : Int) : Decidable (rokP x) := by unfold rokP; infer_instance
end Go.Eng
end
/-!  -/
noncomputable section
namespace Go.Eng
set_option maxRecDepth 10000
end Go.Eng
end
