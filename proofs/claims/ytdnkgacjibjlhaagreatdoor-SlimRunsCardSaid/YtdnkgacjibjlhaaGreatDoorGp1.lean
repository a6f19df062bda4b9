/-
  Parts of the engine, a program's symbolic run, proved sound; and of plain laws.
-/
import Derived.Test.YtdnkgacjibjlhaaGreatDoorGu5
set_option linter.unusedVariables false
set_option linter.unusedSimpArgs false
/-!  -/
noncomputable section
namespace Go.Eng
theorem b01_eq (b : Bool) : (qQz b = 0) = (b = false) := by cases b <;> simp [qQz]
theorem iteZ_ne (t x y : Int) : iteZ t x y = if t ≠ 0 then x else y := rfl
theorem quo_pos {y k : Int} (h : 0 ≤ y) (h2 : y ≤ 9223372036854775807) (hk : 0 < k) : BO.ev .quo .i64 y k = y / k := by
 show IntKind.wrap .i64 (y.tdiv k) = _
 rw [Int.tdiv_eq_ediv_of_nonneg h]
 have h1 : 0 ≤ y / k := Int.ediv_nonneg h (by omega)
 have h3 : y / k ≤ y := Int.ediv_le_self k h
 exact qXk .i64 _ (by show (-9223372036854775808 : Int) ≤ _; omega) (by show _ ≤ (9223372036854775807 : Int); omega)
theorem rem_pos {y k : Int} (h : 0 ≤ y) : BO.ev .rem .i64 y k = y % k := by
 show y.tmod k = _
 exact Int.tmod_eq_emod_of_nonneg h
theorem w64 {x : Int} (h1 : -9223372036854775808 ≤ x) (h2 : x ≤ 9223372036854775807) : IntKind.wrap .i64 x = x := qXk .i64 _ h1 h2
theorem i64_bd (x : Int) : -9223372036854775808 ≤ IntKind.wrap .i64 x ∧ IntKind.wrap .i64 x ≤ 9223372036854775807 := qXg .i64 x
theorem ob_le {a b : Int} {X : Prop} : ((a ≤ b → X) ∧ (b < a → False)) ↔ (a ≤ b ∧ X) := ⟨fun h => by by_cases g : a ≤ b; exact ⟨g, h.1 g⟩; exact (h.2 (by omega)).elim, fun h => ⟨fun _ => h.2, fun g => by omega⟩⟩
theorem ob_lt {a b : Int} {X : Prop} : ((a < b → X) ∧ (b ≤ a → False)) ↔ (a < b ∧ X) := ⟨fun h => by by_cases g : a < b; exact ⟨g, h.1 g⟩; exact (h.2 (by omega)).elim, fun h => ⟨fun _ => h.2, fun g => by omega⟩⟩
theorem ob_p {p X : Prop} : ((p → X) ∧ (¬ p → False)) ↔ (p ∧ X) := ⟨fun h => by by_cases g : p; exact ⟨g, h.1 g⟩; exact (h.2 g).elim, fun h => ⟨fun _ => h.2, fun g => g h.1⟩⟩
theorem ob_n {p X : Prop} : ((¬ p → X) ∧ (p → False)) ↔ (¬ p ∧ X) := ⟨fun h => by by_cases g : p; exact (h.2 g).elim; exact ⟨g, h.1 g⟩, fun h => ⟨fun _ => h.2, fun g => h.1 g⟩⟩
theorem nrm : (∀ b : Bool, (qQz b = 0) = (b = false)) ∧ (∀ {p : Prop} [Decidable p], (decide p = true) = p) ∧ (∀ {p : Prop} {x : Decidable p}, decide p = false ↔ ¬ p) ∧
  (∀ {a b : Int}, (a == b) = true ↔ a = b) ∧ (∀ {a b : Int}, (a == b) = false ↔ a ≠ b) ∧ (∀ {a b : Int}, (a != b) = true ↔ a ≠ b) ∧ (∀ {a b : Int}, (a != b) = false ↔ a = b) ∧
  (∀ {a b : Int}, ¬ a ≤ b ↔ b < a) ∧ (∀ {a b : Int}, ¬ a < b ↔ b ≤ a) ∧ (∀ p : Prop, (True ∧ p) = p) ∧ (∀ p : Prop, (p ∧ True) = p) ∧ (∀ t x y : Int, iteZ t x y = if t ≠ 0 then x else y) ∧
  (∀ a b : Int, (a ≠ b) = ¬ a = b) ∧ (∀ b : Bool, (¬ b = false) = (b = true)) ∧ (∀ b : Bool, (¬ b = true) = (b = false)) ∧ ((¬ True) = False) ∧ ((¬ False) = True) ∧ (∀ {p : Prop} [Decidable p], ¬ ¬ p ↔ p) ∧
  (∀ p : Prop, (True → p) ↔ p) ∧ (∀ p : Prop, (False → p) = True) ∧ (∀ p : Prop, (True ↔ p) = p) ∧ (∀ p : Prop, (p ↔ True) = p) ∧ (∀ p : Prop, (False ↔ p) = ¬ p) ∧ (∀ p : Prop, (p ↔ False) = ¬ p) ∧
  (∀ a : Int, (a = a) = True) ∧ (∀ {x : Decidable True} (t e : Int), (if True then t else e) = t) ∧ (∀ {x : Decidable False} (t e : Int), (if False then t else e) = e) :=
 ⟨b01_eq, decide_eq_true_eq, decide_eq_false_iff_not, beq_iff_eq, beq_eq_false_iff_ne, bne_iff_ne, bne_eq_false_iff_eq, Int.not_le, Int.not_lt, true_and, and_true, iteZ_ne, fun _ _ => rfl, Bool.not_eq_false, Bool.not_eq_true, not_true_eq_false, not_false_eq_true, Decidable.not_not,
  fun p => ⟨fun h => h trivial, fun h _ => h⟩, false_implies, true_iff, iff_true, false_iff, iff_false, fun a => eq_self a, fun t e => if_true t e, fun t e => if_false t e⟩
theorem nro : (∀ {a b : Int} {X : Prop}, ((a ≤ b → X) ∧ (b < a → False)) ↔ (a ≤ b ∧ X)) ∧ (∀ {a b : Int} {X : Prop}, ((a < b → X) ∧ (b ≤ a → False)) ↔ (a < b ∧ X)) ∧ (∀ {p X : Prop}, ((p → X) ∧ (¬ p → False)) ↔ (p ∧ X)) ∧ (∀ {p X : Prop}, ((¬ p → X) ∧ (p → False)) ↔ (¬ p ∧ X)) :=
 ⟨ob_le, ob_lt, ob_p, ob_n⟩
end Go.Eng
end
/-!  -/
noncomputable section
namespace Go.Eng
end Go.Eng
end
/-!  -/
noncomputable section
namespace Go.Eng
theorem compUpTo {d : Array Int} (hs : ∀ i j : Nat, i < j → j < d.size → d[i]! ≤ d[j]!) : ∀ k : Nat, k ≤ d.size →
  (Lib.compactUpTo d k).Pairwise (· < ·) ∧ (∀ x, x ∈ Lib.compactUpTo d k ↔ ∃ j, j < k ∧ d[j]! = x)
 | 0, _ => by simp [Lib.compactUpTo]
 | k + 1, hk => by
  obtain ⟨h1, h2⟩ := compUpTo hs k (by omega)
  rw [Lib.compactUpTo_succ]
  by_cases hkeep : Lib.keeps d k = true
  ·rw [if_pos hkeep]
   unfold Lib.keeps at hkeep
   simp only [decide_eq_true_eq] at hkeep
   refine ⟨List.pairwise_append.2 ⟨h1, List.pairwise_singleton _ _, fun a ha b hb => ?_⟩, fun x => ?_⟩
   ·obtain ⟨j, hj, rfl⟩ := (h2 a).1 ha
    have hb : b = d[k]! := by simpa using hb
    subst hb
    rcases hkeep with h0 | h0
    ·omega
    ·have g1 := hs (k - 1) k (by omega) (by omega)
     have g2 : d[j]! ≤ d[k - 1]! := by
      by_cases e : j = k - 1
      ·subst e; exact Int.le_refl _
      ·exact hs j (k - 1) (by omega) (by omega)
     omega
   ·simp only [List.mem_append, List.mem_singleton, h2]
    constructor
    ·rintro (⟨j, hj, rfl⟩ | rfl)
     ·exact ⟨j, by omega, rfl⟩
     ·exact ⟨k, by omega, rfl⟩
    ·rintro ⟨j, hj, rfl⟩
     by_cases e : j = k
     ·subst e; exact .inr rfl
     ·exact .inl ⟨j, by omega, rfl⟩
  ·rw [if_neg hkeep, List.append_nil]
   unfold Lib.keeps at hkeep
   simp only [decide_eq_true_eq, not_or, Decidable.not_not] at hkeep
   refine ⟨h1, fun x => ?_⟩
   rw [h2]
   constructor
   ·rintro ⟨j, hj, rfl⟩; exact ⟨j, by omega, rfl⟩
   ·rintro ⟨j, hj, rfl⟩
    by_cases e : j = k
    ·subst e; exact ⟨j - 1, by omega, hkeep.2.symm⟩
    ·exact ⟨j, by omega, rfl⟩
theorem compact_sorted (l : List Int) : (Lib.compact (sortL l)).Pairwise (· < ·) ∧ ∀ x, x ∈ Lib.compact (sortL l) ↔ x ∈ l := by
 have hp : (sortL l).Pairwise (· ≤ ·) := by
  have := List.pairwise_mergeSort (le := fun x y : Int => decide (x ≤ y)) (fun a b c h1 h2 => by simp at *; omega) (fun a b => by simp; omega) l
  exact this.imp fun h => by simpa using h
 have hget : ∀ i : Nat, i < (sortL l).length → (sortL l).toArray[i]! = (sortL l)[i]! := fun i hi => by simp [hi]
 have := compUpTo (d := (sortL l).toArray) (fun i j hij hj => by
  have hj' : j < (sortL l).length := by simpa using hj
  rw [hget i (by omega), hget j hj', getElem!_pos (sortL l) i (by omega), getElem!_pos (sortL l) j hj']
  exact List.pairwise_iff_getElem.1 hp i j (by omega) hj' hij) (sortL l).length (by simp)
 refine ⟨this.1, fun x => (this.2 x).trans ?_⟩
 rw [← (List.mergeSort_perm l (fun x y => decide (x ≤ y))).mem_iff (a := x)]
 show _ ↔ x ∈ sortL l
 constructor
 ·rintro ⟨j, hj, rfl⟩
  rw [hget j hj, getElem!_pos (sortL l) j hj]
  exact List.getElem_mem hj
 ·intro hx
  obtain ⟨j, hj, rfl⟩ := List.mem_iff_getElem.1 hx
  exact ⟨j, hj, by rw [hget j hj, getElem!_pos (sortL l) j hj]⟩
theorem rowL_rw {q n : Int} {L : List Int} (h : Rw q L) (hn : n = L.length) (hb : ∀ x ∈ L, -9223372036854775808 ≤ x ∧ x ≤ 9223372036854775807) : rowL q n = L := by
 subst hn
 apply List.ext_getElem?
 intro i
 by_cases hi : i < L.length
 ·rw [rowL_get _ _ (by simpa using hi), h i hi, List.getElem?_eq_getElem hi, List.getD_eq_getElem?_getD, List.getElem?_eq_getElem hi, Option.getD_some]
  have := hb _ (List.getElem_mem hi)
  rw [w64 this.1 this.2]
 ·rw [List.getElem?_eq_none (by simp [rowL_len]; omega), List.getElem?_eq_none (by omega)]
theorem sortL_mem {l : List Int} {x : Int} : x ∈ sortL l ↔ x ∈ l := (List.mergeSort_perm l _).mem_iff
theorem sortL_len (l : List Int) : (sortL l).length = l.length := List.length_mergeSort l
end Go.Eng
end
/-!  -/
noncomputable section
namespace Go.Eng
theorem wrap_rd (c i f : Int) : IntKind.wrap .i64 (rdZ (rdZ c i) f) = mk c i f := rfl
theorem rd_at2 (x y z : Int) : rdZ (qQq x (qQq y z)) 1 = y := by rw [qQr _ _ (by omega), show (1 : Int) - 1 = 0 by omega, qQv]
def chn : List Int → Int
 | [] => 0
 | x :: l => qQq x (chn l)
theorem rd_chn : ∀ (l : List Int) (i : Nat), rdZ (chn l) i = l.getD i 0
 | [], i => by simp [chn, rdZ_nil]
 | x :: l, 0 => by rw [chn]; exact qQv _ _
 | x :: l, i + 1 => by
  rw [chn, qQr _ _ (by omega), show ((i + 1 : Nat) : Int) - 1 = (i : Nat) by omega, rd_chn l i]
  simp
end Go.Eng
end
