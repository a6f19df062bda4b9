/-
  Parts of the engine, a program's symbolic run, proved sound; and of plain laws.
-/
import Derived.Test.YteimodjkllldladGmN
import Derived.Test.YteimodjkllldladGu5
set_option linter.unusedVariables false
set_option linter.unusedSimpArgs false

/-!  -/
noncomputable section
namespace Go.Eng
theorem compUpTo {d : Array Int} (hs : ∀ i j : Nat, i < j → j < d.size → d[i]! ≤ d[j]!) : ∀ k : Nat, k ≤ d.size →
  (Lib.compactUpTo d k).Pairwise (· < ·) ∧ (∀ x, x ∈ Lib.compactUpTo d k ↔ ∃ j, j < k ∧ d[j]! = x)
 | 0, _ => by simp [Lib.compactUpTo]
 | k + 1, hk => by
  obtain ⟨h1, h2⟩ := compUpTo hs k (by omega)
  rw [Lib.compactUpTo_succ]
  by_cases hkeep : Lib.keeps d k = true
  ·rw [if_pos hkeep]
   unfold Lib.keeps at hkeep
   simp only [decide_eq_true_eq] at hkeep
   refine ⟨List.pairwise_append.2 ⟨h1, List.pairwise_singleton _ _, fun a ha b hb => ?_⟩, fun x => ?_⟩
   ·obtain ⟨j, hj, rfl⟩ := (h2 a).1 ha
    have hb : b = d[k]! := by simpa using hb
    subst hb
    rcases hkeep with h0 | h0
    ·omega
    ·have g1 := hs (k - 1) k (by omega) (by omega)
     have g2 : d[j]! ≤ d[k - 1]! := by
      by_cases e : j = k - 1
      ·subst e; exact Int.le_refl _
      ·exact hs j (k - 1) (by omega) (by omega)
     omega
   ·simp only [List.mem_append, List.mem_singleton, h2]
    constructor
    ·rintro (⟨j, hj, rfl⟩ | rfl)
     ·exact ⟨j, by omega, rfl⟩
     ·exact ⟨k, by omega, rfl⟩
    ·rintro ⟨j, hj, rfl⟩
     by_cases e : j = k
     ·subst e; exact .inr rfl
     ·exact .inl ⟨j, by omega, rfl⟩
  ·rw [if_neg hkeep, List.append_nil]
   unfold Lib.keeps at hkeep
   simp only [decide_eq_true_eq, not_or, Decidable.not_not] at hkeep
   refine ⟨h1, fun x => ?_⟩
   rw [h2]
   constructor
   ·rintro ⟨j, hj, rfl⟩; exact ⟨j, by omega, rfl⟩
   ·rintro ⟨j, hj, rfl⟩
    by_cases e : j = k
    ·subst e; exact ⟨j - 1, by omega, hkeep.2.symm⟩
    ·exact ⟨j, by omega, rfl⟩
theorem compact_sorted (l : List Int) : (Lib.compact (sortL l)).Pairwise (· < ·) ∧ ∀ x, x ∈ Lib.compact (sortL l) ↔ x ∈ l := by
 have hp : (sortL l).Pairwise (· ≤ ·) := by
  have := List.pairwise_mergeSort (le := fun x y : Int => decide (x ≤ y)) (fun a b c h1 h2 => by simp at *; omega) (fun a b => by simp; omega) l
  exact this.imp fun h => by simpa using h
 have hget : ∀ i : Nat, i < (sortL l).length → (sortL l).toArray[i]! = (sortL l)[i]! := fun i hi => by simp [hi]
 have := compUpTo (d := (sortL l).toArray) (fun i j hij hj => by
  have hj' : j < (sortL l).length := by simpa using hj
  rw [hget i (by omega), hget j hj', getElem!_pos (sortL l) i (by omega), getElem!_pos (sortL l) j hj']
  exact List.pairwise_iff_getElem.1 hp i j (by omega) hj' hij) (sortL l).length (by simp)
 refine ⟨this.1, fun x => (this.2 x).trans ?_⟩
 rw [← (List.mergeSort_perm l (fun x y => decide (x ≤ y))).mem_iff (a := x)]
 show _ ↔ x ∈ sortL l
 constructor
 ·rintro ⟨j, hj, rfl⟩
  rw [hget j hj, getElem!_pos (sortL l) j hj]
  exact List.getElem_mem hj
 ·intro hx
  obtain ⟨j, hj, rfl⟩ := List.mem_iff_getElem.1 hx
  exact ⟨j, hj, by rw [hget j hj, getElem!_pos (sortL l) j hj]⟩
theorem rowL_rw {q n : Int} {L : List Int} (h : Rw q L) (hn : n = L.length) (hb : ∀ x ∈ L, -9223372036854775808 ≤ x ∧ x ≤ 9223372036854775807) : rowL q n = L := by
 subst hn
 apply List.ext_getElem?
 intro i
 by_cases hi : i < L.length
 ·rw [rowL_get _ _ (by simpa using hi), h i hi, List.getElem?_eq_getElem hi, List.getD_eq_getElem?_getD, List.getElem?_eq_getElem hi, Option.getD_some]
  have := hb _ (List.getElem_mem hi)
  rw [w64 this.1 this.2]
 ·rw [List.getElem?_eq_none (by simp [rowL_len]; omega), List.getElem?_eq_none (by omega)]
theorem sortL_mem {l : List Int} {x : Int} : x ∈ sortL l ↔ x ∈ l := (List.mergeSort_perm l _).mem_iff
theorem sortL_len (l : List Int) : (sortL l).length = l.length := List.length_mergeSort l
end Go.Eng
end
