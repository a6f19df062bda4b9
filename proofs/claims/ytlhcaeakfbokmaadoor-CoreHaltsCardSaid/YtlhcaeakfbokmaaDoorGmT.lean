/-
  Parts of the engine, a program's symbolic run, proved sound; and of plain laws.
-/
import Derived.Test.YtlhcaeakfbokmaaDoorGmN
import Derived.Test.YtlhcaeakfbokmaaDoorGu5
set_option linter.unusedVariables false
set_option linter.unusedSimpArgs false

/-! Marks, in plain words. No program. -/
section
namespace Go.Eng
theorem mk_fold (c i f : Int) : IntKind.wrap .i64 (rdZ (rdZ c i) f) = mk c i f := rfl
theorem mark_ne {a0 a1 a2 b0 b1 b2 : Int} : (if a0 = b0 then if a1 = b1 then bool01 (a2 == b2) else 0 else 0) = 0 ↔ (a0 ≠ b0 ∨ a1 ≠ b1 ∨ a2 ≠ b2) := by
  by_cases h0 : a0 = b0 <;> by_cases h1 : a1 = b1 <;> by_cases h2 : a2 = b2 <;> simp [h0, h1, h2, bool01]
theorem nat_i {i : Int} (h : 0 ≤ i) : ((i.toNat : Nat) : Int) = i := Int.toNat_of_nonneg h
theorem succ_i {i : Int} (h : 0 ≤ i) : (i + 1).toNat = i.toNat + 1 := by omega
theorem wrap_next {a b : Int} (h1 : -9223372036854775808 ≤ a) (h2 : a ≤ 9223372036854775807) : IntKind.wrap .i64 (a - b) = 1 ↔ a = IntKind.wrap .i64 (b + 1) := by
  simp only [IntKind.wrap, IntKind.bits, IntKind.signed]
  constructor <;> intro h <;> (try split at h) <;> (try split) <;> simp_all <;> omega
theorem foldF_len (c : Int) : ∀ k, (foldF c k).length ≤ k
  | 0 => by simp [foldF]
  | k + 1 => by
    have := foldF_len c k
    simp only [foldF]
    split <;> simp <;> omega
theorem addrF_len (c : Int) : ∀ k, (addrF c k).length ≤ k
  | 0 => by simp [addrF]
  | k + 1 => by
    have := addrF_len c k
    simp only [addrF]
    split <;> simp <;> omega
theorem mk_bd (c i f : Int) : -9223372036854775808 ≤ mk c i f ∧ mk c i f ≤ 9223372036854775807 := wrap_bd .i64 _
theorem cntF_bd (c p : Int) : ∀ k : Nat, 0 ≤ cntF c p k ∧ cntF c p k ≤ k
  | 0 => by simp [cntF]
  | k + 1 => by
    have := cntF_bd c p k
    simp only [cntF]
    split <;> omega
/-! ### the first unlike -/
theorem firstF_some {c d n m : Int} {i : Nat} (h : diffAt c d n m i) (hi : (i : Int) < n ∨ (i : Int) < m) (hl : ∀ j : Nat, j < i → ¬ diffAt c d n m j) : firstF c d n m = some i := by
  unfold firstF
  rw [List.find?_range_eq_some]
  refine ⟨by simpa using h, ?_, fun j hj => by simpa using hl j hj⟩
  simp only [List.mem_range]
  split <;> omega
theorem firstF_none {c d n m : Int} (h : n = m) (hl : ∀ j : Nat, (j : Int) < n → ¬ diffAt c d n m j) : firstF c d n m = none := by
  subst h
  unfold firstF
  rw [List.find?_range_eq_none]
  intro j hj
  simp only [if_neg (show ¬ n < n by omega)] at hj
  have := hl j (by omega)
  simpa using this
theorem rd_pair (x y : Int) : rdZ (consZ x (consZ y 0)) 0 = x ∧ rdZ (consZ x (consZ y 0)) 1 = y := ⟨rdZ_cons_zero _ _, by rw [rdZ_cons_succ _ _ (by omega), show (1 : Int) - 1 = 0 by omega, rdZ_cons_zero]⟩
theorem firstZ_pair (c d n m : Int) : firstZ c d (consZ n (consZ m 0)) = match firstF c d n m with
    | some i => (i : Int)
    | none => -1 := by
  unfold firstZ
  rw [(rd_pair n m).1, (rd_pair n m).2]
  cases firstF c d n m <;> rfl
theorem firstZ_some {c d n m i : Int} (h0 : 0 ≤ i) (h : diffAt c d n m i.toNat) (hi : i < n ∨ i < m) (hl : ∀ j : Nat, (j : Int) < i → ¬ diffAt c d n m j) : i = firstZ c d (consZ n (consZ m 0)) := by
  rw [firstZ_pair, firstF_some (i := i.toNat) h (by omega) fun j hj => hl j (by omega)]
  simp only; omega
theorem firstZ_none {c d n m : Int} (h : n = m) (hl : ∀ j : Nat, (j : Int) < n → ¬ diffAt c d n m j) : -1 = firstZ c d (consZ n (consZ m 0)) := by
  rw [firstZ_pair, firstF_none h hl]
/-! ### sorted rows without twins -/
theorem sorted_unique : ∀ {l m : List Int}, l.Pairwise (· < ·) → m.Pairwise (· < ·) → (∀ x, x ∈ l ↔ x ∈ m) → l = m
  | [], [], _, _, _ => rfl
  | [], b :: m, _, _, h => by have := (h b).2 List.mem_cons_self; cases this
  | a :: l, [], _, _, h => by have := (h a).1 List.mem_cons_self; cases this
  | a :: l, b :: m, hl, hm, h => by
    have h1 := List.pairwise_cons.1 hl
    have h2 := List.pairwise_cons.1 hm
    have e : a = b := by
      rcases List.mem_cons.1 ((h a).1 List.mem_cons_self) with e | e
      · exact e
      · rcases List.mem_cons.1 ((h b).2 List.mem_cons_self) with e' | e'
        · exact e'.symm
        · have := h1.1 _ e'; have := h2.1 _ e; omega
    subst e
    congr 1
    refine sorted_unique h1.2 h2.2 fun x => ⟨fun hx => ?_, fun hx => ?_⟩
    · rcases List.mem_cons.1 ((h x).1 (List.mem_cons_of_mem _ hx)) with e | e
      · have := h1.1 _ hx; omega
      · exact e
    · rcases List.mem_cons.1 ((h x).2 (List.mem_cons_of_mem _ hx)) with e | e
      · have := h2.1 _ hx; omega
      · exact e
theorem compUpTo {d : Array Int} (hs : ∀ i j : Nat, i < j → j < d.size → d[i]! ≤ d[j]!) : ∀ k : Nat, k ≤ d.size →
    (Lib.compactUpTo d k).Pairwise (· < ·) ∧ (∀ x, x ∈ Lib.compactUpTo d k ↔ ∃ j, j < k ∧ d[j]! = x)
  | 0, _ => by simp [Lib.compactUpTo]
  | k + 1, hk => by
    obtain ⟨h1, h2⟩ := compUpTo hs k (by omega)
    rw [Lib.compactUpTo_succ]
    by_cases hkeep : Lib.keeps d k = true
    · rw [if_pos hkeep]
      unfold Lib.keeps at hkeep
      simp only [decide_eq_true_eq] at hkeep
      refine ⟨List.pairwise_append.2 ⟨h1, List.pairwise_singleton _ _, fun a ha b hb => ?_⟩, fun x => ?_⟩
      · obtain ⟨j, hj, rfl⟩ := (h2 a).1 ha
        have hb : b = d[k]! := by simpa using hb
        subst hb
        rcases hkeep with h0 | h0
        · omega
        · have g1 := hs (k - 1) k (by omega) (by omega)
          have g2 : d[j]! ≤ d[k - 1]! := by
            by_cases e : j = k - 1
            · subst e; exact Int.le_refl _
            · exact hs j (k - 1) (by omega) (by omega)
          omega
      · simp only [List.mem_append, List.mem_singleton, h2]
        constructor
        · rintro (⟨j, hj, rfl⟩ | rfl)
          · exact ⟨j, by omega, rfl⟩
          · exact ⟨k, by omega, rfl⟩
        · rintro ⟨j, hj, rfl⟩
          by_cases e : j = k
          · subst e; exact .inr rfl
          · exact .inl ⟨j, by omega, rfl⟩
    · rw [if_neg hkeep, List.append_nil]
      unfold Lib.keeps at hkeep
      simp only [decide_eq_true_eq, not_or, Decidable.not_not] at hkeep
      refine ⟨h1, fun x => ?_⟩
      rw [h2]
      constructor
      · rintro ⟨j, hj, rfl⟩; exact ⟨j, by omega, rfl⟩
      · rintro ⟨j, hj, rfl⟩
        by_cases e : j = k
        · subst e; exact ⟨j - 1, by omega, hkeep.2.symm⟩
        · exact ⟨j, by omega, rfl⟩
theorem compact_sorted (l : List Int) : (Lib.compact (sortL l)).Pairwise (· < ·) ∧ ∀ x, x ∈ Lib.compact (sortL l) ↔ x ∈ l := by
  have hp : (sortL l).Pairwise (· ≤ ·) := by
    have := List.pairwise_mergeSort (le := fun x y : Int => decide (x ≤ y)) (fun a b c h1 h2 => by simp at *; omega) (fun a b => by simp; omega) l
    exact this.imp fun h => by simpa using h
  have hget : ∀ i : Nat, i < (sortL l).length → (sortL l).toArray[i]! = (sortL l)[i]! := fun i hi => by simp [hi]
  have := compUpTo (d := (sortL l).toArray) (fun i j hij hj => by
    have hj' : j < (sortL l).length := by simpa using hj
    rw [hget i (by omega), hget j hj', getElem!_pos (sortL l) i (by omega), getElem!_pos (sortL l) j hj']
    exact List.pairwise_iff_getElem.1 hp i j (by omega) hj' hij) (sortL l).length (by simp)
  refine ⟨this.1, fun x => (this.2 x).trans ?_⟩
  rw [← (List.mergeSort_perm l (fun x y => decide (x ≤ y))).mem_iff (a := x)]
  show _ ↔ x ∈ sortL l
  constructor
  · rintro ⟨j, hj, rfl⟩
    rw [hget j hj, getElem!_pos (sortL l) j hj]
    exact List.getElem_mem hj
  · intro hx
    obtain ⟨j, hj, rfl⟩ := List.mem_iff_getElem.1 hx
    exact ⟨j, hj, by rw [hget j hj, getElem!_pos (sortL l) j hj]⟩
theorem addrL_eq {c n : Int} {L : List Int} (h : L.Pairwise (· < ·)) (hm : ∀ x, x ∈ L ↔ x ∈ addrF c n.toNat) : L = addrL c n := by
  obtain ⟨h1, h2⟩ := compact_sorted (addrF c n.toNat)
  exact sorted_unique h h1 fun x => (hm x).trans (h2 x).symm
theorem rowL_rw {q n : Int} {L : List Int} (h : Rw q L) (hn : n = L.length) (hb : ∀ x ∈ L, -9223372036854775808 ≤ x ∧ x ≤ 9223372036854775807) : rowL q n = L := by
  subst hn
  apply List.ext_getElem?
  intro i
  by_cases hi : i < L.length
  · rw [rowL_get _ _ (by simpa using hi), h i hi, List.getElem?_eq_getElem hi, List.getD_eq_getElem?_getD, List.getElem?_eq_getElem hi, Option.getD_some]
    have := hb _ (List.getElem_mem hi)
    rw [w64 this.1 this.2]
  · rw [List.getElem?_eq_none (by simp [rowL_len]; omega), List.getElem?_eq_none (by omega)]
theorem addrF_bd {c x : Int} : ∀ {k : Nat}, x ∈ addrF c k → -9223372036854775808 ≤ x ∧ x ≤ 9223372036854775807
  | 0, h => by simp [addrF] at h
  | k + 1, h => by
    simp only [addrF, List.mem_append] at h
    rcases h with h | h
    · exact addrF_bd h
    · split at h
      · simp at h
      · have : x = mk c k 1 := by simpa using h
        subst this; exact mk_bd _ _ _
theorem sortL_mem {l : List Int} {x : Int} : x ∈ sortL l ↔ x ∈ l := (List.mergeSort_perm l _).mem_iff
theorem sortL_len (l : List Int) : (sortL l).length = l.length := List.length_mergeSort l
/-- the program's addresses -/
theorem addr_prog {q n c m : Int} (h : Rw q (addrF c m.toNat)) (hn : n = (addrF c m.toNat).length) :
    compN (sortC q n) n = addrN c m ∧ rowEq [.int .i64] (compC (sortC q n) n) (addrC c m) (compN (sortC q n) n) := by
  have h1 : rowL q n = addrF c m.toNat := rowL_rw h hn fun x hx => addrF_bd hx
  have h2 : rowL (sortC q n) n = sortL (addrF c m.toNat) := by
    refine rowL_rw ?_ (by rw [sortL_len]; exact hn) fun x hx => addrF_bd (sortL_mem.1 hx)
    have : sortC q n = LZ (sortL (addrF c m.toNat)) := by unfold sortC sortL; rw [h1]
    rw [this]; exact Rw.lz _
  have h3 : compC (sortC q n) n = addrC c m := by unfold compC addrC addrL; rw [h2]
  have h4 : compN (sortC q n) n = addrN c m := by unfold compN addrN addrL; rw [h2]
  rw [h3, h4]
  exact ⟨rfl, rowEq_refl _ _ _⟩
/-- one more, at its place -/
theorem ins_rw {q v at_ n : Int} {L : List Int} (h : Rw q L) (hn : n = L.length) (h0 : 0 ≤ at_) (h1 : at_ ≤ n) :
    Rw (appZ (updZ (appZ 0 0 q) at_ v) (at_ + 1) (dropZ q at_)) (L.take at_.toNat ++ v :: L.drop at_.toNat) := by
  obtain ⟨a, rfl⟩ := Int.eq_ofNat_of_zero_le h0
  intro k hk
  have hk' : k < L.length + 1 := by
    simp only [List.length_append, List.length_take, List.length_cons, List.length_drop, Int.toNat_natCast] at hk
    omega
  have e1 : ((a : Int) + 1).toNat = a + 1 := by omega
  rw [rdZ_app, Int.toNat_natCast, e1]
  simp only [Int.toNat_natCast]
  rcases Nat.lt_trichotomy k a with hlt | heq | hgt
  · rw [if_pos (by omega), rdZ_upd, Int.toNat_natCast, Int.toNat_natCast, if_neg (by omega), rdZ_app]
    simp only [Int.toNat_zero, Nat.not_lt_zero, if_false, Int.toNat_natCast, Nat.sub_zero]
    rw [h k (by omega), List.getD_eq_getElem?_getD, List.getD_eq_getElem?_getD, List.getElem?_append_left (by simp; omega), List.getElem?_take_of_lt hlt]
  · subst heq
    rw [if_pos (by omega), rdZ_upd, Int.toNat_natCast, if_pos rfl, List.getD_eq_getElem?_getD, List.getElem?_append_right (by simp; omega)]
    simp only [List.length_take]
    rw [show k - min k L.length = 0 by omega]; simp
  · rw [if_neg (by omega), rdZ_drop, Int.toNat_natCast, Int.toNat_natCast, show a + (k - (a + 1)) = k - 1 by omega, h (k - 1) (by omega)]
    rw [List.getD_eq_getElem?_getD, List.getD_eq_getElem?_getD, List.getElem?_append_right (by simp; omega)]
    simp only [List.length_take]
    rw [show min a L.length = a by omega, show k - a = (k - a - 1) + 1 by omega, List.getElem?_cons_succ, List.getElem?_drop]
    congr 2; omega
theorem ins_sorted {L : List Int} {v : Int} {a : Nat} (h : L.Pairwise (· < ·)) (h1 : ∀ j : Nat, j < a → L.getD j 0 < v) (h2 : a < L.length → v < L.getD a 0) (ha : a ≤ L.length) :
    (L.take a ++ v :: L.drop a).Pairwise (· < ·) ∧ ∀ x, x ∈ L.take a ++ v :: L.drop a ↔ x ∈ L ∨ x = v := by
  have hsplit := List.take_append_drop a L
  have hp : (L.take a ++ L.drop a).Pairwise (· < ·) := by rw [hsplit]; exact h
  obtain ⟨p1, p2, p3⟩ := List.pairwise_append.1 hp
  have q1 : ∀ x ∈ L.take a, x < v := by
    intro x hx
    obtain ⟨j, hj, rfl⟩ := List.mem_iff_getElem.1 hx
    have hj' : j < a ∧ j < L.length := by simp only [List.length_take] at hj; omega
    have := h1 j hj'.1
    rw [List.getD_eq_getElem?_getD, List.getElem?_eq_getElem hj'.2, Option.getD_some] at this
    rw [List.getElem_take]; exact this
  have q2 : ∀ x ∈ L.drop a, v < x := by
    intro x hx
    obtain ⟨j, hj, rfl⟩ := List.mem_iff_getElem.1 hx
    have hj' : a + j < L.length := by simp only [List.length_drop] at hj; omega
    have g := h2 (by omega)
    rw [List.getD_eq_getElem?_getD, List.getElem?_eq_getElem (show a < L.length by omega), Option.getD_some] at g
    rw [List.getElem_drop]
    by_cases e : j = 0
    · subst e; simpa using g
    · have := List.pairwise_iff_getElem.1 h a (a + j) (by omega) hj' (by omega)
      omega
  refine ⟨List.pairwise_append.2 ⟨p1, List.pairwise_cons.2 ⟨q2, p2⟩, fun x hx y hy => ?_⟩, fun x => ?_⟩
  · rcases List.mem_cons.1 hy with rfl | hy
    · exact q1 x hx
    · exact p3 x hx y hy
  · have : x ∈ L ↔ x ∈ L.take a ∨ x ∈ L.drop a := by rw [← List.mem_append, hsplit]
    rw [this]
    simp only [List.mem_append, List.mem_cons]
    constructor
    · rintro (h | h | h)
      · exact .inl (.inl h)
      · exact .inr h
      · exact .inl (.inr h)
    · rintro ((h | h) | h)
      · exact .inl h
      · exact .inr (.inr h)
      · exact .inr (.inl h)
theorem addrN_bd (c n : Int) (h : 0 ≤ n) : 0 ≤ addrN c n ∧ addrN c n ≤ n := by
  have h1 := addrF_len c n.toNat
  have h2 := compact_len (sortL (addrF c n.toNat))
  rw [sortL_len] at h2
  unfold addrN addrL
  omega
theorem foldN_bd (c n : Int) (h : 0 ≤ n) : 0 ≤ foldN c n ∧ foldN c n ≤ n := by
  have h1 := foldF_len c (n.toNat - 1)
  unfold foldN
  omega
theorem firstZ_spec {c d n m : Int} (hn : 0 ≤ n) (hm : 0 ≤ m) {F : Int} (hF : F = firstZ c d (consZ n (consZ m 0))) :
    (F = -1 ∧ n = m ∧ ∀ j : Nat, (j : Int) < n → ¬ diffAt c d n m j) ∨ (0 ≤ F ∧ F ≤ n ∧ F ≤ m ∧ diffAt c d n m F.toNat ∧ (∀ j : Nat, (j : Int) < F → ¬ diffAt c d n m j)) := by
  rw [firstZ_pair] at hF
  cases h : firstF c d n m with
  | none =>
    rw [h] at hF
    unfold firstF at h
    rw [List.find?_range_eq_none] at h
    have hd : ∀ j : Nat, j < (if n < m then m else n).toNat → ¬ diffAt c d n m j := fun j hj => by simpa using h j hj
    have e : n = m := by
      rcases Int.lt_trichotomy n m with g | g | g
      · exact absurd (show diffAt c d n m n.toNat by unfold diffAt; omega) (hd n.toNat (by rw [if_pos g]; omega))
      · exact g
      · exact absurd (show diffAt c d n m m.toNat by unfold diffAt; omega) (hd m.toNat (by rw [if_neg (by omega)]; omega))
    exact .inl ⟨hF, e, fun j hj => hd j (by split <;> omega)⟩
  | some i =>
    rw [h] at hF
    unfold firstF at h
    rw [List.find?_range_eq_some] at h
    obtain ⟨h1, h2, h3⟩ := h
    simp only [List.mem_range] at h2
    have h1 : diffAt c d n m i := by simpa using h1
    have h3 : ∀ j, j < i → ¬ diffAt c d n m j := fun j hj => by simpa using h3 j hj
    have hi : (i : Int) ≤ n ∧ (i : Int) ≤ m := by
      rcases Nat.eq_zero_or_pos i with h0 | h0
      · omega
      · have := h3 (i - 1) (by omega)
        unfold diffAt at this
        omega
    have hF : F = (i : Int) := hF
    refine .inr ⟨by omega, by omega, by omega, by rw [hF]; simpa using h1, fun j hj => h3 j (by omega)⟩
theorem diffAt_comm {c d n m : Int} {i : Nat} : diffAt c d n m i ↔ diffAt d c m n i := by
  unfold diffAt
  constructor
  · rintro (h | h | h | h | h)
    · exact .inr (.inl h)
    · exact .inl h
    · exact .inr (.inr (.inl (Ne.symm h)))
    · exact .inr (.inr (.inr (.inl (Ne.symm h))))
    · exact .inr (.inr (.inr (.inr (Ne.symm h))))
  · rintro (h | h | h | h | h)
    · exact .inr (.inl h)
    · exact .inl h
    · exact .inr (.inr (.inl (Ne.symm h)))
    · exact .inr (.inr (.inr (.inl (Ne.symm h))))
    · exact .inr (.inr (.inr (.inr (Ne.symm h))))
theorem firstZ_comm {c d n m : Int} (hn : 0 ≤ n) (hm : 0 ≤ m) : firstZ c d (consZ n (consZ m 0)) = firstZ d c (consZ m (consZ n 0)) := by
  rcases firstZ_spec hn hm (c := c) (d := d) rfl with ⟨h1, h2, h3⟩ | ⟨h1, h2, h3, h4, h5⟩
  · rw [h1]
    exact firstZ_none h2.symm fun j hj => fun g => h3 j (by omega) (diffAt_comm.1 g)
  · have hlt : firstZ c d (consZ n (consZ m 0)) < m ∨ firstZ c d (consZ n (consZ m 0)) < n := by
      rcases firstZ_spec hn hm (c := c) (d := d) rfl with ⟨g, _⟩ | _
      · omega
      · by_cases g : n = m
        · -- it is no end of both
          have : firstF c d n m ≠ none := fun g2 => by rw [firstZ_pair, g2] at h1; simp at h1
          cases h : firstF c d n m with
          | none => exact absurd h this
          | some i =>
            unfold firstF at h
            rw [List.find?_range_eq_some] at h
            have h6 := h.2.1
            simp only [List.mem_range] at h6
            have h7 : firstZ c d (consZ n (consZ m 0)) = i := by rw [firstZ_pair]; unfold firstF; rw [List.find?_range_eq_some.2 h]
            rw [h7]; split at h6 <;> omega
        · omega
    exact firstZ_some h1 (diffAt_comm.1 h4) hlt fun j hj g => h5 j hj (diffAt_comm.1 g)
theorem costF_congr {c d : Int} : ∀ {k : Nat}, (∀ j : Nat, j < k → mk c j 2 = mk d j 2) → costF c k = costF d k
  | 0, _ => rfl
  | k + 1, h => by simp only [costF]; rw [costF_congr fun j hj => h j (by omega), h k (by omega)]
theorem costF_split (c : Int) (a : Nat) : ∀ b : Nat, costF c (a + b) = IntKind.wrap .i64 (costF c a + costF (dropZ c a) b)
  | 0 => by
    simp only [costF, Int.add_zero, Nat.add_zero]
    cases a with
    | zero => rfl
    | succ k => simp only [costF]; rw [w64_id]
  | b + 1 => by
    rw [show a + (b + 1) = (a + b) + 1 by omega]
    simp only [costF]
    rw [costF_split c a b]
    have e : mk (dropZ c a) b 2 = mk c ((a + b : Nat) : Int) 2 := by
      unfold mk; rw [rdZ_drop]; simp
    rw [e]
    generalize costF c a = x
    generalize costF (dropZ c a) b = y
    generalize mk c ((a + b : Nat) : Int) 2 = z
    rw [w64_add_l, w64_add_r, Int.add_assoc]
theorem costZ_split {c n F : Int} (h0 : 0 ≤ F) (h1 : F ≤ n) (o : Int) (ho : o = F ∨ n = F) : IntKind.wrap .i64 (costZ c F + costZ (dropZ c o) (n - F)) = costZ c n := by
  unfold costZ
  rcases ho with rfl | rfl
  · have := costF_split c o.toNat (n - o).toNat
    rw [show o.toNat + (n - o).toNat = n.toNat by omega] at this
    rw [this, Int.toNat_of_nonneg h0]
  · rw [show (n - n).toNat = 0 by omega]
    have := costF_split c n.toNat 0
    simp only [costF, Int.add_zero, Nat.add_zero] at this ⊢
    exact this.symm
theorem costZ_same {c d n m : Int} (h : n = m) (hl : ∀ j : Nat, (j : Int) < n → ¬ diffAt c d n m j) (hn : 0 ≤ n) : costZ c n = costZ d m := by
  subst h
  refine costF_congr fun j hj => ?_
  have := hl j (by omega)
  unfold diffAt at this
  by_cases g : mk c j 2 = mk d j 2
  · exact g
  · exact absurd (.inr (.inr (.inr (.inr g)))) this
end Go.Eng
end
