/-
  Parts of the engine, a program's symbolic run, proved sound; and of plain laws.
-/
import Derived.Test.YtlhcaeakfbokmaaDoorGmT
import Derived.Test.YtlhcaeakfbokmaaDoorGu5
set_option linter.unusedVariables false
set_option linter.unusedSimpArgs false

/-! Names of places, and plans of regions, in plain words. No program. -/
section
namespace Go.Eng
/-! ### texts -/
theorem wrap_rd (c i f : Int) : IntKind.wrap .i64 (rdZ (rdZ c i) f) = mk c i f := rfl
theorem strOf_zero {s : Int} (h : slenZ s = 0) : strOf s = ⟨#[]⟩ := by
  unfold strOf; rw [h]; rfl
theorem slen_cons (n x : Int) : slenZ (consZ n x) = if n < 0 then 0 else if strMax < n then strMax else n := by
  unfold slenZ; rw [rdZ_cons_zero]
theorem strOf_empty : strOf (consZ 0 (consZ 0 0)) = ⟨#[]⟩ := strOf_zero (by rw [slen_cons]; rfl)
theorem strOf_0 : strOf 0 = ⟨#[]⟩ := strOf_zero (by unfold slenZ; rw [rdZ_nil]; rfl)
theorem seq_empty (s : Int) : seqZ s (consZ 0 (consZ 0 0)) ≠ 0 ↔ slenZ s = 0 := by
  unfold seqZ
  rw [strOf_empty]
  constructor
  · intro h
    split at h
    · rename_i e
      have := strOf_size s
      rw [e] at this
      exact this.symm
    · exact absurd rfl h
  · intro h
    rw [if_pos (strOf_zero h)]
    decide
theorem seqZ_iff (s t : Int) : seqZ s t ≠ 0 ↔ strOf s = strOf t := by
  unfold seqZ; split <;> simp_all
theorem seqZ_refl (s : Int) : seqZ s s = 1 := by unfold seqZ; rw [if_pos rfl]
theorem has_code {s b : Int} {B : ByteArray} (h : strOf s = B) : hasB s b = if 0 ≤ Lib.indexByte B.data.toList (UInt8.ofNat b.toNat) then 1 else 0 := by unfold hasB; rw [h]
def smallS : ByteArray := ⟨#[97, 98, 99, 100, 101, 102, 103, 104, 105, 106, 107, 108, 109, 110, 111, 112, 113, 114, 115, 116, 117, 118, 119, 120, 121, 122]⟩
def otherS : ByteArray := ⟨#[97, 98, 99, 100, 101, 102, 103, 104, 105, 106, 107, 108, 109, 110, 111, 112, 113, 114, 115, 116, 117, 118, 119, 120, 121, 122, 48, 49, 50, 51, 52, 53, 54, 55, 56, 57, 95]⟩
theorem rd_at2 (x y z : Int) : rdZ (consZ x (consZ y z)) 1 = y := by rw [rdZ_cons_succ _ _ (by omega), show (1 : Int) - 1 = 0 by omega, rdZ_cons_zero]
noncomputable def chn : List Int → Int
  | [] => 0
  | x :: l => consZ x (chn l)
theorem rd_chn : ∀ (l : List Int) (i : Nat), rdZ (chn l) i = l.getD i 0
  | [], i => by simp [chn, rdZ_nil]
  | x :: l, 0 => by rw [chn]; exact rdZ_cons_zero _ _
  | x :: l, i + 1 => by
    rw [chn, rdZ_cons_succ _ _ (by omega), show ((i + 1 : Nat) : Int) - 1 = (i : Nat) by omega, rd_chn l i]
    simp
theorem str_chn (b : ByteArray) (n c : Int) (hn : n = b.size) (hc : c = chn (b.data.toList.map fun u => (u.toNat : Int))) (hb : b.size ≤ 1000000) : strOf (consZ n (consZ c 0)) = b := by
  subst hn hc
  refine strOf_eq (by rw [rdZ_cons_zero]) hb fun i hi => ?_
  have hi' : i < b.data.size := hi
  rw [rd_at2, rd_chn]
  simp only [List.getD_eq_getElem?_getD, List.getElem?_map, Array.getElem?_toList, Array.getElem?_eq_getElem hi', Option.map_some, Option.getD_some]
  have := UInt8.toNat_lt b.data[i]
  omega
theorem small_code : strOf (consZ 26 (consZ (consZ 97 (consZ 98 (consZ 99 (consZ 100 (consZ 101 (consZ 102 (consZ 103 (consZ 104 (consZ 105 (consZ 106 (consZ 107 (consZ 108 (consZ 109 (consZ 110 (consZ 111 (consZ 112 (consZ 113 (consZ 114 (consZ 115 (consZ 116 (consZ 117 (consZ 118 (consZ 119 (consZ 120 (consZ 121 (consZ 122 0)))))))))))))))))))))))))) 0)) = smallS := str_chn smallS _ _ (by decide) rfl (by decide)
theorem other_code : strOf (consZ 37 (consZ (consZ 97 (consZ 98 (consZ 99 (consZ 100 (consZ 101 (consZ 102 (consZ 103 (consZ 104 (consZ 105 (consZ 106 (consZ 107 (consZ 108 (consZ 109 (consZ 110 (consZ 111 (consZ 112 (consZ 113 (consZ 114 (consZ 115 (consZ 116 (consZ 117 (consZ 118 (consZ 119 (consZ 120 (consZ 121 (consZ 122 (consZ 48 (consZ 49 (consZ 50 (consZ 51 (consZ 52 (consZ 53 (consZ 54 (consZ 55 (consZ 56 (consZ 57 (consZ 95 0))))))))))))))))))))))))))))))))))))) 0)) = otherS := str_chn otherS _ _ (by decide) rfl (by decide)
theorem small_ix : ∀ k : Fin 256, (0 ≤ Lib.indexByte smallS.data.toList (UInt8.ofNat k)) ↔ (97 ≤ k.val ∧ k.val ≤ 122) := by decide +kernel
theorem other_in : ∀ k : Fin 256, (otherS.data.toList.contains (UInt8.ofNat k) = true) ↔ ((97 ≤ k.val ∧ k.val ≤ 122) ∨ k.val = 95 ∨ (48 ≤ k.val ∧ k.val ≤ 57)) := by decide +kernel
theorem isZ_ne (s : Int) : isZ s ≠ 0 ↔ isName s := by unfold isZ; split <;> simp_all
theorem has_small {t b : Int} (h : strOf t = smallS) (h0 : 0 ≤ b) (h1 : b ≤ 255) : hasB t b ≠ 0 ↔ smallB b := by
  rw [has_code h]
  have := small_ix ⟨b.toNat, by omega⟩
  simp only at this
  unfold smallB
  split
  · rename_i g
    have := this.1 g
    simp; omega
  · rename_i g
    have h2 : ¬ (97 ≤ b.toNat ∧ b.toNat ≤ 122) := fun h => g (this.2 h)
    simp; omega
theorem sbyte_cut (s : Int) : sbyteZ (consZ 1 (consZ (dropZ (rdZ s 1) 0) 0)) 0 = sbyteZ s 0 := by
  unfold sbyteZ
  rw [rd_at2]
  have := rdZ_drop (rdZ s 1) 0 0
  rw [this]; rfl
theorem dropWhile_nil {α : Type} (p : α → Bool) : ∀ l : List α, l.dropWhile p = [] ↔ ∀ x ∈ l, p x = true
  | [] => by simp
  | x :: l => by
    have := dropWhile_nil p l
    simp only [List.dropWhile]
    cases h : p x <;> simp [h, this]
theorem trimS_nil (l cs : List UInt8) : Lib.trimS l cs = [] ↔ ∀ x ∈ l, cs.contains x = true := by
  unfold Lib.trimS Lib.trimLeftS Lib.trimRightS
  constructor
  · intro h x hx
    rw [dropWhile_nil] at h
    by_cases g : ∀ y ∈ l.reverse, cs.contains y = true
    · exact g x (by simpa using hx)
    · have : l.reverse.dropWhile (cs.contains ·) ≠ [] := fun e => g ((dropWhile_nil _ _).1 e)
      have h2 : (l.reverse.dropWhile (cs.contains ·)).head this ∈ (l.reverse.dropWhile (cs.contains ·)).reverse := by simp
      have h3 := h _ h2
      have h4 := List.head_dropWhile_not (p := fun x => cs.contains x) (l := l.reverse) this
      have h4 : cs.contains ((l.reverse.dropWhile (cs.contains ·)).head this) = false := by simpa using h4
      rw [h3] at h4
      cases h4
  · intro h
    have : l.reverse.dropWhile (cs.contains ·) = [] := (dropWhile_nil _ _).2 fun x hx => h x (by simpa using hx)
    rw [this]
    rfl
theorem slen_code (b : ByteArray) (h : (b.size : Int) ≤ strMax) : slenZ (codeStr b) = b.size := by
  have := strOf_size (codeStr b)
  rw [code_strZ b h] at this
  exact this.symm
theorem strOf_mem (s : Int) (x : UInt8) : x ∈ (strOf s).data.toList ↔ ∃ i : Nat, (i : Int) < slenZ s ∧ x = UInt8.ofNat (sbyteZ s i).toNat := by
  have := slenZ_bd s
  have e : (strOf s).data.toList = (List.range (slenZ s).toNat).map fun (i : Nat) => UInt8.ofNat (sbyteZ s i).toNat := rfl
  rw [e, List.mem_map]
  constructor
  · rintro ⟨i, h1, rfl⟩; exact ⟨i, by have := List.mem_range.1 h1; omega, rfl⟩
  · rintro ⟨i, h1, rfl⟩; exact ⟨i, List.mem_range.2 (by omega), rfl⟩
theorem trim_other {s t : Int} (h : strOf t = otherS) : slenZ (trimZ s t) = 0 ↔ ∀ i : Nat, (i : Int) < slenZ s → otherB (sbyteZ s i) := by
  unfold trimZ
  rw [h]
  have h1 := trimS_len (strOf s).data.toList otherS.data.toList
  have h2 : (⟨(Lib.trimS (strOf s).data.toList otherS.data.toList).toArray⟩ : ByteArray).size = (Lib.trimS (strOf s).data.toList otherS.data.toList).length := by
    show Array.size _ = _; simp
  have h3 : (strOf s).data.toList.length = (strOf s).size := by simp
  have h4 := strOf_size s
  have h5 := slenZ_bd s
  rw [slen_code _ (by omega), h2]
  have h6 := trimS_nil (strOf s).data.toList otherS.data.toList
  constructor
  · intro g i hi
    have g2 := h6.1 (List.length_eq_zero_iff.1 (by omega)) _ ((strOf_mem s _).2 ⟨i, hi, rfl⟩)
    have hb := sbyteZ_bd s i
    have := (other_in ⟨(sbyteZ s i).toNat, by omega⟩).1 g2
    simp only at this
    unfold otherB smallB
    omega
  · intro g
    rw [h6.2 fun x hx => ?_]
    · rfl
    · obtain ⟨i, hi, rfl⟩ := (strOf_mem s _).1 hx
      have hb := sbyteZ_bd s i
      have := g i hi
      unfold otherB smallB at this
      exact (other_in ⟨(sbyteZ s i).toNat, by omega⟩).2 (by simp only; omega)
theorem isZ_eq (s : Int) : (isZ s = 0) = ¬ isName s := by unfold isZ; split <;> simp_all
theorem seq_empty0 (s : Int) : (seqZ s (consZ 0 (consZ 0 0)) = 0) = ¬ (slenZ s = 0) := by
  have := seq_empty s
  by_cases h : slenZ s = 0 <;> simp_all
theorem slen_one (x : Int) : slenZ (consZ 1 x) = 1 := by rw [slen_cons]; rfl
theorem seq_ne0 (s t : Int) : (seqZ s t = 0) = ¬ (strOf s = strOf t) := by unfold seqZ; split <;> simp_all
/-! ### the first place where something holds -/
theorem ixZ_spec (p : Nat → Prop) (n : Int) : (ixZ p n = -1 ∧ ∀ j : Nat, (j : Int) < n → ¬ p j) ∨ (0 ≤ ixZ p n ∧ ixZ p n < n ∧ p (ixZ p n).toNat ∧ ∀ j : Nat, (j : Int) < ixZ p n → ¬ p j) := by
  unfold ixZ
  cases h : ixF p n.toNat with
  | none =>
    unfold ixF at h
    rw [List.find?_range_eq_none] at h
    exact .inl ⟨rfl, fun j hj => by simpa using h j (by omega)⟩
  | some i =>
    unfold ixF at h
    rw [List.find?_range_eq_some] at h
    obtain ⟨h1, h2, h3⟩ := h
    simp only [List.mem_range] at h2
    exact .inr ⟨by simp only; omega, by simp only; omega, by simpa using h1, fun j hj => by simpa using h3 j (by simp only at hj; omega)⟩
theorem ixZ_some {p : Nat → Prop} {n i : Int} (h0 : 0 ≤ i) (hi : i < n) (hp : p i.toNat) (hl : ∀ j : Nat, (j : Int) < i → ¬ p j) : ixZ p n = i := by
  rcases ixZ_spec p n with ⟨h1, h2⟩ | ⟨h1, h2, h3, h4⟩
  · exact absurd hp (h2 i.toNat (by omega))
  · by_cases g : ixZ p n < i
    · exact absurd h3 (hl _ (by omega))
    · by_cases g2 : i < ixZ p n
      · exact absurd hp (h4 _ (by omega))
      · omega
theorem ixZ_none {p : Nat → Prop} {n : Int} (hl : ∀ j : Nat, (j : Int) < n → ¬ p j) : ixZ p n = -1 := by
  rcases ixZ_spec p n with ⟨h1, h2⟩ | ⟨h1, h2, h3, h4⟩
  · exact h1
  · exact absurd h3 (hl _ (by omega))
/-! ### plans -/
theorem okQ_ne (q n : Int) : okQ q n ≠ 0 ↔ okRg q n := by unfold okQ; split <;> simp_all
theorem okRg_used {q n : Int} (h : okRg q n) : ∀ i : Nat, (i : Int) ≤ n → 0 ≤ usedF q i ∧ usedF q i ≤ 2048
  | 0, _ => by simp [usedF]
  | i + 1, hi => by
    have h1 := okRg_used h i (by omega)
    have h2 := h i (by omega)
    rw [usedF, w64 (by omega) (by omega)]
    omega
theorem usedF_succ {q n : Int} (h : okRg q n) {i : Nat} (hi : (i : Int) < n) : usedF q (i + 1) = usedF q i + mk q i 2 := by
  have h1 := okRg_used h i (by omega)
  have h2 := h i hi
  rw [usedF, w64 (by omega) (by omega)]
theorem secF_len {q n : Int} (h : okRg q n) : ∀ i : Nat, (i : Int) ≤ n → ((secF q i).length : Int) = usedF q i
  | 0, _ => by simp [secF, usedF]
  | i + 1, hi => by
    have h1 := secF_len h i (by omega)
    have h2 := h i (by omega)
    rw [secF, usedF_succ h (by omega), List.length_append, List.length_replicate]
    omega
/-- a row of numbers is put at the end, one by one -/
theorem Rw.rep {q n x : Int} {L : List Int} {k : Nat} (h : Rw q (L ++ List.replicate k x)) (hn : n = L.length + k) : Rw (updZ q n x) (L ++ List.replicate (k + 1) x) := by
  have := Rw.snoc (x := x) h (n := n) (by simp; omega)
  rw [List.append_assoc] at this
  rwa [show List.replicate k x ++ [x] = List.replicate (k + 1) x by rw [List.replicate_succ']] at this
theorem sameRg_ne (c d n : Int) : (sameRg c d n = 0) = ¬ (∀ i : Nat, (i : Int) < n → seqZ (rdZ (rdZ c i) 0) (rdZ (rdZ d i) 0) ≠ 0 ∧ mk c i 1 = mk d i 1 ∧ mk c i 2 = mk d i 2 ∧ (rdZ (rdZ c i) 3 ≠ 0 ↔ rdZ (rdZ d i) 3 ≠ 0)) := by
  unfold sameRg; split <;> simp_all
theorem sameB_ne (c d n : Int) : (sameB c d n = 0) = ¬ (∀ i : Nat, (i : Int) < n → (rdZ c i ≠ 0 ↔ rdZ d i ≠ 0)) := by
  unfold sameB; split <;> simp_all
theorem allE_cons (q n nm k size used : Int) : allE q n (consZ nm (consZ k (consZ size (consZ used 0)))) =
    if isZ nm = 0 then 8 else if 0 ≤ findZ q n nm then 9 else if k < 1 then 2 else if IntKind.wrap .i64 (size - used) < k then 11 else 0 := by
  unfold allE
  have h0 : rdZ (consZ nm (consZ k (consZ size (consZ used 0)))) 0 = nm := rdZ_cons_zero _ _
  have h1 : rdZ (consZ nm (consZ k (consZ size (consZ used 0)))) 1 = k := rd_at2 _ _ _
  have h2 : rdZ (consZ nm (consZ k (consZ size (consZ used 0)))) 2 = size := by rw [rdZ_cons_succ _ _ (by omega), show (2 : Int) - 1 = 1 by omega]; exact rd_at2 _ _ _
  have h3 : rdZ (consZ nm (consZ k (consZ size (consZ used 0)))) 3 = used := by rw [rdZ_cons_succ _ _ (by omega), show (3 : Int) - 1 = 2 by omega, rdZ_cons_succ _ _ (by omega), show (2 : Int) - 1 = 1 by omega]; exact rd_at2 _ _ _
  rw [h0, h1, h2, h3]
theorem rep_hi0 : ((List.range 2049).all fun L => decide ((shrZ .u64 (shrZ .u64 (band .u64 (L : Int) 4294967295) 32) 32) + (shrZ .u64 ((band .u64 (shrZ .u64 (band .u64 (L : Int) 4294967295) 32) 4294967295) + (shrZ .u64 (L : Int) 32)) 32) = 0)) = true := by decide +kernel
theorem rep_hi {L : Int} (h0 : 0 ≤ L) (h1 : L ≤ 2048) : (shrZ .u64 (shrZ .u64 (band .u64 L 4294967295) 32) 32) + (shrZ .u64 ((band .u64 (shrZ .u64 (band .u64 L 4294967295) 32) 4294967295) + (shrZ .u64 L 32)) 32) = 0 := by
  have := List.all_eq_true.1 rep_hi0 L.toNat (List.mem_range.2 (by omega))
  rw [decide_eq_true_eq, Int.toNat_of_nonneg h0] at this
  exact this
theorem w_u64 {x L : Int} (h : IntKind.wrap .i64 x = L) (h0 : 0 ≤ L) : IntKind.wrap .u64 x = L := by
  have h1 := w64_emod x
  have h2 := i64_bd x
  have h3 : 0 ≤ IntKind.wrap .u64 x ∧ IntKind.wrap .u64 x ≤ 18446744073709551615 := wrap_bd .u64 x
  have h4 : (IntKind.wrap .u64 x - x) % 18446744073709551616 = 0 := by
    simp [IntKind.wrap, IntKind.bits, IntKind.signed] <;> (try split) <;> omega
  omega
theorem Rw.app {q n d v : Int} {L : List Int} {k : Nat} (h : Rw q L) (hn : n = L.length) (hd : ∀ j : Nat, j < k → rdZ d j = v) : Rw (appZ q n d) (L ++ List.replicate k v) := by
  intro j hj
  subst hn
  simp only [List.length_append, List.length_replicate] at hj
  rw [rdZ_app, Int.toNat_natCast, Int.toNat_natCast, List.getD_eq_getElem?_getD]
  by_cases g : j < L.length
  · rw [if_pos g, List.getElem?_append_left g, ← List.getD_eq_getElem?_getD]
    exact h j g
  · rw [if_neg g, List.getElem?_append_right (by omega), List.getElem?_replicate, if_pos (by omega), Option.getD_some]
    exact hd _ (by omega)
theorem sameRg_refl (c n : Int) : sameRg c c n = 1 := by unfold sameRg; rw [if_pos fun i _ => ⟨by rw [seqZ_refl]; decide, rfl, rfl, Iff.rfl⟩]
theorem sameB_refl (c n : Int) : sameB c c n = 1 := by unfold sameB; rw [if_pos fun i _ => Iff.rfl]
theorem usedF_upd {q n x : Int} : ∀ i : Nat, (i : Int) ≤ n → usedF (updZ q n x) i = usedF q i
  | 0, _ => rfl
  | i + 1, hi => by
    have e : mk (updZ q n x) i 2 = mk q i 2 := by
      unfold mk; rw [rdZ_upd, Int.toNat_natCast, if_neg (by omega)]
    rw [usedF, usedF, usedF_upd i (by omega), e]
theorem mk_upd_old {q n x f : Int} {i : Nat} (hi : (i : Int) < n) : mk (updZ q n x) i f = mk q i f := by
  unfold mk; rw [rdZ_upd, Int.toNat_natCast, if_neg (by omega)]
theorem mk_upd_new {q n x f : Int} (hn : 0 ≤ n) : mk (updZ q n x) n f = IntKind.wrap .i64 (rdZ x f) := by
  unfold mk; rw [rdZ_upd, if_pos rfl]
theorem item4 (a b c d : Int) : rdZ (consZ a (consZ b (consZ c (consZ d 0)))) 0 = a ∧ rdZ (consZ a (consZ b (consZ c (consZ d 0)))) 1 = b ∧ rdZ (consZ a (consZ b (consZ c (consZ d 0)))) 2 = c ∧ rdZ (consZ a (consZ b (consZ c (consZ d 0)))) 3 = d :=
  ⟨rdZ_cons_zero _ _, rd_at2 _ _ _, by rw [rdZ_cons_succ _ _ (by omega), show (2 : Int) - 1 = 1 by omega]; exact rd_at2 _ _ _,
   by rw [rdZ_cons_succ _ _ (by omega), show (3 : Int) - 1 = 2 by omega, rdZ_cons_succ _ _ (by omega), show (2 : Int) - 1 = 1 by omega]; exact rd_at2 _ _ _⟩
theorem okRg_nil (q : Int) : okRg q 0 := fun i hi => by omega
theorem usedZ_nil (q : Int) : usedZ q 0 = 0 := rfl
theorem okRg_le {q n : Int} (h : okRg q n) (hn : 0 ≤ n) : 0 ≤ usedZ q n ∧ usedZ q n ≤ 2048 := okRg_used h n.toNat (by omega)
/-- a region more -/
theorem okRg_snoc {q n nm k sec : Int} (h : okRg q n) (hn : 0 ≤ n) (h1 : 1 ≤ k) (h2 : usedZ q n + k ≤ 2048) :
    okRg (allQ q n (consZ nm (consZ (usedZ q n) (consZ k (consZ sec 0))))) (n + 1) ∧ usedZ (allQ q n (consZ nm (consZ (usedZ q n) (consZ k (consZ sec 0))))) (n + 1) = usedZ q n + k := by
  have hu := okRg_le h hn
  have e1 : mk (allQ q n (consZ nm (consZ (usedZ q n) (consZ k (consZ sec 0))))) n 1 = usedZ q n := by unfold allQ; rw [mk_upd_new hn, (item4 _ _ _ _).2.1, w64 (by omega) (by omega)]
  have e2 : mk (allQ q n (consZ nm (consZ (usedZ q n) (consZ k (consZ sec 0))))) n 2 = k := by unfold allQ; rw [mk_upd_new hn, (item4 _ _ _ _).2.2.1, w64 (by omega) (by omega)]
  refine ⟨fun i hi => ?_, ?_⟩
  · by_cases g : (i : Int) < n
    · have e3 := usedF_upd (q := q) (n := n) (x := consZ nm (consZ (usedZ q n) (consZ k (consZ sec 0)))) i (by omega)
      unfold allQ
      rw [mk_upd_old g, mk_upd_old g, e3]
      exact h i g
    · have e : (i : Int) = n := by omega
      have e3 := usedF_upd (q := q) (n := n) (x := consZ nm (consZ (usedZ q n) (consZ k (consZ sec 0)))) i (by omega)
      rw [e, e1, e2]
      have e4 : usedF (allQ q n (consZ nm (consZ (usedZ q n) (consZ k (consZ sec 0))))) i = usedZ q n := by unfold allQ; rw [e3]; show _ = usedF q n.toNat; congr 1; omega
      rw [e4]
      omega
  · have e3 := usedF_upd (q := q) (n := n) (x := consZ nm (consZ (usedZ q n) (consZ k (consZ sec 0)))) n.toNat (by omega)
    show usedF _ (n + 1).toNat = _
    rw [succ_i hn, usedF, nat_i hn, e2]
    have e4 : usedF (allQ q n (consZ nm (consZ (usedZ q n) (consZ k (consZ sec 0))))) n.toNat = usedZ q n := e3
    rw [e4, w64 (by omega) (by omega)]
/-- what is asked for, and granted -/
theorem allE_zero {q n nm k size used : Int} (h : allE q n (consZ nm (consZ k (consZ size (consZ used 0)))) = 0) (h0 : 0 ≤ used) (h1 : used ≤ size) (h2 : size ≤ 2048) : 1 ≤ k ∧ used + k ≤ size := by
  rw [allE_cons] at h
  rw [w64 (x := size - used) (by omega) (by omega)] at h
  repeat' split at h
  all_goals omega
/-! ### each address in one region -/
theorem b01_is0 (a : Bool) : (bool01 a == 0) = !a := by cases a <;> rfl
theorem b01_bne (a b : Bool) : (bool01 a != bool01 b) = (a != b) := by cases a <;> cases b <;> rfl
theorem b01_not1 (a : Bool) : (bool01 a != 1) = !a := by cases a <;> rfl
theorem int_bne (x y : Int) : (x != y) = !decide (x = y) := by by_cases h : x = y <;> simp [h]
theorem dec_ne_t (p q : Prop) [Decidable p] [Decidable q] : ((!decide p) != (!decide q)) = true ↔ ¬ (p ↔ q) := by by_cases hp : p <;> by_cases hq : q <;> simp [hp, hq]
theorem dec_ne_f (p q : Prop) [Decidable p] [Decidable q] : ((!decide p) != (!decide q)) = false ↔ (p ↔ q) := by by_cases hp : p <;> by_cases hq : q <;> simp [hp, hq]
theorem usedF_mono {q n : Int} (h : okRg q n) {i : Nat} : ∀ d : Nat, (i : Int) + d ≤ n → usedF q i ≤ usedF q (i + d)
  | 0, _ => by simp
  | d + 1, hd => by
    have h1 := usedF_mono h d (i := i) (by omega)
    have h2 := usedF_succ h (i := i + d) (by omega)
    have h3 := h (i + d) (by omega)
    rw [show i + (d + 1) = i + d + 1 by omega, h2]
    omega
theorem secF_at {q n a : Int} (h : okRg q n) {i : Nat} (h0 : usedF q i ≤ a) (h1 : a < usedF q i + mk q i 2) : ∀ k : Nat, (k : Int) ≤ n → i < k → (secF q k).getD a.toNat 0 = rdZ (rdZ q i) 3
  | 0, _, hi => by omega
  | k + 1, hk, hi => by
    have hl := secF_len h k (by omega)
    have hq := h i (by omega)
    have hu := okRg_used h i (by omega)
    rw [secF, List.getD_eq_getElem?_getD]
    by_cases g : i = k
    · subst g
      rw [List.getElem?_append_right (by omega), List.getElem?_replicate, if_pos (by omega)]; rfl
    · have h2 := usedF_succ h (i := i) (by omega)
      have h3 := usedF_mono h (i := i + 1) (k - (i + 1)) (by omega)
      rw [show i + 1 + (k - (i + 1)) = k by omega] at h3
      rw [List.getElem?_append_left (by omega), ← List.getD_eq_getElem?_getD]
      exact secF_at h h0 h1 k (by omega) (by omega)
theorem secC_at {q n a : Int} (h : okRg q n) {i : Int} (hi0 : 0 ≤ i) (hi : i < n) (h0 : usedF q i.toNat ≤ a) (h1 : a < usedF q i.toNat + mk q i 2) : rdZ (secC q n) a = rdZ (rdZ q i) 3 := by
  have := secF_at (a := a) h (i := i.toNat) h0 (by rw [nat_i hi0]; exact h1) n.toNat (by omega) (by omega)
  rw [nat_i hi0] at this
  unfold secC rdZ
  rw [ZL_LZ]
  exact this
/-- the address's region -/
theorem atZ_ok {q n a : Int} (h : okRg q n) (hn : 0 ≤ n) (ha : -9223372036854775808 ≤ a) (ha1 : a ≤ 9223372036854775807) : (0 ≤ atZ q n a ↔ 0 ≤ a ∧ a < usedZ q n) ∧
    (0 ≤ atZ q n a → atZ q n a < n ∧ usedF q (atZ q n a).toNat ≤ a ∧ a < usedF q (atZ q n a).toNat + mk q (atZ q n a) 2 ∧ mk q (atZ q n a) 1 = usedF q (atZ q n a).toNat) := by
  have inside : ∀ i : Nat, (i : Int) < n → ((mk q i 1 ≤ a ∧ IntKind.wrap .i64 (a - mk q i 1) < mk q i 2) ↔ (usedF q i ≤ a ∧ a < usedF q i + mk q i 2)) := fun i hi => by
    have h1 := h i hi
    have h2 := okRg_used h i (by omega)
    constructor
    · rintro ⟨g1, g2⟩
      rw [w64 (by omega) (by omega)] at g2
      omega
    · rintro ⟨g1, g2⟩
      rw [w64 (by omega) (by omega)]
      omega
  rcases ixZ_spec (fun i => mk q i 1 ≤ a ∧ IntKind.wrap .i64 (a - mk q i 1) < mk q i 2) n with ⟨h1, h2⟩ | ⟨h1, h2, h3, h4⟩
  · have e : atZ q n a = -1 := h1
    rw [e]
    refine ⟨⟨fun g => by omega, fun ⟨g1, g2⟩ => ?_⟩, fun g => by omega⟩
    exfalso
    have key : ∀ k : Nat, (k : Int) ≤ n → a < usedF q k → False := by
      intro k
      induction k with
      | zero => intro _ hk; simp [usedF] at hk; omega
      | succ k ih =>
        intro hk hlt
        by_cases g : a < usedF q k
        · exact ih (by omega) g
        · rw [usedF_succ h (by omega)] at hlt
          exact h2 k (by omega) ((inside k (by omega)).2 ⟨by omega, hlt⟩)
    exact key n.toNat (by omega) g2
  · have e : atZ q n a = ixZ (fun i => mk q i 1 ≤ a ∧ IntKind.wrap .i64 (a - mk q i 1) < mk q i 2) n := rfl
    rw [← e] at h1 h2 h3
    have h5 := (inside _ (by omega)).1 h3
    have h6 := okRg_used h (atZ q n a).toNat (by omega)
    have h7 := h (atZ q n a).toNat (by omega)
    have h8 := usedF_succ h (i := (atZ q n a).toNat) (by omega)
    have h9 := usedF_mono h (i := (atZ q n a).toNat + 1) (n.toNat - ((atZ q n a).toNat + 1)) (by omega)
    rw [show (atZ q n a).toNat + 1 + (n.toNat - ((atZ q n a).toNat + 1)) = n.toNat by omega] at h9
    rw [nat_i h1] at h5 h7 h8
    refine ⟨⟨fun _ => ⟨by omega, ?_⟩, fun _ => h1⟩, fun _ => ⟨h2, h5.1, h5.2, h7.1⟩⟩
    show a < usedF q n.toNat
    omega
theorem b01_eqb (a b : Bool) : (bool01 a = bool01 b) = (a = b) := by cases a <;> cases b <;> simp [bool01]
theorem b01_one (a : Bool) : (bool01 a = 1) = (a = true) := by cases a <;> simp [bool01]
theorem nd_eq (p q : Prop) [Decidable p] [Decidable q] : ((!decide p) = (!decide q)) = (p ↔ q) := by by_cases hp : p <;> by_cases hq : q <;> simp [hp, hq]
theorem nd_true (p : Prop) [Decidable p] : ((!decide p) = true) = ¬ p := by by_cases hp : p <;> simp [hp]
end Go.Eng
end
