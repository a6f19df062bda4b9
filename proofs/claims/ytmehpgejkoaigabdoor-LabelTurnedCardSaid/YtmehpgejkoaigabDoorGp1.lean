/-
  Parts of the engine, a program's symbolic run, proved sound; and of plain laws.
-/
import Derived.Test.YtmehpgejkoaigabDoorGu5
set_option linter.unusedVariables false
set_option linter.unusedSimpArgs false
/-!  -/
noncomputable section
namespace Go.Eng
theorem b01_eq (b : Bool) : (qQj b = 0) = (b = false) := by cases b <;> simp [qQj]
theorem iteZ_ne (t x y : Int) : iteZ t x y = if t ≠ 0 then x else y := rfl
theorem nrm : (∀ b : Bool, (qQj b = 0) = (b = false)) ∧ (∀ {p : Prop} [Decidable p], (decide p = true) = p) ∧ (∀ {p : Prop} {x : Decidable p}, decide p = false ↔ ¬ p) ∧
  (∀ {a b : Int}, (a == b) = true ↔ a = b) ∧ (∀ {a b : Int}, (a == b) = false ↔ a ≠ b) ∧ (∀ {a b : Int}, (a != b) = true ↔ a ≠ b) ∧ (∀ {a b : Int}, (a != b) = false ↔ a = b) ∧
  (∀ {a b : Int}, ¬ a ≤ b ↔ b < a) ∧ (∀ {a b : Int}, ¬ a < b ↔ b ≤ a) ∧ (∀ p : Prop, (True ∧ p) = p) ∧ (∀ p : Prop, (p ∧ True) = p) ∧ (∀ t x y : Int, iteZ t x y = if t ≠ 0 then x else y) ∧
  (∀ a b : Int, (a ≠ b) = ¬ a = b) ∧ (∀ b : Bool, (¬ b = false) = (b = true)) ∧ (∀ b : Bool, (¬ b = true) = (b = false)) ∧ ((¬ True) = False) ∧ ((¬ False) = True) ∧ (∀ {p : Prop} [Decidable p], ¬ ¬ p ↔ p) ∧
  (∀ p : Prop, (True → p) ↔ p) ∧ (∀ p : Prop, (False → p) = True) ∧ (∀ p : Prop, (True ↔ p) = p) ∧ (∀ p : Prop, (p ↔ True) = p) ∧ (∀ p : Prop, (False ↔ p) = ¬ p) ∧ (∀ p : Prop, (p ↔ False) = ¬ p) ∧
  (∀ a : Int, (a = a) = True) ∧ (∀ {x : Decidable True} (t e : Int), (if True then t else e) = t) ∧ (∀ {x : Decidable False} (t e : Int), (if False then t else e) = e) :=
 ⟨b01_eq, decide_eq_true_eq, decide_eq_false_iff_not, beq_iff_eq, beq_eq_false_iff_ne, bne_iff_ne, bne_eq_false_iff_eq, Int.not_le, Int.not_lt, true_and, and_true, iteZ_ne, fun _ _ => rfl, Bool.not_eq_false, Bool.not_eq_true, not_true_eq_false, not_false_eq_true, Decidable.not_not,
  fun p => ⟨fun h => h trivial, fun h _ => h⟩, false_implies, true_iff, iff_true, false_iff, iff_false, fun a => eq_self a, fun t e => if_true t e, fun t e => if_false t e⟩
end Go.Eng
end
/-!  -/
noncomputable section
namespace Go.Eng
end Go.Eng
end
/-!  -/
noncomputable section
namespace Go.Eng
theorem strOf_zero {s : Int} (h : qQt s = 0) : qQk s = ⟨#[]⟩ := by
 unfold qQk; rw [h]; rfl
theorem slen_cons (n x : Int) : qQt (qQz n x) = if n < 0 then 0 else if qZn < n then qZn else n := by
 unfold qQt; rw [qQx]
theorem strOf_empty : qQk (qQz 0 (qQz 0 0)) = ⟨#[]⟩ := strOf_zero (by rw [slen_cons]; rfl)
theorem seq_empty (s : Int) : seqZ s (qQz 0 (qQz 0 0)) ≠ 0 ↔ qQt s = 0 := by
 unfold seqZ
 rw [strOf_empty]
 constructor
 ·intro h
  split at h
  ·rename_i e
   have := qQr s
   rw [e] at this
   exact this.symm
  ·exact absurd rfl h
 ·intro h
  rw [if_pos (strOf_zero h)]
  decide
theorem seqZ_iff (s t : Int) : seqZ s t ≠ 0 ↔ qQk s = qQk t := by
 unfold seqZ; split <;> simp_all
theorem has_code {s b : Int} {B : ByteArray} (h : qQk s = B) : hasB s b = if 0 ≤ Lib.indexByte B.data.toList (UInt8.ofNat b.toNat) then 1 else 0 := by unfold hasB; rw [h]
def smallS : ByteArray := ⟨#[97, 98, 99, 100, 101, 102, 103, 104, 105, 106, 107, 108, 109, 110, 111, 112, 113, 114, 115, 116, 117, 118, 119, 120, 121, 122]⟩
def otherS : ByteArray := ⟨#[97, 98, 99, 100, 101, 102, 103, 104, 105, 106, 107, 108, 109, 110, 111, 112, 113, 114, 115, 116, 117, 118, 119, 120, 121, 122, 48, 49, 50, 51, 52, 53, 54, 55, 56, 57, 95]⟩
theorem rd_at2 (x y z : Int) : rdZ (qQz x (qQz y z)) 1 = y := by rw [qQb _ _ (by omega), show (1 : Int) - 1 = 0 by omega, qQx]
def chn : List Int → Int
 | [] => 0
 | x :: l => qQz x (chn l)
theorem rd_chn : ∀ (l : List Int) (i : Nat), rdZ (chn l) i = l.getD i 0
 | [], i => by simp [chn, rdZ_nil]
 | x :: l, 0 => by rw [chn]; exact qQx _ _
 | x :: l, i + 1 => by
  rw [chn, qQb _ _ (by omega), show ((i + 1 : Nat) : Int) - 1 = (i : Nat) by omega, rd_chn l i]
  simp
theorem str_chn (b : ByteArray) (n c : Int) (hn : n = b.size) (hc : c = chn (b.data.toList.map fun u => (u.toNat : Int))) (hb : b.size ≤ 1000000) : qQk (qQz n (qQz c 0)) = b := by
 subst hn hc
 refine strOf_eq (by rw [qQx]) hb fun i hi => ?_
 have hi' : i < b.data.size := hi
 rw [rd_at2, rd_chn]
 simp only [List.getD_eq_getElem?_getD, List.getElem?_map, Array.getElem?_toList, Array.getElem?_eq_getElem hi', Option.map_some, Option.getD_some]
 have := UInt8.toNat_lt b.data[i]
 omega
theorem small_code : qQk (qQz 26 (qQz (qQz 97 (qQz 98 (qQz 99 (qQz 100 (qQz 101 (qQz 102 (qQz 103 (qQz 104 (qQz 105 (qQz 106 (qQz 107 (qQz 108 (qQz 109 (qQz 110 (qQz 111 (qQz 112 (qQz 113 (qQz 114 (qQz 115 (qQz 116 (qQz 117 (qQz 118 (qQz 119 (qQz 120 (qQz 121 (qQz 122 0)))))))))))))))))))))))))) 0)) = smallS := str_chn smallS _ _ (by decide) rfl (by decide)
theorem other_code : qQk (qQz 37 (qQz (qQz 97 (qQz 98 (qQz 99 (qQz 100 (qQz 101 (qQz 102 (qQz 103 (qQz 104 (qQz 105 (qQz 106 (qQz 107 (qQz 108 (qQz 109 (qQz 110 (qQz 111 (qQz 112 (qQz 113 (qQz 114 (qQz 115 (qQz 116 (qQz 117 (qQz 118 (qQz 119 (qQz 120 (qQz 121 (qQz 122 (qQz 48 (qQz 49 (qQz 50 (qQz 51 (qQz 52 (qQz 53 (qQz 54 (qQz 55 (qQz 56 (qQz 57 (qQz 95 0))))))))))))))))))))))))))))))))))))) 0)) = otherS := str_chn otherS _ _ (by decide) rfl (by decide)
theorem small_ix : ∀ k : Fin 256, (0 ≤ Lib.indexByte smallS.data.toList (UInt8.ofNat k)) ↔ (97 ≤ k.val ∧ k.val ≤ 122) := by decide +kernel
theorem other_in : ∀ k : Fin 256, (otherS.data.toList.contains (UInt8.ofNat k) = true) ↔ ((97 ≤ k.val ∧ k.val ≤ 122) ∨ k.val = 95 ∨ (48 ≤ k.val ∧ k.val ≤ 57)) := by decide +kernel
theorem has_small {t b : Int} (h : qQk t = smallS) (h0 : 0 ≤ b) (h1 : b ≤ 255) : hasB t b ≠ 0 ↔ qXu b := by
 rw [has_code h]
 have := small_ix ⟨b.toNat, by omega⟩
 simp only at this
 unfold qXu
 split
 ·rename_i g
  have := this.1 g
  simp; omega
 ·rename_i g
  have h2 : ¬ (97 ≤ b.toNat ∧ b.toNat ≤ 122) := fun h => g (this.2 h)
  simp; omega
theorem sbyte_cut (s : Int) : qZx (qQz 1 (qQz (dropZ (rdZ s 1) 0) 0)) 0 = qZx s 0 := by
 unfold qZx
 rw [rd_at2]
 have := rdZ_drop (rdZ s 1) 0 0
 rw [this]; rfl
theorem qXh {α : Type} (p : α → Bool) : ∀ l : List α, l.dropWhile p = [] ↔ ∀ x ∈ l, p x = true
 | [] => by simp
 | x :: l => by
  have := qXh p l
  simp only [List.dropWhile]
  cases h : p x <;> simp [h, this]
theorem trimS_nil (l cs : List UInt8) : Lib.trimS l cs = [] ↔ ∀ x ∈ l, cs.contains x = true := by
 unfold Lib.trimS Lib.trimLeftS Lib.trimRightS
 constructor
 ·intro h x hx
  rw [qXh] at h
  by_cases g : ∀ y ∈ l.reverse, cs.contains y = true
  ·exact g x (by simpa using hx)
  ·have : l.reverse.dropWhile (cs.contains ·) ≠ [] := fun e => g ((qXh _ _).1 e)
   have h2 : (l.reverse.dropWhile (cs.contains ·)).head this ∈ (l.reverse.dropWhile (cs.contains ·)).reverse := by simp
   have h3 := h _ h2
   have h4 := List.head_dropWhile_not (p := fun x => cs.contains x) (l := l.reverse) this
   have h4 : cs.contains ((l.reverse.dropWhile (cs.contains ·)).head this) = false := by simpa using h4
   rw [h3] at h4
   cases h4
 ·intro h
  have : l.reverse.dropWhile (cs.contains ·) = [] := (qXh _ _).2 fun x hx => h x (by simpa using hx)
  rw [this]
  rfl
theorem slen_code (b : ByteArray) (h : (b.size : Int) ≤ qZn) : qQt (codeStr b) = b.size := by
 have := qQr (codeStr b)
 rw [code_strZ b h] at this
 exact this.symm
theorem strOf_mem (s : Int) (x : UInt8) : x ∈ (qQk s).data.toList ↔ ∃ i : Nat, (i : Int) < qQt s ∧ x = UInt8.ofNat (qZx s i).toNat := by
 have := qJi s
 have e : (qQk s).data.toList = (List.range (qQt s).toNat).map fun (i : Nat) => UInt8.ofNat (qZx s i).toNat := rfl
 rw [e, List.mem_map]
 constructor
 ·rintro ⟨i, h1, rfl⟩; exact ⟨i, by have := List.mem_range.1 h1; omega, rfl⟩
 ·rintro ⟨i, h1, rfl⟩; exact ⟨i, List.mem_range.2 (by omega), rfl⟩
theorem trim_other {s t : Int} (h : qQk t = otherS) : qQt (trimZ s t) = 0 ↔ ∀ i : Nat, (i : Int) < qQt s → otherB (qZx s i) := by
 unfold trimZ
 rw [h]
 have h1 := trimS_len (qQk s).data.toList otherS.data.toList
 have h2 : (⟨(Lib.trimS (qQk s).data.toList otherS.data.toList).toArray⟩ : ByteArray).size = (Lib.trimS (qQk s).data.toList otherS.data.toList).length := by
  show Array.size _ = _; simp
 have h3 : (qQk s).data.toList.length = (qQk s).size := by simp
 have h4 := qQr s
 have h5 := qJi s
 rw [slen_code _ (by omega), h2]
 have h6 := trimS_nil (qQk s).data.toList otherS.data.toList
 constructor
 ·intro g i hi
  have g2 := h6.1 (List.length_eq_zero_iff.1 (by omega)) _ ((strOf_mem s _).2 ⟨i, hi, rfl⟩)
  have hb := qKv s i
  have := (other_in ⟨(qZx s i).toNat, by omega⟩).1 g2
  simp only at this
  unfold otherB qXu
  omega
 ·intro g
  rw [h6.2 fun x hx => ?_]
  ·rfl
  ·obtain ⟨i, hi, rfl⟩ := (strOf_mem s _).1 hx
   have hb := qKv s i
   have := g i hi
   unfold otherB qXu at this
   exact (other_in ⟨(qZx s i).toNat, by omega⟩).2 (by simp only; omega)
theorem isZ_eq (s : Int) : (isZ s = 0) = ¬ isName s := by unfold isZ; split <;> simp_all
theorem seq_empty0 (s : Int) : (seqZ s (qQz 0 (qQz 0 0)) = 0) = ¬ (qQt s = 0) := by
 have := seq_empty s
 by_cases h : qQt s = 0 <;> simp_all
theorem slen_one (x : Int) : qQt (qQz 1 x) = 1 := by rw [slen_cons]; rfl
end Go.Eng
end
/-!  -/
noncomputable section
namespace Go.Eng
theorem slenZ_lit (l : List Int) (n : Int) (h : 0 ≤ n) (h2 : n ≤ qZn) (c : Int) : qQt (qQz n c) = n := by
 unfold qQt
 rw [qQx, if_neg (by omega), if_neg (by omega)]
end Go.Eng
end
/-!  -/
noncomputable section
namespace Go.Eng
def rokP (x : Int) : Prop := 1 ≤ qQt x ∧ ¬ seqZ (qQz 1 (qQz (dropZ (rdZ x 1) 0) 0)) (qQz 1 (qQz (qQz 114 0) 0)) = 0 ∧ ¬ numK (qQz (qQt x - 1) (qQz (dropZ (rdZ x 1) 1) 0)) = 0
noncomputable instance (x : Int) : Decidable (rokP x) := by unfold rokP; infer_instance
end Go.Eng
end
/-!  -/
noncomputable section
namespace Go.Eng
set_option maxRecDepth 10000
end Go.Eng
end
/-!  -/
noncomputable section
namespace Go.Eng
theorem mfN_spec (p : Nat → Prop) : ∀ (n i : Nat), (mfN p i n = -1 ∧ ∀ j, i ≤ j → j < i + n → ¬ p j) ∨ ∃ j, i ≤ j ∧ j < i + n ∧ mfN p i n = (j : Int) ∧ p j ∧ ∀ k, i ≤ k → k < j → ¬ p k
 | 0, i => .inl ⟨rfl, fun j h1 h2 => by omega⟩
 | n + 1, i => by
  simp only [mfN]
  by_cases hp : p i
  ·exact .inr ⟨i, Nat.le_refl _, by omega, if_pos hp, hp, fun k h1 h2 => by omega⟩
  ·rw [if_neg hp]
   rcases mfN_spec p n (i + 1) with ⟨h1, h2⟩ | ⟨j, h1, h2, h3, h4, h5⟩
   ·refine .inl ⟨h1, fun j h3 h4 => ?_⟩
    rcases Nat.eq_or_lt_of_le h3 with rfl | h5
    ·exact hp
    ·exact h2 j h5 (by omega)
   ·refine .inr ⟨j, by omega, by omega, h3, h4, fun k h6 h7 => ?_⟩
    rcases Nat.eq_or_lt_of_le h6 with rfl | h8
    ·exact hp
    ·exact h5 k h8 h7
noncomputable abbrev nmOf (q : Int) (i : Nat) : ByteArray := qQk (rdZ (rdZ q i) 0)
theorem mfs_spec {q n s : Int} (h0 : 0 ≤ n) (h1 : n ≤ 1000000) : (mfsZ q n s = -1 ∧ ∀ j : Nat, (j : Int) < n → nmOf q j ≠ qQk s) ∨ ∃ j : Nat, (j : Int) < n ∧ mfsZ q n s = j ∧ nmOf q j = qQk s ∧ ∀ k : Nat, k < j → nmOf q k ≠ qQk s := by
 have hm : min n.toNat qXn = n.toNat := by unfold qXn; omega
 unfold mfsZ
 rw [hm]
 rcases mfN_spec (fun i => qQk (rdZ (rdZ q i) 0) = qQk s) n.toNat 0 with ⟨g1, g2⟩ | ⟨j, _, g2, g3, g4, g5⟩
 ·exact .inl ⟨g1, fun j hj => g2 j (Nat.zero_le _) (by omega)⟩
 ·exact .inr ⟨j, by omega, g3, g4, fun k hk => g5 k (Nat.zero_le _) hk⟩
theorem mfs_no {q n s : Int} (h0 : 0 ≤ n) (h1 : n ≤ 1000000) (h : ∀ j : Nat, (j : Int) < n → nmOf q j ≠ qQk s) : mfsZ q n s = -1 := by
 rcases mfs_spec (q := q) (s := s) h0 h1 with ⟨g, _⟩ | ⟨j, g1, _, g3, _⟩
 ·exact g
 ·exact absurd g3 (h j g1)
theorem mfs_at {q n s : Int} {k : Nat} (h1 : n ≤ 1000000) (hk : (k : Int) < n) (he : nmOf q k = qQk s) (hb : ∀ j : Nat, j < k → nmOf q j ≠ qQk s) : mfsZ q n s = k := by
 rcases mfs_spec (q := q) (s := s) (by omega) h1 with ⟨_, g⟩ | ⟨j, g1, g2, g3, g4⟩
 ·exact absurd he (g k hk)
 ·rcases Nat.lt_trichotomy j k with h | h | h
  ·exact absurd g3 (hb j h)
  ·rw [g2, h]
  ·exact absurd he (g4 k h)
theorem isZ_01 (s : Int) : isZ s = 0 ∨ isZ s = 1 := by have := isZ_bd s; omega
theorem rd_zu0 (uq u : Int) : rdZ (qQz uq (qQz u 0)) 0 = uq := qQx _ _
theorem rd_zu1 (uq u : Int) : rdZ (qQz uq (qQz u 0)) 1 = u := by rw [qQb _ _ (by decide)]; exact qQx _ _
theorem lck_spec {q n uq u : Int} (h0 : 0 ≤ u) (h1 : u ≤ 1000000) : (lckZ q n (qQz uq (qQz u 0)) = -1 ∧ ∀ j : Nat, (j : Int) < u → 0 ≤ mfsZ q n (rdZ (rdZ uq j) 0)) ∨
  ∃ j : Nat, (j : Int) < u ∧ lckZ q n (qQz uq (qQz u 0)) = j ∧ mfsZ q n (rdZ (rdZ uq j) 0) < 0 ∧ ∀ k : Nat, k < j → 0 ≤ mfsZ q n (rdZ (rdZ uq k) 0) := by
 have hm : min u.toNat qXn = u.toNat := by unfold qXn; omega
 unfold lckZ
 rw [rd_zu0, rd_zu1, hm]
 rcases mfN_spec (fun i => mfsZ q n (rdZ (rdZ uq i) 0) < 0) u.toNat 0 with ⟨g1, g2⟩ | ⟨j, _, g2, g3, g4, g5⟩
 ·exact .inl ⟨g1, fun j hj => Int.not_lt.1 (g2 j (Nat.zero_le _) (by omega))⟩
 ·exact .inr ⟨j, by omega, g3, g4, fun k hk => Int.not_lt.1 (g5 k (Nat.zero_le _) hk)⟩
theorem lck_no {q n uq u : Int} (h0 : 0 ≤ u) (h1 : u ≤ 1000000) (h : ∀ j : Nat, (j : Int) < u → 0 ≤ mfsZ q n (rdZ (rdZ uq j) 0)) : lckZ q n (qQz uq (qQz u 0)) = -1 := by
 rcases lck_spec (q := q) (n := n) (uq := uq) h0 h1 with ⟨g, _⟩ | ⟨j, g1, _, g3, _⟩
 ·exact g
 ·have := h j g1; omega
theorem lck_at {q n uq u : Int} {k : Nat} (h1 : u ≤ 1000000) (hk : (k : Int) < u) (he : mfsZ q n (rdZ (rdZ uq k) 0) < 0) (hb : ∀ j : Nat, j < k → 0 ≤ mfsZ q n (rdZ (rdZ uq j) 0)) : lckZ q n (qQz uq (qQz u 0)) = k := by
 rcases lck_spec (q := q) (n := n) (uq := uq) (u := u) (by omega) h1 with ⟨_, g⟩ | ⟨j, g1, g2, g3, g4⟩
 ·have := g k hk; omega
 ·rcases Nat.lt_trichotomy j k with h | h | h
  ·have := hb j h; omega
  ·rw [g2, h]
  ·have := g4 k h; omega
theorem fix_eq (q n uq u : Int) : fixZ q n (qQz uq (qQz u 0)) = LZ ((List.range u.toNat).map (fixF q n uq)) := by unfold fixZ; rw [rd_zu0, rd_zu1]
theorem fix_snoc {q n uq y i : Int} (h0 : 0 ≤ i) (h : Rw y ((List.range i.toNat).map (fixF q n uq))) : Rw (updZ y i (qQz (IntKind.wrap .i64 (rdZ (rdZ uq i) 1)) (qQz (IntKind.wrap .i64 (rdZ (rdZ q (mfsZ q n (rdZ (rdZ uq i) 0))) 1)) 0))) ((List.range (i + 1).toNat).map (fixF q n uq)) := by
 rw [show (i + 1).toNat = i.toNat + 1 by omega, List.range_succ, List.map_append, List.map_singleton]
 have e : fixF q n uq i.toNat = qQz (IntKind.wrap .i64 (rdZ (rdZ uq i) 1)) (qQz (IntKind.wrap .i64 (rdZ (rdZ q (mfsZ q n (rdZ (rdZ uq i) 0))) 1)) 0) := by
  unfold fixF; rw [Int.toNat_of_nonneg h0]
 rw [← e]
 exact Go.Eng.Rw.snoc h (by rw [List.length_map, List.length_range]; omega)
noncomputable abbrev txs (z : Int) (m : Nat) : List (List UInt8) := (List.range m).map fun (j : Nat) => bytL (rdZ z j)
noncomputable abbrev txq (q : Int) (m : Nat) : List (List UInt8) := (List.range m).map fun (j : Nat) => bytL (rdZ (rdZ q j) 0)
theorem sby_lit (n q i : Int) : qZx (qQz n (qQz q 0)) i = rdZ q i % 256 := by
 unfold qZx
 rw [qQb _ _ (by decide)]
 exact congrArg (fun x => rdZ x i % 256) (qQx _ _)
theorem is_a : isZ (qQz 1 (qQz (qQz 97 0) 0)) = 1 := by
 unfold isZ isName
 rw [if_pos]
 rw [slenZ_lit [] 1 (by omega) (by unfold qZn; omega)]
 refine ⟨by omega, by omega, ?_, fun i hi => ?_⟩
 ·rw [sby_lit, qQx]; unfold qXu; omega
 ·rw [sby_lit, show (i : Int) = 0 by omega, qQx]; unfold otherB qXu; omega
theorem is_A : isZ (qQz 1 (qQz (qQz 65 0) 0)) = 0 := by
 unfold isZ isName
 rw [if_neg]
 rintro ⟨_, _, h, _⟩
 rw [sby_lit, qQx] at h
 unfold qXu at h; omega
theorem is_a1 : isZ (qQz 3 (qQz (qQz 97 (qQz 95 (qQz 49 0))) 0)) = 1 := by
 unfold isZ isName
 rw [if_pos]
 rw [slenZ_lit [] 3 (by omega) (by unfold qZn; omega)]
 refine ⟨by omega, by omega, ?_, fun i hi => ?_⟩
 ·rw [sby_lit, qQx]; unfold qXu; omega
 ·rw [sby_lit]
  rcases (by omega : i = 0 ∨ i = 1 ∨ i = 2) with rfl | rfl | rfl
  ·rw [show ((0 : Nat) : Int) = 0 by rfl, qQx]; unfold otherB qXu; omega
  ·rw [qQb _ _ (by omega), show ((1 : Nat) : Int) - 1 = 0 by omega, qQx]; unfold otherB qXu; omega
  ·rw [qQb _ _ (by omega), qQb _ _ (by omega), show ((2 : Nat) : Int) - 1 - 1 = 0 by omega, qQx]; unfold otherB qXu; omega
theorem is_1a : isZ (qQz 2 (qQz (qQz 49 (qQz 97 0)) 0)) = 0 := by
 unfold isZ isName
 rw [if_neg]
 rintro ⟨_, _, h, _⟩
 rw [sby_lit, qQx] at h
 unfold qXu at h; omega
theorem mfs_0 (q s : Int) : mfsZ q 0 s = -1 := mfs_no (by omega) (by omega) fun j hj => by omega
theorem upd_00 (c x : Int) : rdZ (updZ c 0 x) ((0 : Nat) : Int) = x := by rw [qZu]; exact if_pos (by simp)
theorem nm_upd (s x : Int) : nmOf (updZ 0 0 (qQz s x)) 0 = qQk s := by
 unfold nmOf
 rw [upd_00, qQx]
theorem mfs_1 (s x : Int) : mfsZ (updZ 0 0 (qQz s x)) 1 s = 0 := mfs_at (k := 0) (by omega) (by omega) (nm_upd s x) fun j hj => by omega
theorem lck_1 (s x y : Int) : lckZ (updZ 0 0 (qQz s x)) 1 (qQz (updZ 0 0 (qQz s y)) (qQz 1 0)) = -1 := lck_no (by omega) (by omega) fun j hj => by
 obtain rfl : j = 0 := by omega
 rw [upd_00, qQx, mfs_1]
 omega
theorem smf_1 (s : Int) : smfZ (fixZ (updZ 0 0 (qQz s (qQz 7 0))) 1 (qQz (updZ 0 0 (qQz s (qQz 3 0))) (qQz 1 0))) (qQz (qQz 3 (qQz 7 0)) 0) 1 = 1 := by
 unfold smfZ
 rw [if_pos]
 intro i hi
 obtain rfl : i = 0 := by omega
 rw [fix_eq]
 have e : rdZ (LZ ((List.range (1 : Int).toNat).map (fixF (updZ 0 0 (qQz s (qQz 7 0))) 1 (updZ 0 0 (qQz s (qQz 3 0)))))) (0 : Nat) = fixF (updZ 0 0 (qQz s (qQz 7 0))) 1 (updZ 0 0 (qQz s (qQz 3 0))) 0 := by
  rw [rdZ_LZ]; rfl
 rw [e]
 unfold fixF
 rw [upd_00, qQx, mfs_1]
 have e2 : rdZ (updZ 0 0 (qQz s (qQz 7 0))) 0 = qQz s (qQz 7 0) := upd_00 _ _
 rw [e2]
 have e1 : ∀ x y : Int, rdZ (qQz x (qQz y 0)) 1 = y := fun x y => by rw [qQb _ _ (by decide)]; exact qQx _ _
 rw [e1, e1, show ((0 : Nat) : Int) = 0 by rfl, qQx]
 rfl
theorem smf_self (c n : Int) : smfZ c c n = 1 := if_pos fun _ _ => rfl
theorem sam_self (c n : Int) : samT c c n = 1 := if_pos fun _ _ => rfl
theorem seq_self (c : Int) : seqZ c c = 1 := if_pos rfl
end Go.Eng
end
