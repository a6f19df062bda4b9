/-
  Parts of the engine, a program's symbolic run, proved sound; and of plain laws.
-/
import Derived.Test.YtkjbmbmdmhfbeacDoorGu5
set_option linter.unusedVariables false
set_option linter.unusedSimpArgs false
/-!  -/
noncomputable section
namespace Go.Eng
theorem b01_eq (b : Bool) : (qQq b = 0) = (b = false) := by cases b <;> simp [qQq]
theorem b01_iff (b : Bool) : (qQq b ≠ 0 ↔ b = true) := by cases b <;> simp [qQq]
theorem iteZ_ne (t x y : Int) : iteZ t x y = if t ≠ 0 then x else y := rfl
theorem quo_pos {y k : Int} (h : 0 ≤ y) (h2 : y ≤ 9223372036854775807) (hk : 0 < k) : BO.ev .quo .i64 y k = y / k := by
 show IntKind.wrap .i64 (y.tdiv k) = _
 rw [Int.tdiv_eq_ediv_of_nonneg h]
 have h1 : 0 ≤ y / k := Int.ediv_nonneg h (by omega)
 have h3 : y / k ≤ y := Int.ediv_le_self k h
 exact qZc .i64 _ (by show (-9223372036854775808 : Int) ≤ _; omega) (by show _ ≤ (9223372036854775807 : Int); omega)
theorem rem_pos {y k : Int} (h : 0 ≤ y) : BO.ev .rem .i64 y k = y % k := by
 show y.tmod k = _
 exact Int.tmod_eq_emod_of_nonneg h
theorem w64 {x : Int} (h1 : -9223372036854775808 ≤ x) (h2 : x ≤ 9223372036854775807) : IntKind.wrap .i64 x = x := qZc .i64 _ h1 h2
theorem w64_id (x : Int) : IntKind.wrap .i64 (IntKind.wrap .i64 x) = IntKind.wrap .i64 x := wrap_wrap .i64 .i64 x (by decide)
theorem u8_bd (x : Int) : 0 ≤ IntKind.wrap .u8 x ∧ IntKind.wrap .u8 x ≤ 255 := wrap_bd .u8 x
theorem w8 {x : Int} (h1 : 0 ≤ x) (h2 : x ≤ 255) : IntKind.wrap .u8 x = x := qZc .u8 _ h1 h2
theorem sameZ_iff (c d n : Int) : qKc c d n ≠ 0 ↔ ∀ i : Nat, (i : Int) < n → IntKind.wrap .i64 (rdZ c i) = IntKind.wrap .i64 (rdZ d i) := by
 unfold qKc; split <;> simp_all
theorem ob_le {a b : Int} {X : Prop} : ((a ≤ b → X) ∧ (b < a → False)) ↔ (a ≤ b ∧ X) := ⟨fun h => by by_cases g : a ≤ b; exact ⟨g, h.1 g⟩; exact (h.2 (by omega)).elim, fun h => ⟨fun _ => h.2, fun g => by omega⟩⟩
theorem ob_lt {a b : Int} {X : Prop} : ((a < b → X) ∧ (b ≤ a → False)) ↔ (a < b ∧ X) := ⟨fun h => by by_cases g : a < b; exact ⟨g, h.1 g⟩; exact (h.2 (by omega)).elim, fun h => ⟨fun _ => h.2, fun g => by omega⟩⟩
theorem ob_p {p X : Prop} : ((p → X) ∧ (¬ p → False)) ↔ (p ∧ X) := ⟨fun h => by by_cases g : p; exact ⟨g, h.1 g⟩; exact (h.2 g).elim, fun h => ⟨fun _ => h.2, fun g => g h.1⟩⟩
theorem ob_n {p X : Prop} : ((¬ p → X) ∧ (p → False)) ↔ (¬ p ∧ X) := ⟨fun h => by by_cases g : p; exact (h.2 g).elim; exact ⟨g, h.1 g⟩, fun h => ⟨fun _ => h.2, fun g => h.1 g⟩⟩
theorem nrm : (∀ b : Bool, (qQq b = 0) = (b = false)) ∧ (∀ {p : Prop} [Decidable p], (decide p = true) = p) ∧ (∀ {p : Prop} {x : Decidable p}, decide p = false ↔ ¬ p) ∧
  (∀ {a b : Int}, (a == b) = true ↔ a = b) ∧ (∀ {a b : Int}, (a == b) = false ↔ a ≠ b) ∧ (∀ {a b : Int}, (a != b) = true ↔ a ≠ b) ∧ (∀ {a b : Int}, (a != b) = false ↔ a = b) ∧
  (∀ {a b : Int}, ¬ a ≤ b ↔ b < a) ∧ (∀ {a b : Int}, ¬ a < b ↔ b ≤ a) ∧ (∀ p : Prop, (True ∧ p) = p) ∧ (∀ p : Prop, (p ∧ True) = p) ∧ (∀ t x y : Int, iteZ t x y = if t ≠ 0 then x else y) ∧
  (∀ a b : Int, (a ≠ b) = ¬ a = b) ∧ (∀ b : Bool, (¬ b = false) = (b = true)) ∧ (∀ b : Bool, (¬ b = true) = (b = false)) ∧ ((¬ True) = False) ∧ ((¬ False) = True) ∧ (∀ {p : Prop} [Decidable p], ¬ ¬ p ↔ p) ∧
  (∀ p : Prop, (True → p) ↔ p) ∧ (∀ p : Prop, (False → p) = True) ∧ (∀ p : Prop, (True ↔ p) = p) ∧ (∀ p : Prop, (p ↔ True) = p) ∧ (∀ p : Prop, (False ↔ p) = ¬ p) ∧ (∀ p : Prop, (p ↔ False) = ¬ p) ∧
  (∀ a : Int, (a = a) = True) ∧ (∀ {x : Decidable True} (t e : Int), (if True then t else e) = t) ∧ (∀ {x : Decidable False} (t e : Int), (if False then t else e) = e) :=
 ⟨b01_eq, decide_eq_true_eq, decide_eq_false_iff_not, beq_iff_eq, beq_eq_false_iff_ne, bne_iff_ne, bne_eq_false_iff_eq, Int.not_le, Int.not_lt, true_and, and_true, iteZ_ne, fun _ _ => rfl, Bool.not_eq_false, Bool.not_eq_true, not_true_eq_false, not_false_eq_true, Decidable.not_not,
  fun p => ⟨fun h => h trivial, fun h _ => h⟩, false_implies, true_iff, iff_true, false_iff, iff_false, fun a => eq_self a, fun t e => if_true t e, fun t e => if_false t e⟩
theorem nro : (∀ {a b : Int} {X : Prop}, ((a ≤ b → X) ∧ (b < a → False)) ↔ (a ≤ b ∧ X)) ∧ (∀ {a b : Int} {X : Prop}, ((a < b → X) ∧ (b ≤ a → False)) ↔ (a < b ∧ X)) ∧ (∀ {p X : Prop}, ((p → X) ∧ (¬ p → False)) ↔ (p ∧ X)) ∧ (∀ {p X : Prop}, ((¬ p → X) ∧ (p → False)) ↔ (¬ p ∧ X)) :=
 ⟨ob_le, ob_lt, ob_p, ob_n⟩
end Go.Eng
end
/-!  -/
noncomputable section
namespace Go.Eng
end Go.Eng
end
/-!  -/
noncomputable section
namespace Go.Eng
theorem nat_i {i : Int} (h : 0 ≤ i) : ((i.toNat : Nat) : Int) = i := Int.toNat_of_nonneg h
theorem compUpTo {d : Array Int} (hs : ∀ i j : Nat, i < j → j < d.size → d[i]! ≤ d[j]!) : ∀ k : Nat, k ≤ d.size →
  (Lib.compactUpTo d k).Pairwise (· < ·) ∧ (∀ x, x ∈ Lib.compactUpTo d k ↔ ∃ j, j < k ∧ d[j]! = x)
 | 0, _ => by simp [Lib.compactUpTo]
 | k + 1, hk => by
  obtain ⟨h1, h2⟩ := compUpTo hs k (by omega)
  rw [Lib.compactUpTo_succ]
  by_cases hkeep : Lib.keeps d k = true
  ·rw [if_pos hkeep]
   unfold Lib.keeps at hkeep
   simp only [decide_eq_true_eq] at hkeep
   refine ⟨List.pairwise_append.2 ⟨h1, List.pairwise_singleton _ _, fun a ha b hb => ?_⟩, fun x => ?_⟩
   ·obtain ⟨j, hj, rfl⟩ := (h2 a).1 ha
    have hb : b = d[k]! := by simpa using hb
    subst hb
    rcases hkeep with h0 | h0
    ·omega
    ·have g1 := hs (k - 1) k (by omega) (by omega)
     have g2 : d[j]! ≤ d[k - 1]! := by
      by_cases e : j = k - 1
      ·subst e; exact Int.le_refl _
      ·exact hs j (k - 1) (by omega) (by omega)
     omega
   ·simp only [List.mem_append, List.mem_singleton, h2]
    constructor
    ·rintro (⟨j, hj, rfl⟩ | rfl)
     ·exact ⟨j, by omega, rfl⟩
     ·exact ⟨k, by omega, rfl⟩
    ·rintro ⟨j, hj, rfl⟩
     by_cases e : j = k
     ·subst e; exact .inr rfl
     ·exact .inl ⟨j, by omega, rfl⟩
  ·rw [if_neg hkeep, List.append_nil]
   unfold Lib.keeps at hkeep
   simp only [decide_eq_true_eq, not_or, Decidable.not_not] at hkeep
   refine ⟨h1, fun x => ?_⟩
   rw [h2]
   constructor
   ·rintro ⟨j, hj, rfl⟩; exact ⟨j, by omega, rfl⟩
   ·rintro ⟨j, hj, rfl⟩
    by_cases e : j = k
    ·subst e; exact ⟨j - 1, by omega, hkeep.2.symm⟩
    ·exact ⟨j, by omega, rfl⟩
theorem compact_sorted (l : List Int) : (Lib.compact (sortL l)).Pairwise (· < ·) ∧ ∀ x, x ∈ Lib.compact (sortL l) ↔ x ∈ l := by
 have hp : (sortL l).Pairwise (· ≤ ·) := by
  have := List.pairwise_mergeSort (le := fun x y : Int => decide (x ≤ y)) (fun a b c h1 h2 => by simp at *; omega) (fun a b => by simp; omega) l
  exact this.imp fun h => by simpa using h
 have hget : ∀ i : Nat, i < (sortL l).length → (sortL l).toArray[i]! = (sortL l)[i]! := fun i hi => by simp [hi]
 have := compUpTo (d := (sortL l).toArray) (fun i j hij hj => by
  have hj' : j < (sortL l).length := by simpa using hj
  rw [hget i (by omega), hget j hj', getElem!_pos (sortL l) i (by omega), getElem!_pos (sortL l) j hj']
  exact List.pairwise_iff_getElem.1 hp i j (by omega) hj' hij) (sortL l).length (by simp)
 refine ⟨this.1, fun x => (this.2 x).trans ?_⟩
 rw [← (List.mergeSort_perm l (fun x y => decide (x ≤ y))).mem_iff (a := x)]
 show _ ↔ x ∈ sortL l
 constructor
 ·rintro ⟨j, hj, rfl⟩
  rw [hget j hj, getElem!_pos (sortL l) j hj]
  exact List.getElem_mem hj
 ·intro hx
  obtain ⟨j, hj, rfl⟩ := List.mem_iff_getElem.1 hx
  exact ⟨j, hj, by rw [hget j hj, getElem!_pos (sortL l) j hj]⟩
theorem rowL_rw {q n : Int} {L : List Int} (h : Rw q L) (hn : n = L.length) (hb : ∀ x ∈ L, -9223372036854775808 ≤ x ∧ x ≤ 9223372036854775807) : rowL q n = L := by
 subst hn
 apply List.ext_getElem?
 intro i
 by_cases hi : i < L.length
 ·rw [rowL_get _ _ (by simpa using hi), h i hi, List.getElem?_eq_getElem hi, List.getD_eq_getElem?_getD, List.getElem?_eq_getElem hi, Option.getD_some]
  have := hb _ (List.getElem_mem hi)
  rw [w64 this.1 this.2]
 ·rw [List.getElem?_eq_none (by simp [rowL_len]; omega), List.getElem?_eq_none (by omega)]
theorem sortL_mem {l : List Int} {x : Int} : x ∈ sortL l ↔ x ∈ l := (List.mergeSort_perm l _).mem_iff
theorem sortL_len (l : List Int) : (sortL l).length = l.length := List.length_mergeSort l
end Go.Eng
end
/-!  -/
noncomputable section
namespace Go.Eng
theorem seqZ_iff (s t : Int) : seqZ s t ≠ 0 ↔ qQo s = qQo t := by
 unfold seqZ; split <;> simp_all
def chn : List Int → Int
 | [] => 0
 | x :: l => qQz x (chn l)
theorem rd_chn : ∀ (l : List Int) (i : Nat), rdZ (chn l) i = l.getD i 0
 | [], i => by simp [chn, rdZ_nil]
 | x :: l, 0 => by rw [chn]; exact qQy _ _
 | x :: l, i + 1 => by
  rw [chn, qQp _ _ (by omega), show ((i + 1 : Nat) : Int) - 1 = (i : Nat) by omega, rd_chn l i]
  simp
theorem sameB_ne (c d n : Int) : (sameB c d n = 0) = ¬ (∀ i : Nat, (i : Int) < n → (rdZ c i ≠ 0 ↔ rdZ d i ≠ 0)) := by
 unfold sameB; split <;> simp_all
end Go.Eng
end
/-!  -/
noncomputable section
namespace Go.Eng
theorem shr_ev (k : IntKind) (x s : Int) : BO.ev .shr k x s = x / 2 ^ (Nat.min s.toNat k.bits) := by
 show x.fdiv (2 ^ _) = _
 rw [Int.fdiv_eq_ediv_of_nonneg _ (Int.le_of_lt (Int.pow_pos (by decide)))]
theorem wu32 (x : Int) : IntKind.wrap .u32 x = x % 4294967296 := by simp [IntKind.wrap, IntKind.bits, IntKind.signed]
theorem sh0 (w : Int) : shrZ .u32 w 0 = w := by rw [show shrZ .u32 w 0 = w / 1 from shr_ev .u32 w 0]; omega
def I64 (x : Int) : Prop := -9223372036854775808 ≤ x ∧ x ≤ 9223372036854775807
def Mac.ok (m : Mac) : Prop := I64 m.pc ∧ I64 m.st ∧ I64 m.co ∧ 0 ≤ m.nm
structure Inv (w c1 n0 n1 : Int) (m : Mac) : Prop where
 ok : m.ok
 co : m.co = costF m.mq m.nm.toNat
 mks : ∀ i : Nat, (i : Int) < m.nm → (0 ≤ mk m.mq i 0 ∧ mk m.mq i 0 < n0) ∧ (-1 ≤ mk m.mq i 1 ∧ mk m.mq i 1 < n1) ∧ (1 ≤ mk m.mq i 2 ∧ mk m.mq i 2 ≤ 34)
 mem : ∀ i : Int, 0 ≤ i → i < n1 → (∃ k : Nat, (k : Int) < m.nm ∧ mk m.mq k 1 = i ∧ IntKind.wrap .u32 (rdZ w (mk m.mq k 0)) / 67108864 = 35) ∨ IntKind.wrap .i32 (rdZ m.rm i) = IntKind.wrap .i32 (rdZ c1 i)
section
variable {w c1 n0 n1 : Int} {m : Mac}
end
end Go.Eng
end
/-!  -/
noncomputable section
namespace Go.Eng
abbrev b32 (x : Int) : BitVec 32 := BitVec.ofInt 32 x
theorem two32 : (((2 ^ 32 : Nat)) : Int) = 4294967296 := by decide
theorem b_toNat (x : Int) : ((b32 x).toNat : Int) = x % 4294967296 := by
 rw [BitVec.toNat_ofInt, two32]; omega
def bt (Z : BitVec 32) (i : Nat) : Int := if Z.getLsbD i then 1 else 0
theorem sameW_one {c d n : Int} (h : ∀ j : Int, 0 ≤ j → j < n → IntKind.wrap .i32 (rdZ c j) = IntKind.wrap .i32 (rdZ d j)) : qJp c d n = 1 := by
 unfold qJp; exact if_pos (fun (i : Nat) hi => h (i : Int) (Int.natCast_nonneg i) hi)
end Go.Eng
end
/-!  -/
noncomputable section
namespace Go.Eng
section
variable {rg rm pc st co mq nm d a b n nr : Int}
end
section
variable {c0 c1 n1 i rg rm pc st co mq nm xrg xrm xpc xst xmq xnm xg xm xp xs xq xn B S : Int} {k : Nat}
end
section
variable {wq nr rg rm pc st mq nm A B B' p s Q n : Int} {k : Nat}
end
section
variable {rg rm pc st co co' mq nm d a b n nr op : Int}
end
section
variable {wq nr rg rm pc st mq nm A p s Q n nc : Int} {k : Nat}
end
end Go.Eng
end
/-!  -/
noncomputable section
namespace Go.Eng
end Go.Eng
end
/-!  -/
noncomputable section
namespace Go.Eng
def turned (a b : Int) (k : Int) : Prop := 0 ≤ k - a ∧ k - a ≤ 15 ∧ b / 2 ^ (15 - (k - a).toNat) % 2 = 1
instance (a b k : Int) : Decidable (turned a b k) := by unfold turned; infer_instance
theorem str_congr {n q q' : Int} (h : ∀ i : Nat, (i : Int) < n → rdZ q i % 256 = rdZ q' i % 256) (hn : n ≤ 1000000) : qQo (qQz n (qQz q 0)) = qQo (qQz n (qQz q' 0)) := by
 have e1 : ∀ q : Int, slenZ (qQz n (qQz q 0)) = if n < 0 then 0 else n := fun q => by
  unfold slenZ strMax; rw [qQy]; split
  ·rfl
  ·rw [if_neg (by omega)]
 have e2 : ∀ (q i : Int), qJd (qQz n (qQz q 0)) i = rdZ q i % 256 := fun q i => by
  unfold qJd; rw [qQp _ _ (by omega), show (1 : Int) - 1 = 0 by omega, qQy]
 unfold qQo
 rw [e1, e1]
 congr 2
 refine List.map_congr_left fun i hi => ?_
 rw [e2, e2, h i (by simp at hi; split at hi <;> omega)]
end Go.Eng
end
/-!  -/
noncomputable section
namespace Go.Eng
theorem nodup_len : ∀ (d l : List Int), d.Nodup → (∀ x ∈ d, x ∈ l) → d.length ≤ l.length
 | [], _, _, _ => Nat.zero_le _
 | x :: d, l, hd, h => by
  obtain ⟨h1, h2⟩ := List.nodup_cons.1 hd
  have hx : x ∈ l := h x List.mem_cons_self
  have := nodup_len d (l.erase x) h2 fun y hy => (List.mem_erase_of_ne (fun e => h1 (by rw [← e]; exact hy))).2 (h y (List.mem_cons_of_mem _ hy))
  rw [List.length_erase_of_mem hx] at this
  have hp : 0 < l.length := List.length_pos_of_mem hx
  simp only [List.length_cons]; omega
theorem dup_short : ∀ l : List Int, ¬ l.Nodup → ∃ m : List Int, m.length < l.length ∧ ∀ x ∈ l, x ∈ m
 | [], h => absurd List.nodup_nil h
 | a :: t, h => by
  by_cases ha : a ∈ t
  ·exact ⟨t, by simp, fun x hx => (List.mem_cons.1 hx).elim (fun e => e ▸ ha) id⟩
  ·obtain ⟨m, h1, h2⟩ := dup_short t fun hn => h (List.nodup_cons.2 ⟨ha, hn⟩)
   exact ⟨a :: m, by simpa using h1, fun x hx => (List.mem_cons.1 hx).elim (fun e => e ▸ List.mem_cons_self) fun hx => List.mem_cons_of_mem _ (h2 x hx)⟩
theorem len_nodup {d l : List Int} (hd : d.Nodup) (h : ∀ x, x ∈ d ↔ x ∈ l) : d.length = l.length ↔ l.Nodup := by
 constructor
 ·intro e
  refine Classical.byContradiction fun hn => ?_
  obtain ⟨m, h1, h2⟩ := dup_short l hn
  have := nodup_len d m hd fun x hx => h2 x ((h x).1 hx)
  omega
 ·intro hl
  have h1 := nodup_len d l hd fun x hx => (h x).1 hx
  have h2 := nodup_len l d hl fun x hx => (h x).2 hx
  omega
theorem rowL_nodup {c n : Int} : (rowL c n).Nodup ↔ ¬ twP c n := by
 unfold rowL twP
 rw [List.nodup_iff_pairwise_ne, List.pairwise_map]
 constructor
 ·rintro h ⟨i, k, h1, h2, h3⟩
  rw [List.pairwise_iff_getElem] at h
  have := h k i (by simp; omega) (by simp; omega) h1
  simp only [List.getElem_range] at this
  exact this h3.symm
 ·intro h
  rw [List.pairwise_iff_getElem]
  intro i j hi hj hij
  simp only [List.getElem_range]
  simp only [List.length_range] at hi hj
  exact fun e => h ⟨j, i, hij, by omega, e.symm⟩
theorem rowL_bd {c n x : Int} (h : x ∈ rowL c n) : -9223372036854775808 ≤ x ∧ x ≤ 9223372036854775807 := by
 unfold rowL at h
 obtain ⟨i, _, rfl⟩ := List.mem_map.1 h
 exact wrap_bd .i64 _
theorem comp_twice {q c n : Int} (hn : 0 ≤ n) (h : rowL q n = rowL c n) : compN (sortC q n) n = n ↔ ¬ twP c n := by
 have hl : (rowL c n).length = n.toNat := by simp [rowL]
 have h2 : rowL (sortC q n) n = sortL (rowL c n) := by
  refine rowL_rw ?_ (by rw [sortL_len, hl]; omega) fun x hx => rowL_bd (sortL_mem.1 hx)
  have : sortC q n = LZ (sortL (rowL c n)) := by unfold sortC sortL; rw [h]
  rw [this]; exact Rw.lz _
 obtain ⟨g1, g2⟩ := compact_sorted (rowL c n)
 have g3 := len_nodup (g1.imp fun h => Int.ne_of_lt h) g2
 rw [rowL_nodup, hl] at g3
 rw [← g3]
 unfold compN
 rw [h2]
 omega
theorem chk_ev (nC nD nS nI nO cI cO : Int) : chkZ nC nD (qQz nS (qQz nI (qQz nO (qQz cI (qQz cO 0))))) = chk7 nC nD nS nI nO cI cO := by
 have h := rd_chn [nS, nI, nO, cI, cO]
 have h0 := h 0; have h1 := h 1; have h2 := h 2; have h3 := h 3; have h4 := h 4
 unfold chn chn chn chn chn chn at h0 h1 h2 h3 h4
 have e0 : rdZ (qQz nS (qQz nI (qQz nO (qQz cI (qQz cO 0))))) 0 = nS := h0
 have e1 : rdZ (qQz nS (qQz nI (qQz nO (qQz cI (qQz cO 0))))) 1 = nI := h1
 have e2 : rdZ (qQz nS (qQz nI (qQz nO (qQz cI (qQz cO 0))))) 2 = nO := h2
 have e3 : rdZ (qQz nS (qQz nI (qQz nO (qQz cI (qQz cO 0))))) 3 = cI := h3
 have e4 : rdZ (qQz nS (qQz nI (qQz nO (qQz cI (qQz cO 0))))) 4 = cO := h4
 unfold chkZ
 rw [e0, e1, e2, e3, e4]
section chk
variable {nC nD nS nI nO cI cO : Int}
theorem qKk (h : 16384 < nC ∨ 2048 < nD ∨ 255 < nI ∨ 255 < nO) : 5 = chk7 nC nD nS nI nO cI cO := by
 unfold chk7; rw [if_pos h]
theorem chk_arg (hl : ¬ (16384 < nC ∨ 2048 < nD ∨ 255 < nI ∨ 255 < nO)) (h : nS ≠ nD ∨ ¬ adP cI nI nD ∨ ¬ adP cO nO nD) : 2 = chk7 nC nD nS nI nO cI cO := by
 unfold chk7; rw [if_neg hl, if_pos h]
theorem chk_twice (hl : ¬ (16384 < nC ∨ 2048 < nD ∨ 255 < nI ∨ 255 < nO)) (h1 : nS = nD) (h2 : adP cI nI nD) (h3 : adP cO nO nD) (h : twP cI nI) : 9 = chk7 nC nD nS nI nO cI cO := by
 unfold chk7; rw [if_neg hl, if_neg (fun h => h.elim (fun h => h h1) fun h => h.elim (fun h => h h2) fun h => h h3), if_pos h]
theorem chk_ok (hl : ¬ (16384 < nC ∨ 2048 < nD ∨ 255 < nI ∨ 255 < nO)) (h1 : nS = nD) (h2 : adP cI nI nD) (h3 : adP cO nO nD) (h : ¬ twP cI nI) : 0 = chk7 nC nD nS nI nO cI cO := by
 unfold chk7; rw [if_neg hl, if_neg (fun h => h.elim (fun h => h h1) fun h => h.elim (fun h => h h2) fun h => h h3), if_neg h]
end chk
theorem adZ_ne {c n m : Int} : adZ c n m ≠ 0 ↔ adP c n m := by unfold adZ; split <;> simp_all
theorem adZ_eq {c n m : Int} : adZ c n m = 0 ↔ ¬ adP c n m := by unfold adZ; split <;> simp_all
theorem ad_nil {c m : Int} : adP c 0 m := fun i hi => by omega
theorem ad_snoc {c i m : Int} (h0 : 0 ≤ i) (h : adP c i m) (h1 : 0 ≤ IntKind.wrap .i64 (rdZ c i)) (h2 : IntKind.wrap .i64 (rdZ c i) < m) : adP c (i + 1) m := by
 intro k hk
 by_cases e : (k : Int) = i
 ·unfold inR; rw [e]; exact ⟨h1, h2⟩
 ·exact h k (by omega)
theorem ad_no {c i n m : Int} (h0 : 0 ≤ i) (h1 : i < n) (h : IntKind.wrap .i64 (rdZ c i) < 0 ∨ m ≤ IntKind.wrap .i64 (rdZ c i)) : ¬ adP c n m := by
 intro g
 have := g i.toNat (by omega)
 unfold inR at this
 rw [show ((i.toNat : Nat) : Int) = i by omega] at this
 omega
theorem tw_of {c i k n : Int} (h0 : 0 ≤ k) (h1 : k < i) (h2 : i < n) (e : IntKind.wrap .i64 (rdZ c i) = IntKind.wrap .i64 (rdZ c k)) : twP c n :=
 ⟨i.toNat, k.toNat, by omega, by omega, by rw [show ((i.toNat : Nat) : Int) = i by omega, show ((k.toNat : Nat) : Int) = k by omega]; exact e⟩
end Go.Eng
end
/-!  -/
noncomputable section
namespace Go.Eng
theorem chk_zero {nC nD nS nI nO cI cO : Int} (h : chk7 nC nD nS nI nO cI cO = 0) : nC ≤ 16384 ∧ nD ≤ 2048 ∧ nI ≤ 255 ∧ nO ≤ 255 ∧ nS = nD ∧ adP cI nI nD ∧ adP cO nO nD ∧ ¬ twP cI nI := by
 unfold chk7 at h
 split at h
 ·cases h
 ·split at h
  ·cases h
  ·split at h
   ·cases h
   ·rename_i h1 h2 h3
    refine ⟨by omega, by omega, by omega, by omega, Classical.byContradiction fun e => h2 (.inl e), Classical.byContradiction fun e => h2 (.inr (.inl e)), Classical.byContradiction fun e => h2 (.inr (.inr e)), h3⟩
section
variable {cK c1 nD fuel : Int} {k : Nat}
end
end Go.Eng
end
