/-
  Parts of the engine, a program's symbolic run, proved sound; and of plain laws.
-/
import Derived.Test.YtacchdmnhfkekaaGp1
set_option linter.unusedVariables false
set_option linter.unusedSimpArgs false
/-!  -/
noncomputable section
namespace Go.Eng
theorem nx_z0 : LZ [] = 0 := rfl
theorem nx_z1 (a : Int) : LZ [a] = qQj a 0 := by
 have : ZL 0 = [] := by rw [← nx_z0, ZL_LZ]
 unfold qQj; rw [this]
theorem nx_z2 (a b : Int) : LZ [a, b] = qQj a (qQj b 0) := by
 rw [← nx_z1 b]; unfold qQj; rw [ZL_LZ]
theorem nx_say {q n p m y : Int} {l : List Int} (h : nxL q n p = l) (hm : m = (l.length : Int)) (hy : y = LZ l) : m = nxN q n p ∧ qQd [.int .i64] y (nxZ q n p) m := by
 subst hm; subst hy; subst h
 exact ⟨rfl, rowEq_refl _ _ _⟩
def nxC (y0 y4 n p : Int) : List Int :=
 if y0 = 0 ∨ y0 = 41 ∨ y0 = 43 then [] else
 if y0 = 39 ∨ y0 = 40 then [y4].filter (fun x => decide (x < n)) else
 if y0 = 36 ∨ y0 = 37 ∨ y0 = 38 then (go2 y4 (p + 1)).filter (fun x => decide (x < n)) else
 [p + 1].filter (fun x => decide (x < n))
theorem nxL_in {q n p y0 y4 : Int} (hp : 0 ≤ p) (hn : p < n) (h0 : y0 = decZ (IntKind.wrap .u32 (rdZ q p)) 0) (h4 : y4 = decZ (IntKind.wrap .u32 (rdZ q p)) 4) : nxL q n p = nxC y0 y4 n p := by
 unfold nxL nxC
 rw [if_neg (by omega), ← h0, ← h4]
theorem nxL_out {q n p : Int} (h : p < 0 ∨ n ≤ p) : nxL q n p = [] := by unfold nxL; rw [if_pos h]
theorem nxC_0 {y0 y4 n p : Int} (h : y0 = 0 ∨ y0 = 41 ∨ y0 = 43) : nxC y0 y4 n p = [] := by unfold nxC; rw [if_pos h]
theorem nxC_1 {y0 y4 n p : Int} (h : y0 = 39 ∨ y0 = 40) : nxC y0 y4 n p = if y4 < n then [y4] else [] := by
 unfold nxC; rw [if_neg (by omega), if_pos h]; by_cases e : y4 < n <;> simp [e]
theorem nxC_2 {y0 y4 n p : Int} (h : y0 = 36 ∨ y0 = 37 ∨ y0 = 38) : nxC y0 y4 n p = (go2 y4 (p + 1)).filter (fun x => decide (x < n)) := by
 unfold nxC; rw [if_neg (by omega), if_neg (by omega), if_pos h]
theorem nxC_3 {y0 y4 n p : Int} (h : ¬ (y0 = 0 ∨ y0 = 41 ∨ y0 = 43)) (h1 : ¬ (y0 = 39 ∨ y0 = 40)) (h2 : ¬ (y0 = 36 ∨ y0 = 37 ∨ y0 = 38)) : nxC y0 y4 n p = if p + 1 < n then [p + 1] else [] := by
 unfold nxC; rw [if_neg h, if_neg h1, if_neg h2]; by_cases e : p + 1 < n <;> simp [e]
theorem nx_two {q n p y s : Int} (hL : nxL q n p = (go2 y s).filter (fun x => decide (x < n))) :
  (n ≤ y → (s < n → (1 : Int) = nxN q n p ∧ qQd [.int .i64] (qQj s 0) (nxZ q n p) 1) ∧ (n ≤ s → (0 : Int) = nxN q n p ∧ qQd [.int .i64] 0 (nxZ q n p) 0)) ∧
  (y < n → (n ≤ s → (1 : Int) = nxN q n p ∧ qQd [.int .i64] (qQj y 0) (nxZ q n p) 1) ∧
   (s < n → (s < y → (y = s → (1 : Int) = nxN q n p ∧ qQd [.int .i64] (qQj s 0) (nxZ q n p) 1) ∧ (¬y = s → (2 : Int) = nxN q n p ∧ qQd [.int .i64] (qQj s (qQj y 0)) (nxZ q n p) 2)) ∧
    (y ≤ s → (s = y → (1 : Int) = nxN q n p ∧ qQd [.int .i64] (qQj y 0) (nxZ q n p) 1) ∧ (¬s = y → (2 : Int) = nxN q n p ∧ qQd [.int .i64] (qQj y (qQj s 0)) (nxZ q n p) 2)))) := by
 have k0 : nxL q n p = [] → (0 : Int) = nxN q n p ∧ qQd [.int .i64] 0 (nxZ q n p) 0 := fun h => nx_say h rfl rfl
 have k1 : ∀ a, nxL q n p = [a] → (1 : Int) = nxN q n p ∧ qQd [.int .i64] (qQj a 0) (nxZ q n p) 1 := fun a h => nx_say h rfl (nx_z1 a).symm
 have k2 : ∀ a b, nxL q n p = [a, b] → (2 : Int) = nxN q n p ∧ qQd [.int .i64] (qQj a (qQj b 0)) (nxZ q n p) 2 := fun a b h => nx_say h rfl (nx_z2 a b).symm
 refine ⟨fun h => ⟨fun g => k1 _ ?_, fun g => k0 ?_⟩, fun h => ⟨fun g => k1 _ ?_, fun g => ⟨fun c => ⟨fun e => by omega, fun e => k2 _ _ ?_⟩, fun c => ⟨fun e => k1 _ ?_, fun e => k2 _ _ ?_⟩⟩⟩⟩
 all_goals
  rw [hL]; unfold go2
 ·rw [if_neg (by omega), if_neg (by omega)]; simp [g, Int.not_lt.2 h]
 ·split
  ·simp [Int.not_lt.2 h]
  ·split <;> simp [Int.not_lt.2 h, Int.not_lt.2 g]
 ·rw [if_neg (by omega), if_pos (by omega)]; simp [h, Int.not_lt.2 g]
 ·rw [if_neg (by omega), if_neg (by omega)]; simp [h, g]
 ·rw [if_pos (by omega)]; simp [h]
 ·rw [if_neg (by omega), if_pos (by omega)]; simp [h, g]
end Go.Eng
end
/-!  -/
noncomputable section
namespace Go.Eng
theorem nx_mem {q n p x : Int} (h : x ∈ nxL q n p) : x < n := by
 unfold nxL at h
 split at h
 ·cases h
 split at h
 ·cases h
 split at h
 ·simpa using (List.mem_filter.1 h).2
 split at h
 ·simpa using (List.mem_filter.1 h).2
 ·simpa using (List.mem_filter.1 h).2
theorem nd_filter {l : List Int} (p : Int → Bool) (h : l.Nodup) : (l.filter p).Nodup := List.Pairwise.sublist List.filter_sublist h
theorem nx_nodup (q n p : Int) : (nxL q n p).Nodup := by
 unfold nxL
 split
 ·exact List.nodup_nil
 split
 ·exact List.nodup_nil
 split
 ·exact nd_filter _ (by simp)
 split
 ·refine nd_filter _ ?_
  unfold go2
  split
  ·simp
  ·split
   ·simp; omega
   ·simp; omega
 ·exact nd_filter _ (by simp)
theorem dec4_pos {w : Int} (h : decZ w 0 = 39 ∨ decZ w 0 = 40 ∨ decZ w 0 = 36 ∨ decZ w 0 = 37 ∨ decZ w 0 = 38) : 0 ≤ decZ w 4 := by
 unfold decZ at h ⊢
 simp only [Int.reduceEq, if_false, if_true] at h ⊢
 split
 ·omega
 ·rename_i hp
  rw [if_neg hp] at h
  unfold decN
  simp only
  split
  ·omega
  ·split <;> omega
theorem nx_pos {q n p x : Int} (hp : 0 ≤ p) (h : x ∈ nxL q n p) : 0 ≤ x := by
 unfold nxL at h
 split at h
 ·cases h
 split at h
 ·cases h
 split at h
 ·rename_i e
  have hx := (List.mem_filter.1 h).1
  simp at hx; subst hx
  exact dec4_pos (by omega)
 split at h
 ·rename_i e
  have hx := (List.mem_filter.1 h).1
  have hd := dec4_pos (w := IntKind.wrap .u32 (rdZ q p)) (by omega)
  unfold go2 at hx
  split at hx
  ·simp at hx; omega
  ·split at hx
   ·simp at hx; omega
   ·simp at hx; omega
 ·have hx := (List.mem_filter.1 h).1
  simp at hx; omega
theorem nxf_lt {q n : Int} {p x : Nat} (h : x ∈ nxf q n p) : (x : Int) < n := by
 unfold nxf at h
 obtain ⟨y, hy, e⟩ := List.mem_map.1 h
 have := nx_mem hy
 have := nx_pos (Int.natCast_nonneg p) hy
 omega
theorem nxf_nodup (q n : Int) (p : Nat) : (nxf q n p).Nodup := by
 unfold nxf
 refine List.pairwise_map.2 ((nx_nodup q n p).imp_of_mem ?_)
 intro a b ha hb hab e
 have := nx_pos (Int.natCast_nonneg p) ha
 have := nx_pos (Int.natCast_nonneg p) hb
 omega
theorem nxf_out {q n : Int} {p : Nat} (h : n ≤ p) : nxf q n p = [] := by
 unfold nxf; rw [nxL_out (.inr h)]; rfl
theorem nxf_len (q n : Int) (p : Nat) : (nxf q n p).length ≤ 1000 := by
 unfold nxf
 have := nxN_bd q n p
 unfold nxN at this
 rw [List.length_map]; omega
end Go.Eng
end
/-!  -/
noncomputable section
namespace Go.Eng
theorem dec_bad {w : Int} (h : decZ w 5 ≠ 0) : decZ w 0 = 0 := by
 unfold decZ at *
 simp only [if_true] at h
 split at h
 ·exact absurd rfl h
 ·rename_i g
  simp [g]
theorem dec_two (x : Int) : (decZ (IntKind.wrap .u32 x) 5 ≠ 0 ∧ decZ (IntKind.wrap .u32 x) 0 = 0) ∨ (decZ (IntKind.wrap .u32 x) 5 = 0 ∧ 1 ≤ decZ (IntKind.wrap .u32 x) 0) := by
 by_cases h : decZ (IntKind.wrap .u32 x) 5 = 0
 ·exact .inr ⟨h, (dec_in x h).1.1⟩
 ·exact .inl ⟨h, dec_bad h⟩
theorem nx_doc {c n p y0 y4 y5 : Int} (hp : 0 ≤ p) (hn : p < n) (e0 : y0 = decZ (IntKind.wrap .u32 (rdZ c p)) 0) (e4 : y4 = decZ (IntKind.wrap .u32 (rdZ c p)) 4) (e5 : y5 = decZ (IntKind.wrap .u32 (rdZ c p)) 5) :
  ((y5 ≠ 0 ∧ y0 = 0) ∨ (y5 = 0 ∧ 1 ≤ y0)) ∧ (y0 < 36 ∨ 40 < y0 ∨ 0 ≤ y4) ∧
  ((y0 = 0 ∨ y0 = 41 ∨ y0 = 43) ∨ ((y0 = 39 ∨ y0 = 40) ∧ n ≤ y4) ∨ ((y0 = 36 ∨ y0 = 37 ∨ y0 = 38) ∧ n ≤ y4 ∧ n ≤ p + 1) ∨ (y0 ≠ 36 ∧ y0 ≠ 37 ∧ y0 ≠ 38 ∧ y0 ≠ 39 ∧ y0 ≠ 40 ∧ n ≤ p + 1) → (0 : Int) = nxN c n p ∧ qQd [.int .i64] 0 (nxZ c n p) 0) ∧
  (((y0 = 39 ∨ y0 = 40) ∧ y4 < n) ∨ ((y0 = 36 ∨ y0 = 37 ∨ y0 = 38) ∧ y4 < n ∧ (n ≤ p + 1 ∨ y4 = p + 1)) → (1 : Int) = nxN c n p ∧ qQd [.int .i64] (qQj y4 0) (nxZ c n p) 1) ∧
  (((y0 = 36 ∨ y0 = 37 ∨ y0 = 38) ∧ n ≤ y4 ∧ p + 1 < n) ∨ (y0 ≠ 0 ∧ y0 ≠ 41 ∧ y0 ≠ 43 ∧ y0 ≠ 36 ∧ y0 ≠ 37 ∧ y0 ≠ 38 ∧ y0 ≠ 39 ∧ y0 ≠ 40 ∧ p + 1 < n) → (1 : Int) = nxN c n p ∧ qQd [.int .i64] (qQj (p + 1) 0) (nxZ c n p) 1) ∧
  ((y0 = 36 ∨ y0 = 37 ∨ y0 = 38) ∧ y4 < n ∧ p + 1 < n ∧ y4 < p + 1 → (2 : Int) = nxN c n p ∧ qQd [.int .i64] (qQj y4 (qQj (p + 1) 0)) (nxZ c n p) 2) ∧
  ((y0 = 36 ∨ y0 = 37 ∨ y0 = 38) ∧ y4 < n ∧ p + 1 < n ∧ p + 1 < y4 → (2 : Int) = nxN c n p ∧ qQd [.int .i64] (qQj (p + 1) (qQj y4 0)) (nxZ c n p) 2) := by
 have hL := nxL_in hp hn e0 e4
 have h2 := dec_two (rdZ c p)
 have h4 := dec4_pos (w := IntKind.wrap .u32 (rdZ c p))
 rw [← e0, ← e5] at h2
 rw [← e0, ← e4] at h4
 have go : ∀ l : List Int, nxC y0 y4 n p = l → (l.length : Int) = nxN c n p ∧ qQd [.int .i64] (LZ l) (nxZ c n p) l.length := fun l hl => nx_say (hL.trans hl) rfl rfl
 have go0 : nxC y0 y4 n p = [] → (0 : Int) = nxN c n p ∧ qQd [.int .i64] 0 (nxZ c n p) 0 := fun h => go _ h
 have go1 : ∀ a, nxC y0 y4 n p = [a] → (1 : Int) = nxN c n p ∧ qQd [.int .i64] (qQj a 0) (nxZ c n p) 1 := fun a h => by
  have := go _ h
  rw [nx_z1] at this
  exact this
 have go2' : ∀ a b, nxC y0 y4 n p = [a, b] → (2 : Int) = nxN c n p ∧ qQd [.int .i64] (qQj a (qQj b 0)) (nxZ c n p) 2 := fun a b h => by
  have := go _ h
  rw [nx_z2] at this
  exact this
 clear go
 refine ⟨h2, by omega, fun h => ?_, fun h => ?_, fun h => ?_, fun h => ?_, fun h => ?_⟩
 ·refine go0 ?_
  rcases h with h | ⟨h, h'⟩ | ⟨h, h', h''⟩ | h
  ·exact nxC_0 h
  ·rw [nxC_1 h, if_neg (by omega)]
  ·rw [nxC_2 h]; unfold go2; (repeat' split) <;> first | (exfalso; omega) | (simp; omega) | simp
  ·by_cases g : y0 = 0 ∨ y0 = 41 ∨ y0 = 43
   ·exact nxC_0 g
   ·rw [nxC_3 g (by omega) (by omega), if_neg (by omega)]
 ·refine go1 y4 ?_
  rcases h with ⟨h, h'⟩ | ⟨h, h', h''⟩
  ·rw [nxC_1 h, if_pos h']
  ·rw [nxC_2 h]; unfold go2; (repeat' split) <;> first | (exfalso; omega) | (simp; omega) | simp | (rw [List.filter_cons, List.filter_cons]; simp only [decide_eq_true_eq]; rw [if_pos (by omega), if_neg (by omega)]; rfl)
 ·refine go1 (p + 1) ?_
  rcases h with ⟨h, h', h''⟩ | h
  ·rw [nxC_2 h]; unfold go2; (repeat' split) <;> first | (exfalso; omega) | (simp; omega) | simp | (rw [List.filter_cons, List.filter_cons]; simp only [decide_eq_true_eq]; rw [if_pos (by omega), if_neg (by omega)]; rfl)
  ·rw [nxC_3 (by omega) (by omega) (by omega), if_pos (by omega)]
 ·have e : nxC y0 y4 n p = [y4, p + 1] := by rw [nxC_2 h.1]; unfold go2; rw [if_neg (by omega), if_pos h.2.2.2]; simp; omega
  exact go2' _ _ e
 ·have e : nxC y0 y4 n p = [p + 1, y4] := by rw [nxC_2 h.1]; unfold go2; rw [if_neg (by omega), if_neg (by omega)]; simp; omega
  exact go2' _ _ e
theorem rd_two0 (a b : Int) : rdZ (qQj a (qQj b 0)) 0 = a := qQa _ _
theorem rd_two1 (a b : Int) : rdZ (qQj a (qQj b 0)) 1 = b := by
 rw [qQs _ _ (by omega)]
 exact qQa _ _
theorem lz_map_rd (f : Nat → Int) (n : Nat) {i : Nat} (h : i < n) : rdZ (LZ ((List.range n).map f)) i = f i := by
 unfold rdZ
 rw [ZL_LZ, Int.toNat_natCast, List.getD_eq_getElem?_getD, List.getElem?_map, List.getElem?_range h]
 rfl
theorem nx_mapN {c n p : Int} (hp : 0 ≤ p) : nxL c n p = (nxf c n p.toNat).map fun x : Nat => (x : Int) := by
 obtain ⟨k, rfl⟩ := Int.eq_ofNat_of_zero_le hp
 unfold nxf
 rw [List.map_map]
 refine (List.map_id _).symm.trans (List.map_congr_left fun x hx => ?_)
 have := nx_pos (Int.natCast_nonneg k) hx
 simp only [Function.comp, id]
 omega
theorem nx_at {c n p k : Int} (hn : n ≤ 1000) (hp : 0 ≤ p) (h0 : 0 ≤ k) (h1 : k < nxN c n p) : ∃ t : Nat, (nxf c n p.toNat)[k.toNat]? = some t ∧ IntKind.wrap .i64 (rdZ (nxZ c n p) k) = t ∧ (t : Int) < n := by
 have hl : (nxf c n p.toNat).length = nxN c n p := by
  unfold nxN
  rw [nx_mapN hp, List.length_map]
 have hk : k.toNat < (nxf c n p.toNat).length := by omega
 have hlt := nxf_lt (List.getElem_mem hk)
 refine ⟨_, List.getElem?_eq_getElem hk, ?_, hlt⟩
 have e : rdZ (nxZ c n p) k = ((nxf c n p.toNat)[k.toNat] : Int) := by
  unfold nxZ rdZ
  rw [ZL_LZ, nx_mapN hp, List.getD_eq_getElem?_getD, List.getElem?_map, List.getElem?_eq_getElem hk]
  rfl
 rw [e]
 exact w64 (by omega) (by omega)
theorem nx_len {c n p : Int} (hp : 0 ≤ p) : ((nxf c n p.toNat).length : Int) = nxN c n p := by
 unfold nxN
 rw [nx_mapN hp, List.length_map]
open Classical in
theorem gfm_at {c n a b : Int} (hn : n ≤ 1000) {x : Nat} (hx : (x : Int) < n) : rdZ (gfmZ c n (qQj a (qQj b 0))) x ≠ 0 ↔ (0 ≤ a ∧ a < n ∧ Way (nxf c n) (fun y : Nat => (y : Int) = b) a.toNat x) := by
 unfold gfmZ
 rw [lz_map_rd _ _ (by omega), rd_two0, rd_two1]
 split
 ·rename_i h; simp [h]
 ·rename_i h; simp [h]
theorem row_bo {y q n : Int} (h : ∀ i : Nat, (i : Int) < n → (rdZ y i ≠ 0 ↔ rdZ q i ≠ 0)) : qQd [.bool] y q n := fun i hi => by
 have e : ∀ x, qQw [.bool] x = [.bool (x != 0)] := fun _ => rfl
 rw [e, e]
 have := h i hi
 by_cases a : rdZ y i = 0
 ·have b : rdZ q i = 0 := Classical.byContradiction fun g => this.2 g a
  rw [a, b]
 ·have b := this.1 a
  rw [bne_iff_ne.2 a, bne_iff_ne.2 b]
theorem rd_zero (i : Int) : rdZ 0 i = 0 := by unfold rdZ; rw [ZL_nil]; simp
theorem gfm_none {c n a b : Int} (hn : n ≤ 1000) (h : a < 0 ∨ n ≤ a ∨ a = b) : qQd [.bool] 0 (gfmZ c n (qQj a (qQj b 0))) n := by
 refine row_bo fun i hi => ?_
 rw [gfm_at hn hi, rd_zero]
 simp only [ne_eq, not_true_eq_false, false_iff]
 rintro ⟨h1, h2, h3⟩
 exact h3.nbar.1 (by omega)
def Seen (q : Int) (x : Nat) : Prop := rdZ q x ≠ 0
open Classical in
def cntS (q : Int) (n : Int) : Nat := ((List.range n.toNat).filter fun x => decide (Seen q x)).length
theorem cntS_le (q n : Int) : cntS q n ≤ n.toNat := by
 unfold cntS
 exact Nat.le_trans (List.length_filter_le _ _) (by simp)
structure FmS (c n a b q : Int) : Prop where
 snd : ∀ x : Nat, (x : Int) < n → Seen q x → Way (nxf c n) (fun y : Nat => (y : Int) = b) a.toNat x
 st : Seen q a.toNat
def CloG (c n b q p : Int) : Prop := ∀ x : Nat, (x : Int) < p → Seen q x → ∀ y ∈ nxf c n x, (y : Int) ≠ b → Seen q y
def CloK (c n b q p k : Int) : Prop := ∀ j t : Nat, (j : Int) < k → (nxf c n p.toNat)[j]? = some t → (t : Int) ≠ b → Seen q t
theorem seen_put {q : Int} {t x : Nat} : Seen (updZ q t 1) x ↔ (x = t ∨ Seen q x) := by
 unfold Seen
 rw [qZt]
 simp only [Int.toNat_natCast]
 by_cases e : x = t
 ·subst e; simp
 ·rw [if_neg e]
  exact ⟨.inr, fun h => h.resolve_left e⟩
open Classical in
theorem cntS_put {q n : Int} {t : Nat} (ht : (t : Int) < n) (h : ¬Seen q t) : cntS q n < cntS (updZ q t 1) n := by
 unfold cntS
 obtain ⟨l1, l2, e⟩ := List.append_of_mem (List.mem_range.2 (show t < n.toNat by omega))
 rw [e]
 have hm : ∀ l : List Nat, (l.filter fun x => decide (Seen q x)).length ≤ (l.filter fun x => decide (Seen (updZ q t 1) x)).length := fun l => by
  simp only [← List.countP_eq_length_filter]
  refine List.countP_mono_left fun x _ hx => ?_
  simp only [decide_eq_true_eq] at hx ⊢
  exact seen_put.2 (.inr hx)
 have h1 := hm l1
 have h2 := hm l2
 have h3 : Seen (updZ q t 1) t := seen_put.2 (.inl rfl)
 simp only [List.filter_append, List.length_append, List.filter_cons, h, h3, decide_true, decide_false, if_true, Bool.false_eq_true, if_false, List.length_cons]
 omega
theorem fm_start {c n a b : Int} (h0 : 0 ≤ a) (hb : a ≠ b) : FmS c n a b (updZ 0 a 1) := by
 obtain ⟨k, rfl⟩ := Int.eq_ofNat_of_zero_le h0
 refine ⟨fun x _ hx => ?_, ?_⟩
 ·rcases seen_put.1 hx with rfl | h
  ·exact .here (by simpa using hb)
  ·exact absurd (rd_zero _) h
 ·rw [Int.toNat_natCast]
  exact seen_put.2 (.inl rfl)
theorem fm_put {c n a b q p : Int} {t : Nat} (h : FmS c n a b q) (hp : 0 ≤ p) (hpn : p < n) (hs : rdZ q p ≠ 0) (ht : t ∈ nxf c n p.toNat) (hb : (t : Int) ≠ b) : FmS c n a b (updZ q t 1) := by
 obtain ⟨k, rfl⟩ := Int.eq_ofNat_of_zero_le hp
 refine ⟨fun x hx hsx => ?_, seen_put.2 (.inr h.st)⟩
 rcases seen_put.1 hsx with rfl | g
 ·exact (h.snd k hpn hs).on ht hb
 ·exact h.snd x hx g
structure FmM (c n a b q0 q ch p : Int) : Prop where
 s : FmS c n a b q
 ct : cntS q0 n + ch.toNat ≤ cntS q n
 cl : ch = 0 → CloG c n b q p
structure FmI (c n a b q0 q ch p k : Int) : Prop where
 s : FmS c n a b q
 ct : cntS q0 n + ch.toNat ≤ cntS q n
 at_ : rdZ q p ≠ 0
 cl : ch = 0 → CloG c n b q p ∧ CloK c n b q p k
theorem FmM.skip {c n a b q0 q ch p : Int} (h : FmM c n a b q0 q ch p) (hp : 0 ≤ p) (h0 : rdZ q p = 0) : FmM c n a b q0 q ch (p + 1) := by
 refine ⟨h.s, h.ct, fun e x hx hs y hy hb => ?_⟩
 by_cases g : (x : Int) = p
 ·rw [← g] at h0; exact absurd h0 hs
 ·exact h.cl e x (by omega) hs y hy hb
theorem FmM.in {c n a b q0 q ch p : Int} (h : FmM c n a b q0 q ch p) (h0 : rdZ q p ≠ 0) : FmI c n a b q0 q ch p 0 :=
 ⟨h.s, h.ct, h0, fun e => ⟨h.cl e, fun j t hj => by omega⟩⟩
theorem FmI.put {c n a b q0 q ch p k : Int} {t : Nat} (h : FmI c n a b q0 q ch p k) (hp : 0 ≤ p) (hpn : p < n) (hc : 0 ≤ ch ∧ ch ≤ 1) (hk : 0 ≤ k) (ht : (nxf c n p.toNat)[k.toNat]? = some t) (hb : (t : Int) ≠ b) (h0 : rdZ q t = 0) : FmI c n a b q0 (updZ q t 1) 1 p (k + 1) := by
 have hm := List.mem_of_getElem? ht
 have hlt := nxf_lt hm
 refine ⟨fm_put h.s hp hpn h.at_ hm hb, ?_, ?_, fun e => by omega⟩
 ·have := cntS_put hlt (fun g => g h0)
  have := h.ct
  omega
 ·obtain ⟨k, rfl⟩ := Int.eq_ofNat_of_zero_le hp
  exact seen_put.2 (.inr h.at_)
theorem FmI.on {c n a b q0 q ch p k : Int} {t : Nat} (h : FmI c n a b q0 q ch p k) (hk : 0 ≤ k) (ht : (nxf c n p.toNat)[k.toNat]? = some t) (hs : (t : Int) = b ∨ rdZ q t ≠ 0) : FmI c n a b q0 q ch p (k + 1) := by
 refine ⟨h.s, h.ct, h.at_, fun e => ⟨(h.cl e).1, fun j u hj hu hb => ?_⟩⟩
 by_cases g : (j : Int) = k
 ·have : j = k.toNat := by omega
  rw [this, ht] at hu
  cases hu
  exact hs.resolve_left hb
 ·exact (h.cl e).2 j u (by omega) hu hb
theorem FmI.out {c n a b q0 q ch p k : Int} (h : FmI c n a b q0 q ch p k) (hp : 0 ≤ p) (hk : nxN c n p ≤ k) : FmM c n a b q0 q ch (p + 1) := by
 refine ⟨h.s, h.ct, fun e x hx hs y hy hb => ?_⟩
 by_cases g : (x : Int) = p
 ·obtain ⟨j, hj⟩ := List.getElem?_of_mem hy
  have hl := nx_len (c := c) (n := n) hp
  have hjl := (List.getElem?_eq_some_iff.1 hj).1
  have e2 : p.toNat = x := by omega
  refine (h.cl e).2 j y ?_ (by rw [e2]; exact hj) hb
  rw [e2] at hl
  omega
 ·exact (h.cl e).1 x (by omega) hs y hy hb
theorem fm_end {c n a b q : Int} (hn : n ≤ 1000) (h0 : 0 ≤ a) (h1 : a < n) (h : FmS c n a b q) (hc : CloG c n b q n) : qQd [.bool] q (gfmZ c n (qQj a (qQj b 0))) n := by
 refine row_bo fun i hi => ?_
 rw [gfm_at hn hi]
 constructor
 ·intro hs
  exact ⟨h0, h1, h.snd i hi hs⟩
 ·rintro ⟨_, _, hw⟩
  have : (i : Int) < n ∧ Seen q i := hw.least (S := fun i : Nat => (i : Int) < n ∧ Seen q i) ⟨by omega, h.st⟩ fun x y hx hy hb => ⟨nxf_lt hy, hc x hx.1 hx.2 y hy hb⟩
  exact this.2
theorem dmn_reached {nx : Nat → List Nat} {n a b : Nat} (h : Way nx (fun _ => False) 0 b) (hd : Dmn nx n a b) : Way nx (fun _ => False) 0 a := by
 rcases hd with rfl | ⟨_, hd⟩
 ·exact h
 ·refine Classical.byContradiction fun hn => hd ?_
  induction h with
  | here _ => exact .here fun e => hn (by rw [← e]; exact .here id)
  | @on b c h1 h2 _ ih =>
   by_cases e : c = a
   ·exact absurd (by rw [← e]; exact h1.on h2 id) hn
   ·by_cases hb : Way nx (· = a) 0 b
    ·exact hb.on h2 e
    ·exact absurd (ih hb) hb
theorem ahd_ne {c n a b : Int} : ahdZ c n (qQj a (qQj b 0)) ≠ 0 ↔ ahdP c n a b := by
 unfold ahdZ
 rw [rd_two0, rd_two1]
 split
 ·rename_i h; simp [h]
 ·rename_i h; simp [h]
theorem gfm_0 {c n x : Int} (hn : n ≤ 1000) (h0 : 0 ≤ x) (h1 : x < n) : rdZ (gfmZ c n (qQj 0 (qQj (-1) 0))) x ≠ 0 ↔ Way (nxf c n) (fun _ => False) 0 x.toNat := by
 obtain ⟨k, rfl⟩ := Int.eq_ofNat_of_zero_le h0
 rw [gfm_at hn h1, Int.toNat_natCast]
 have e : (fun y : Nat => (y : Int) = -1) = fun _ => False := by funext y; simp
 rw [e]
 exact ⟨fun h => h.2.2, fun h => ⟨by omega, by omega, h⟩⟩
theorem gfm_a {c n a x : Int} (hn : n ≤ 1000) (ha : 0 ≤ a) (h0 : 0 ≤ x) (h1 : x < n) : rdZ (gfmZ c n (qQj 0 (qQj a 0))) x ≠ 0 ↔ Way (nxf c n) (fun y => y = a.toNat) 0 x.toNat := by
 obtain ⟨k, rfl⟩ := Int.eq_ofNat_of_zero_le h0
 obtain ⟨b, rfl⟩ := Int.eq_ofNat_of_zero_le ha
 rw [gfm_at hn h1, Int.toNat_natCast]
 have e : (fun y : Nat => (y : Int) = (b : Int)) = fun y => y = b := by funext y; exact propext ⟨fun h => by omega, fun h => by omega⟩
 rw [e]
 exact ⟨fun h => h.2.2, fun h => ⟨by omega, by omega, h⟩⟩
theorem ahd_doc {c n a b : Int} (hn : n ≤ 1000) (a0 : 0 ≤ a) (a1 : a < n) (b0 : 0 ≤ b) (b1 : b < n) :
  (rdZ (gfmZ c n (qQj 0 (qQj (-1) 0))) a = 0 → ¬ahdP c n a b) ∧ (rdZ (gfmZ c n (qQj 0 (qQj (-1) 0))) b = 0 → ¬ahdP c n a b) ∧
  (rdZ (gfmZ c n (qQj 0 (qQj (-1) 0))) b ≠ 0 → a = b → ahdP c n a b) ∧
  (rdZ (gfmZ c n (qQj 0 (qQj (-1) 0))) b ≠ 0 → a ≠ b → (ahdP c n a b ↔ rdZ (gfmZ c n (qQj 0 (qQj a 0))) b = 0)) := by
 have hA := gfm_0 (c := c) hn a0 a1
 have hB := gfm_0 (c := c) hn b0 b1
 have hC := gfm_a (c := c) hn a0 b0 b1
 refine ⟨fun h g => ?_, fun h g => hB.2 g.2.2.2.2.1 h, fun h e => ⟨a0, a1, b0, b1, hB.1 h, .inl (by rw [e])⟩, fun h e => ⟨fun g => ?_, fun g => ⟨a0, a1, b0, b1, hB.1 h, .inr ⟨by omega, fun w => hC.2 w g⟩⟩⟩⟩
 ·exact hA.2 (dmn_reached g.2.2.2.2.1 g.2.2.2.2.2) h
 ·rcases g.2.2.2.2.2 with e' | ⟨_, hd⟩
  ·omega
  ·exact Classical.byContradiction fun k => hd (hC.1 k)
def cdP (x : Int × Int) : Int := qQj x.1 (qQj x.2 0)
open Classical in
def bkK (c n p k : Int) : List (Int × Int) := bksL c n p.toNat ++ (((nxL c n p).take k.toNat).filter fun t => decide (ahdP c n t p)).map fun t => (p, t)
theorem bkK_0 (c n p : Int) : bkK c n p 0 = bksL c n p.toNat := by simp [bkK]
theorem nxL_at {c n p k : Int} (hn : n ≤ 1000) (hp : 0 ≤ p) (h0 : 0 ≤ k) (h1 : k < nxN c n p) : (nxL c n p)[k.toNat]? = some (IntKind.wrap .i64 (rdZ (nxZ c n p) k)) := by
 obtain ⟨t, ht, e, _⟩ := nx_at hn hp h0 h1
 rw [e, nx_mapN hp, List.getElem?_map, ht]
 rfl
open Classical in
theorem bkK_next {c n p k t : Int} (h0 : 0 ≤ k) (h : (nxL c n p)[k.toNat]? = some t) : bkK c n p (k + 1) = bkK c n p k ++ if ahdP c n t p then [(p, t)] else [] := by
 unfold bkK
 rw [show (k + 1).toNat = k.toNat + 1 by omega, List.take_add_one, h, List.append_assoc]
 congr 1
 simp only [Option.toList, List.filter_append, List.map_append]
 congr 1
 by_cases e : ahdP c n t p <;> simp [e]
theorem bkK_done {c n p k : Int} (hp : 0 ≤ p) (h : nxN c n p ≤ k) : bkK c n p k = bksL c n (p + 1).toNat := by
 unfold bkK bksL
 unfold nxN at h
 rw [List.take_of_length_le (by omega), show (p + 1).toNat = p.toNat + 1 by omega, List.range_succ, List.flatMap_append]
 obtain ⟨k', rfl⟩ := Int.eq_ofNat_of_zero_le hp
 simp [bkL]
theorem bkK_len (c n p k : Int) (hp : 0 ≤ p) : (bkK c n p k).length ≤ 2 * p.toNat + 2 := by
 unfold bkK
 have h1 := bksL_len c n p.toNat
 have h2 := nxN_bd c n p
 unfold nxN at h2
 rw [List.length_append, List.length_map]
 have h3 := List.length_filter_le (fun t => @decide (ahdP c n t p) (Classical.propDecidable _)) ((nxL c n p).take k.toNat)
 have h4 := List.length_take_le k.toNat (nxL c n p)
 have h5 : ((nxL c n p).take k.toNat).length ≤ (nxL c n p).length := by rw [List.length_take]; omega
 omega
theorem bk_mem {c n : Int} {k : Nat} {x : Int × Int} (h : x ∈ bksL c n k) : ∃ b t : Nat, x = ((b : Int), (t : Int)) ∧ b < k ∧ (t : Int) < n ∧ ahdP c n t b ∧ t ∈ nxf c n b := by
 unfold bksL at h
 obtain ⟨p, hp, hx⟩ := List.mem_flatMap.1 h
 obtain ⟨t, ht, rfl⟩ := List.mem_map.1 hx
 unfold bkL at ht
 obtain ⟨h1, h2⟩ := List.mem_filter.1 ht
 have h0 := nx_pos (Int.natCast_nonneg p) h1
 have h3 := nx_mem h1
 obtain ⟨u, rfl⟩ := Int.eq_ofNat_of_zero_le h0
 refine ⟨p, u, rfl, List.mem_range.1 hp, h3, by simpa using h2, ?_⟩
 unfold nxf
 exact List.mem_map.2 ⟨u, h1, by simp⟩
theorem bk_at {c n k : Int} (hn : n ≤ 1000) (h0 : 0 ≤ k) (h1 : k < bkN c n) : ∃ b t : Nat, (bksL c n n.toNat)[k.toNat]? = some ((b : Int), (t : Int)) ∧
  IntKind.wrap .i64 (rdZ (rdZ (bkZ c n) k) 0) = b ∧ IntKind.wrap .i64 (rdZ (rdZ (bkZ c n) k) 1) = t ∧ (b : Int) < n ∧ (t : Int) < n := by
 have e2 : min n.toNat 1000 = n.toNat := by omega
 unfold bkN at h1
 rw [e2] at h1
 have hk : k.toNat < (bksL c n n.toNat).length := by omega
 obtain ⟨b, t, e, hb, ht, _⟩ := bk_mem (List.getElem_mem hk)
 have hr : rdZ (bkZ c n) k = qQj (b : Int) (qQj (t : Int) 0) := by
  unfold bkZ rdZ
  rw [e2, ZL_LZ, List.getD_eq_getElem?_getD, List.getElem?_map, List.getElem?_eq_getElem hk, e]
  rfl
 refine ⟨b, t, by rw [List.getElem?_eq_getElem hk, e], ?_, ?_, by omega, ht⟩
 ·rw [hr, rd_two0]; exact w64 (by omega) (by omega)
 ·rw [hr, rd_two1]; exact w64 (by omega) (by omega)
def LpJ (c n h : Int) (p : Nat) (k : Int) : Prop := ∃ j b : Nat, (j : Int) < k ∧ (bksL c n n.toNat)[j]? = some ((b : Int), h) ∧ Way (nxf c n) (fun _ => False) 0 p ∧ ((p : Int) = h ∨ Way (nxf c n) (fun x => (x : Int) = h) p b)
theorem LpJ.zero {c n h : Int} {p : Nat} : ¬LpJ c n h p 0 := fun ⟨j, _, hj, _⟩ => by omega
theorem LpJ.step {c n h : Int} {p : Nat} {k : Int} {b t : Nat} (hk : 0 ≤ k) (e : (bksL c n n.toNat)[k.toNat]? = some ((b : Int), (t : Int))) :
  LpJ c n h p (k + 1) ↔ (LpJ c n h p k ∨ ((t : Int) = h ∧ Way (nxf c n) (fun _ => False) 0 p ∧ ((p : Int) = h ∨ Way (nxf c n) (fun x => (x : Int) = h) p b))) := by
 constructor
 ·rintro ⟨j, b', hj, e', hw⟩
  by_cases g : (j : Int) = k
  ·have : j = k.toNat := by omega
   rw [this, e] at e'
   simp only [Option.some.injEq, Prod.mk.injEq] at e'
   have : b' = b := by omega
   subst this
   exact .inr ⟨e'.2, hw⟩
  ·exact .inl ⟨j, b', by omega, e', hw⟩
 ·rintro (⟨j, b', hj, e', hw⟩ | ⟨rfl, hw⟩)
  ·exact ⟨j, b', by omega, e', hw⟩
  ·exact ⟨k.toNat, b, by omega, e, hw⟩
theorem LpJ.all {c n h : Int} {p : Nat} {k : Int} (hn : n ≤ 1000) (hk : bkN c n ≤ k) : LpJ c n h p k ↔ lpP c n h p := by
 have e2 : min n.toNat 1000 = n.toNat := by omega
 unfold bkN at hk
 rw [e2] at hk
 unfold lpP
 rw [e2]
 constructor
 ·rintro ⟨j, b, hj, e, hw⟩
  exact ⟨b, List.mem_of_getElem? e, hw⟩
 ·rintro ⟨b, hm, hw⟩
  obtain ⟨j, hj⟩ := List.getElem?_of_mem hm
  exact ⟨j, b, by have := (List.getElem?_eq_some_iff.1 hj).1; omega, hj, hw⟩
theorem lp_doc {c n h p : Int} {b : Nat} (hn : n ≤ 1000) (p0 : 0 ≤ p) (p1 : p < n) (hb : (b : Int) < n) (hp : p ≠ h) :
  ((b : Int) = p → Way (nxf c n) (fun x => (x : Int) = h) p.toNat b) ∧ (rdZ (gfmZ c n (qQj p (qQj h 0))) b ≠ 0 ↔ Way (nxf c n) (fun x => (x : Int) = h) p.toNat b) := by
 refine ⟨fun e => ?_, ?_⟩
 ·have : b = p.toNat := by omega
  subst this
  exact .here (by omega)
 ·rw [gfm_at hn hb]
  exact ⟨fun g => g.2.2, fun g => ⟨p0, p1, g⟩⟩
open Classical in
theorem lpL_next {c n h p : Int} (hp : 0 ≤ p) : lpL c n h (p + 1).toNat = lpL c n h p.toNat ++ if lpP c n h p.toNat then [p] else [] := by
 obtain ⟨k, rfl⟩ := Int.eq_ofNat_of_zero_le hp
 rw [show ((k : Int) + 1).toNat = k + 1 by omega, Int.toNat_natCast]
 unfold lpL
 rw [List.range_succ, List.filter_append, List.map_append]
 congr 1
 by_cases e : lpP c n h k <;> simp [e]
theorem lpL_len (c n h : Int) (k : Nat) : (lpL c n h k).length ≤ k := by
 unfold lpL
 rw [List.length_map]
 exact Nat.le_trans (List.length_filter_le _ _) (by simp)
def NoC (c n : Int) (x : Nat) : Prop := Way (nxf c n) (fun _ => False) 0 x → ∀ q ∈ nxf c n x, ¬Way (nxf c n) (fun _ => False) q x
def NoK (c n p k : Int) : Prop := ∀ j t : Nat, (j : Int) < k → (nxf c n p.toNat)[j]? = some t → Way (nxf c n) (fun _ => False) 0 p.toNat → ¬Way (nxf c n) (fun _ => False) t p.toNat
theorem gfm_f {c n a x : Int} (hn : n ≤ 1000) (a0 : 0 ≤ a) (a1 : a < n) (h0 : 0 ≤ x) (h1 : x < n) : rdZ (gfmZ c n (qQj a (qQj (-1) 0))) x ≠ 0 ↔ Way (nxf c n) (fun _ => False) a.toNat x.toNat := by
 obtain ⟨k, rfl⟩ := Int.eq_ofNat_of_zero_le h0
 rw [gfm_at hn h1, Int.toNat_natCast]
 have e : (fun y : Nat => (y : Int) = -1) = fun _ => False := by funext y; simp
 rw [e]
 exact ⟨fun h => h.2.2, fun h => ⟨a0, a1, h⟩⟩
theorem NoK.next {c n p k : Int} {t : Nat} (h : NoK c n p k) (hk : 0 ≤ k) (ht : (nxf c n p.toNat)[k.toNat]? = some t) (hno : Way (nxf c n) (fun _ => False) 0 p.toNat → ¬Way (nxf c n) (fun _ => False) t p.toNat) : NoK c n p (k + 1) := fun j u hj hu => by
 by_cases g : (j : Int) = k
 ·have : j = k.toNat := by omega
  rw [this, ht] at hu
  cases hu
  exact hno
 ·exact h j u (by omega) hu
theorem NoK.done {c n p k : Int} (h : NoK c n p k) (hp : 0 ≤ p) (hk : nxN c n p ≤ k) : NoC c n p.toNat := fun hw q hq => by
 obtain ⟨j, hj⟩ := List.getElem?_of_mem hq
 have := nx_len (c := c) (n := n) hp
 have := (List.getElem?_eq_some_iff.1 hj).1
 exact h j q (by omega) hj hw
theorem cyc_ne {c n : Int} : cycZ c n ≠ 0 ↔ Cyc (nxf c n) := by
 unfold cycZ
 split
 ·rename_i h; simp [h]
 ·rename_i h; simp [h]
theorem cyc_none {c n : Int} (h : ∀ x : Nat, (x : Int) < n → NoC c n x) : cycZ c n = 0 := Classical.byContradiction fun g => by
 obtain ⟨p, hp, q, hq, hw⟩ := cyc_ne.1 g
 by_cases e : (p : Int) < n
 ·exact h p e hp q hq hw
 ·rw [nxf_out (by omega)] at hq
  cases hq
theorem cyc_some {c n p : Int} {t : Nat} (hp : Way (nxf c n) (fun _ => False) 0 p.toNat) (ht : t ∈ nxf c n p.toNat) (hw : Way (nxf c n) (fun _ => False) t p.toNat) : cycZ c n ≠ 0 := cyc_ne.2 ⟨_, hp, t, ht, hw⟩
end Go.Eng
end
