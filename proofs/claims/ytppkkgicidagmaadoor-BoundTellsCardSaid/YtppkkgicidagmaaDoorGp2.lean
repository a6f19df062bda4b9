/-
  Parts of the engine, a program's symbolic run, proved sound; and of plain laws.
-/
import Derived.Test.YtppkkgicidagmaaDoorGp1
import Derived.Test.YtppkkgicidagmaaDoorGu5
set_option linter.unusedVariables false
set_option linter.unusedSimpArgs false
/-!  -/
noncomputable section
namespace Go.Eng
theorem nx_mem {q n p x : Int} (h : x ∈ nxL q n p) : x < n := by
 unfold nxL at h
 split at h
 ·cases h
 split at h
 ·cases h
 split at h
 ·simpa using (List.mem_filter.1 h).2
 split at h
 ·simpa using (List.mem_filter.1 h).2
 ·simpa using (List.mem_filter.1 h).2
theorem nd_filter {l : List Int} (p : Int → Bool) (h : l.Nodup) : (l.filter p).Nodup := List.Pairwise.sublist List.filter_sublist h
theorem nx_nodup (q n p : Int) : (nxL q n p).Nodup := by
 unfold nxL
 split
 ·exact List.nodup_nil
 split
 ·exact List.nodup_nil
 split
 ·exact nd_filter _ (by simp)
 split
 ·refine nd_filter _ ?_
  unfold go2
  split
  ·simp
  ·split
   ·simp; omega
   ·simp; omega
 ·exact nd_filter _ (by simp)
theorem dec4_pos {w : Int} (h : decZ w 0 = 39 ∨ decZ w 0 = 40 ∨ decZ w 0 = 36 ∨ decZ w 0 = 37 ∨ decZ w 0 = 38) : 0 ≤ decZ w 4 := by
 unfold decZ at h ⊢
 simp only [Int.reduceEq, if_false, if_true] at h ⊢
 split
 ·omega
 ·rename_i hp
  rw [if_neg hp] at h
  unfold decN
  simp only
  split
  ·omega
  ·split <;> omega
theorem nx_pos {q n p x : Int} (hp : 0 ≤ p) (h : x ∈ nxL q n p) : 0 ≤ x := by
 unfold nxL at h
 split at h
 ·cases h
 split at h
 ·cases h
 split at h
 ·rename_i e
  have hx := (List.mem_filter.1 h).1
  simp at hx; subst hx
  exact dec4_pos (by omega)
 split at h
 ·rename_i e
  have hx := (List.mem_filter.1 h).1
  have hd := dec4_pos (w := IntKind.wrap .u32 (rdZ q p)) (by omega)
  unfold go2 at hx
  split at hx
  ·simp at hx; omega
  ·split at hx
   ·simp at hx; omega
   ·simp at hx; omega
 ·have hx := (List.mem_filter.1 h).1
  simp at hx; omega
theorem nxf_lt {q n : Int} {p x : Nat} (h : x ∈ nxf q n p) : (x : Int) < n := by
 unfold nxf at h
 obtain ⟨y, hy, e⟩ := List.mem_map.1 h
 have := nx_mem hy
 have := nx_pos (Int.natCast_nonneg p) hy
 omega
theorem nxf_nodup (q n : Int) (p : Nat) : (nxf q n p).Nodup := by
 unfold nxf
 refine List.pairwise_map.2 ((nx_nodup q n p).imp_of_mem ?_)
 intro a b ha hb hab e
 have := nx_pos (Int.natCast_nonneg p) ha
 have := nx_pos (Int.natCast_nonneg p) hb
 omega
theorem nxf_out {q n : Int} {p : Nat} (h : n ≤ p) : nxf q n p = [] := by
 unfold nxf; rw [nxL_out (.inr h)]; rfl
theorem nxf_len (q n : Int) (p : Nat) : (nxf q n p).length ≤ 1000 := by
 unfold nxf
 have := nxN_bd q n p
 unfold nxN at this
 rw [List.length_map]; omega
end Go.Eng
end
/-!  -/
noncomputable section
namespace Go.Eng
theorem dec_bad {w : Int} (h : decZ w 5 ≠ 0) : decZ w 0 = 0 := by
 unfold decZ at *
 simp only [if_true] at h
 split at h
 ·exact absurd rfl h
 ·rename_i g
  simp [g]
theorem dec_two (x : Int) : (decZ (IntKind.wrap .u32 x) 5 ≠ 0 ∧ decZ (IntKind.wrap .u32 x) 0 = 0) ∨ (decZ (IntKind.wrap .u32 x) 5 = 0 ∧ 1 ≤ decZ (IntKind.wrap .u32 x) 0) := by
 by_cases h : decZ (IntKind.wrap .u32 x) 5 = 0
 ·exact .inr ⟨h, (dec_in x h).1.1⟩
 ·exact .inl ⟨h, dec_bad h⟩
theorem nx_doc {c n p y0 y4 y5 : Int} (hp : 0 ≤ p) (hn : p < n) (e0 : y0 = decZ (IntKind.wrap .u32 (rdZ c p)) 0) (e4 : y4 = decZ (IntKind.wrap .u32 (rdZ c p)) 4) (e5 : y5 = decZ (IntKind.wrap .u32 (rdZ c p)) 5) :
  ((y5 ≠ 0 ∧ y0 = 0) ∨ (y5 = 0 ∧ 1 ≤ y0)) ∧ (y0 < 36 ∨ 40 < y0 ∨ 0 ≤ y4) ∧
  ((y0 = 0 ∨ y0 = 41 ∨ y0 = 43) ∨ ((y0 = 39 ∨ y0 = 40) ∧ n ≤ y4) ∨ ((y0 = 36 ∨ y0 = 37 ∨ y0 = 38) ∧ n ≤ y4 ∧ n ≤ p + 1) ∨ (y0 ≠ 36 ∧ y0 ≠ 37 ∧ y0 ≠ 38 ∧ y0 ≠ 39 ∧ y0 ≠ 40 ∧ n ≤ p + 1) → (0 : Int) = nxN c n p ∧ qQd [.int .i64] 0 (nxZ c n p) 0) ∧
  (((y0 = 39 ∨ y0 = 40) ∧ y4 < n) ∨ ((y0 = 36 ∨ y0 = 37 ∨ y0 = 38) ∧ y4 < n ∧ (n ≤ p + 1 ∨ y4 = p + 1)) → (1 : Int) = nxN c n p ∧ qQd [.int .i64] (qQq y4 0) (nxZ c n p) 1) ∧
  (((y0 = 36 ∨ y0 = 37 ∨ y0 = 38) ∧ n ≤ y4 ∧ p + 1 < n) ∨ (y0 ≠ 0 ∧ y0 ≠ 41 ∧ y0 ≠ 43 ∧ y0 ≠ 36 ∧ y0 ≠ 37 ∧ y0 ≠ 38 ∧ y0 ≠ 39 ∧ y0 ≠ 40 ∧ p + 1 < n) → (1 : Int) = nxN c n p ∧ qQd [.int .i64] (qQq (p + 1) 0) (nxZ c n p) 1) ∧
  ((y0 = 36 ∨ y0 = 37 ∨ y0 = 38) ∧ y4 < n ∧ p + 1 < n ∧ y4 < p + 1 → (2 : Int) = nxN c n p ∧ qQd [.int .i64] (qQq y4 (qQq (p + 1) 0)) (nxZ c n p) 2) ∧
  ((y0 = 36 ∨ y0 = 37 ∨ y0 = 38) ∧ y4 < n ∧ p + 1 < n ∧ p + 1 < y4 → (2 : Int) = nxN c n p ∧ qQd [.int .i64] (qQq (p + 1) (qQq y4 0)) (nxZ c n p) 2) := by
 have hL := nxL_in hp hn e0 e4
 have h2 := dec_two (rdZ c p)
 have h4 := dec4_pos (w := IntKind.wrap .u32 (rdZ c p))
 rw [← e0, ← e5] at h2
 rw [← e0, ← e4] at h4
 have go : ∀ l : List Int, nxC y0 y4 n p = l → (l.length : Int) = nxN c n p ∧ qQd [.int .i64] (LZ l) (nxZ c n p) l.length := fun l hl => nx_say (hL.trans hl) rfl rfl
 have go0 : nxC y0 y4 n p = [] → (0 : Int) = nxN c n p ∧ qQd [.int .i64] 0 (nxZ c n p) 0 := fun h => go _ h
 have go1 : ∀ a, nxC y0 y4 n p = [a] → (1 : Int) = nxN c n p ∧ qQd [.int .i64] (qQq a 0) (nxZ c n p) 1 := fun a h => by
  have := go _ h
  rw [nx_z1] at this
  exact this
 have go2' : ∀ a b, nxC y0 y4 n p = [a, b] → (2 : Int) = nxN c n p ∧ qQd [.int .i64] (qQq a (qQq b 0)) (nxZ c n p) 2 := fun a b h => by
  have := go _ h
  rw [nx_z2] at this
  exact this
 clear go
 refine ⟨h2, by omega, fun h => ?_, fun h => ?_, fun h => ?_, fun h => ?_, fun h => ?_⟩
 ·refine go0 ?_
  rcases h with h | ⟨h, h'⟩ | ⟨h, h', h''⟩ | h
  ·exact nxC_0 h
  ·rw [nxC_1 h, if_neg (by omega)]
  ·rw [nxC_2 h]; unfold go2; (repeat' split) <;> first | (exfalso; omega) | (simp; omega) | simp
  ·by_cases g : y0 = 0 ∨ y0 = 41 ∨ y0 = 43
   ·exact nxC_0 g
   ·rw [nxC_3 g (by omega) (by omega), if_neg (by omega)]
 ·refine go1 y4 ?_
  rcases h with ⟨h, h'⟩ | ⟨h, h', h''⟩
  ·rw [nxC_1 h, if_pos h']
  ·rw [nxC_2 h]; unfold go2; (repeat' split) <;> first | (exfalso; omega) | (simp; omega) | simp | (rw [List.filter_cons, List.filter_cons]; simp only [decide_eq_true_eq]; rw [if_pos (by omega), if_neg (by omega)]; rfl)
 ·refine go1 (p + 1) ?_
  rcases h with ⟨h, h', h''⟩ | h
  ·rw [nxC_2 h]; unfold go2; (repeat' split) <;> first | (exfalso; omega) | (simp; omega) | simp | (rw [List.filter_cons, List.filter_cons]; simp only [decide_eq_true_eq]; rw [if_pos (by omega), if_neg (by omega)]; rfl)
  ·rw [nxC_3 (by omega) (by omega) (by omega), if_pos (by omega)]
 ·have e : nxC y0 y4 n p = [y4, p + 1] := by rw [nxC_2 h.1]; unfold go2; rw [if_neg (by omega), if_pos h.2.2.2]; simp; omega
  exact go2' _ _ e
 ·have e : nxC y0 y4 n p = [p + 1, y4] := by rw [nxC_2 h.1]; unfold go2; rw [if_neg (by omega), if_neg (by omega)]; simp; omega
  exact go2' _ _ e
theorem rd_two0 (a b : Int) : rdZ (qQq a (qQq b 0)) 0 = a := qQy _ _
theorem rd_two1 (a b : Int) : rdZ (qQq a (qQq b 0)) 1 = b := by
 rw [qQi _ _ (by omega)]
 exact qQy _ _
theorem lz_map_rd (f : Nat → Int) (n : Nat) {i : Nat} (h : i < n) : rdZ (LZ ((List.range n).map f)) i = f i := by
 unfold rdZ
 rw [ZL_LZ, Int.toNat_natCast, List.getD_eq_getElem?_getD, List.getElem?_map, List.getElem?_range h]
 rfl
theorem nx_mapN {c n p : Int} (hp : 0 ≤ p) : nxL c n p = (nxf c n p.toNat).map fun x : Nat => (x : Int) := by
 obtain ⟨k, rfl⟩ := Int.eq_ofNat_of_zero_le hp
 unfold nxf
 rw [List.map_map]
 refine (List.map_id _).symm.trans (List.map_congr_left fun x hx => ?_)
 have := nx_pos (Int.natCast_nonneg k) hx
 simp only [Function.comp, id]
 omega
theorem nx_at {c n p k : Int} (hn : n ≤ 1000) (hp : 0 ≤ p) (h0 : 0 ≤ k) (h1 : k < nxN c n p) : ∃ t : Nat, (nxf c n p.toNat)[k.toNat]? = some t ∧ IntKind.wrap .i64 (rdZ (nxZ c n p) k) = t ∧ (t : Int) < n := by
 have hl : (nxf c n p.toNat).length = nxN c n p := by
  unfold nxN
  rw [nx_mapN hp, List.length_map]
 have hk : k.toNat < (nxf c n p.toNat).length := by omega
 have hlt := nxf_lt (List.getElem_mem hk)
 refine ⟨_, List.getElem?_eq_getElem hk, ?_, hlt⟩
 have e : rdZ (nxZ c n p) k = ((nxf c n p.toNat)[k.toNat] : Int) := by
  unfold nxZ rdZ
  rw [ZL_LZ, nx_mapN hp, List.getD_eq_getElem?_getD, List.getElem?_map, List.getElem?_eq_getElem hk]
  rfl
 rw [e]
 exact w64 (by omega) (by omega)
theorem nx_len {c n p : Int} (hp : 0 ≤ p) : ((nxf c n p.toNat).length : Int) = nxN c n p := by
 unfold nxN
 rw [nx_mapN hp, List.length_map]
open Classical in
theorem gfm_at {c n a b : Int} (hn : n ≤ 1000) {x : Nat} (hx : (x : Int) < n) : rdZ (gfmZ c n (qQq a (qQq b 0))) x ≠ 0 ↔ (0 ≤ a ∧ a < n ∧ Way (nxf c n) (fun y : Nat => (y : Int) = b) a.toNat x) := by
 unfold gfmZ
 rw [lz_map_rd _ _ (by omega), rd_two0, rd_two1]
 split
 ·rename_i h; simp [h]
 ·rename_i h; simp [h]
theorem row_bo {y q n : Int} (h : ∀ i : Nat, (i : Int) < n → (rdZ y i ≠ 0 ↔ rdZ q i ≠ 0)) : qQd [.bool] y q n := fun i hi => by
 have e : ∀ x, qQc [.bool] x = [.bool (x != 0)] := fun _ => rfl
 rw [e, e]
 have := h i hi
 by_cases a : rdZ y i = 0
 ·have b : rdZ q i = 0 := Classical.byContradiction fun g => this.2 g a
  rw [a, b]
 ·have b := this.1 a
  rw [bne_iff_ne.2 a, bne_iff_ne.2 b]
theorem rd_zero (i : Int) : rdZ 0 i = 0 := by unfold rdZ; rw [ZL_nil]; simp
theorem gfm_none {c n a b : Int} (hn : n ≤ 1000) (h : a < 0 ∨ n ≤ a ∨ a = b) : qQd [.bool] 0 (gfmZ c n (qQq a (qQq b 0))) n := by
 refine row_bo fun i hi => ?_
 rw [gfm_at hn hi, rd_zero]
 simp only [ne_eq, not_true_eq_false, false_iff]
 rintro ⟨h1, h2, h3⟩
 exact h3.nbar.1 (by omega)
def Seen (q : Int) (x : Nat) : Prop := rdZ q x ≠ 0
open Classical in
def cntS (q : Int) (n : Int) : Nat := ((List.range n.toNat).filter fun x => decide (Seen q x)).length
theorem cntS_le (q n : Int) : cntS q n ≤ n.toNat := by
 unfold cntS
 exact Nat.le_trans (List.length_filter_le _ _) (by simp)
structure FmS (c n a b q : Int) : Prop where
 snd : ∀ x : Nat, (x : Int) < n → Seen q x → Way (nxf c n) (fun y : Nat => (y : Int) = b) a.toNat x
 st : Seen q a.toNat
def CloG (c n b q p : Int) : Prop := ∀ x : Nat, (x : Int) < p → Seen q x → ∀ y ∈ nxf c n x, (y : Int) ≠ b → Seen q y
def CloK (c n b q p k : Int) : Prop := ∀ j t : Nat, (j : Int) < k → (nxf c n p.toNat)[j]? = some t → (t : Int) ≠ b → Seen q t
theorem seen_put {q : Int} {t x : Nat} : Seen (updZ q t 1) x ↔ (x = t ∨ Seen q x) := by
 unfold Seen
 rw [qZt]
 simp only [Int.toNat_natCast]
 by_cases e : x = t
 ·subst e; simp
 ·rw [if_neg e]
  exact ⟨.inr, fun h => h.resolve_left e⟩
open Classical in
theorem cntS_put {q n : Int} {t : Nat} (ht : (t : Int) < n) (h : ¬Seen q t) : cntS q n < cntS (updZ q t 1) n := by
 unfold cntS
 obtain ⟨l1, l2, e⟩ := List.append_of_mem (List.mem_range.2 (show t < n.toNat by omega))
 rw [e]
 have hm : ∀ l : List Nat, (l.filter fun x => decide (Seen q x)).length ≤ (l.filter fun x => decide (Seen (updZ q t 1) x)).length := fun l => by
  simp only [← List.countP_eq_length_filter]
  refine List.countP_mono_left fun x _ hx => ?_
  simp only [decide_eq_true_eq] at hx ⊢
  exact seen_put.2 (.inr hx)
 have h1 := hm l1
 have h2 := hm l2
 have h3 : Seen (updZ q t 1) t := seen_put.2 (.inl rfl)
 simp only [List.filter_append, List.length_append, List.filter_cons, h, h3, decide_true, decide_false, if_true, Bool.false_eq_true, if_false, List.length_cons]
 omega
theorem fm_start {c n a b : Int} (h0 : 0 ≤ a) (hb : a ≠ b) : FmS c n a b (updZ 0 a 1) := by
 obtain ⟨k, rfl⟩ := Int.eq_ofNat_of_zero_le h0
 refine ⟨fun x _ hx => ?_, ?_⟩
 ·rcases seen_put.1 hx with rfl | h
  ·exact .here (by simpa using hb)
  ·exact absurd (rd_zero _) h
 ·rw [Int.toNat_natCast]
  exact seen_put.2 (.inl rfl)
theorem fm_put {c n a b q p : Int} {t : Nat} (h : FmS c n a b q) (hp : 0 ≤ p) (hpn : p < n) (hs : rdZ q p ≠ 0) (ht : t ∈ nxf c n p.toNat) (hb : (t : Int) ≠ b) : FmS c n a b (updZ q t 1) := by
 obtain ⟨k, rfl⟩ := Int.eq_ofNat_of_zero_le hp
 refine ⟨fun x hx hsx => ?_, seen_put.2 (.inr h.st)⟩
 rcases seen_put.1 hsx with rfl | g
 ·exact (h.snd k hpn hs).on ht hb
 ·exact h.snd x hx g
structure FmM (c n a b q0 q ch p : Int) : Prop where
 s : FmS c n a b q
 ct : cntS q0 n + ch.toNat ≤ cntS q n
 cl : ch = 0 → CloG c n b q p
structure FmI (c n a b q0 q ch p k : Int) : Prop where
 s : FmS c n a b q
 ct : cntS q0 n + ch.toNat ≤ cntS q n
 at_ : rdZ q p ≠ 0
 cl : ch = 0 → CloG c n b q p ∧ CloK c n b q p k
theorem FmM.skip {c n a b q0 q ch p : Int} (h : FmM c n a b q0 q ch p) (hp : 0 ≤ p) (h0 : rdZ q p = 0) : FmM c n a b q0 q ch (p + 1) := by
 refine ⟨h.s, h.ct, fun e x hx hs y hy hb => ?_⟩
 by_cases g : (x : Int) = p
 ·rw [← g] at h0; exact absurd h0 hs
 ·exact h.cl e x (by omega) hs y hy hb
theorem FmM.in {c n a b q0 q ch p : Int} (h : FmM c n a b q0 q ch p) (h0 : rdZ q p ≠ 0) : FmI c n a b q0 q ch p 0 :=
 ⟨h.s, h.ct, h0, fun e => ⟨h.cl e, fun j t hj => by omega⟩⟩
theorem FmI.put {c n a b q0 q ch p k : Int} {t : Nat} (h : FmI c n a b q0 q ch p k) (hp : 0 ≤ p) (hpn : p < n) (hc : 0 ≤ ch ∧ ch ≤ 1) (hk : 0 ≤ k) (ht : (nxf c n p.toNat)[k.toNat]? = some t) (hb : (t : Int) ≠ b) (h0 : rdZ q t = 0) : FmI c n a b q0 (updZ q t 1) 1 p (k + 1) := by
 have hm := List.mem_of_getElem? ht
 have hlt := nxf_lt hm
 refine ⟨fm_put h.s hp hpn h.at_ hm hb, ?_, ?_, fun e => by omega⟩
 ·have := cntS_put hlt (fun g => g h0)
  have := h.ct
  omega
 ·obtain ⟨k, rfl⟩ := Int.eq_ofNat_of_zero_le hp
  exact seen_put.2 (.inr h.at_)
theorem FmI.on {c n a b q0 q ch p k : Int} {t : Nat} (h : FmI c n a b q0 q ch p k) (hk : 0 ≤ k) (ht : (nxf c n p.toNat)[k.toNat]? = some t) (hs : (t : Int) = b ∨ rdZ q t ≠ 0) : FmI c n a b q0 q ch p (k + 1) := by
 refine ⟨h.s, h.ct, h.at_, fun e => ⟨(h.cl e).1, fun j u hj hu hb => ?_⟩⟩
 by_cases g : (j : Int) = k
 ·have : j = k.toNat := by omega
  rw [this, ht] at hu
  cases hu
  exact hs.resolve_left hb
 ·exact (h.cl e).2 j u (by omega) hu hb
theorem FmI.out {c n a b q0 q ch p k : Int} (h : FmI c n a b q0 q ch p k) (hp : 0 ≤ p) (hk : nxN c n p ≤ k) : FmM c n a b q0 q ch (p + 1) := by
 refine ⟨h.s, h.ct, fun e x hx hs y hy hb => ?_⟩
 by_cases g : (x : Int) = p
 ·obtain ⟨j, hj⟩ := List.getElem?_of_mem hy
  have hl := nx_len (c := c) (n := n) hp
  have hjl := (List.getElem?_eq_some_iff.1 hj).1
  have e2 : p.toNat = x := by omega
  refine (h.cl e).2 j y ?_ (by rw [e2]; exact hj) hb
  rw [e2] at hl
  omega
 ·exact (h.cl e).1 x (by omega) hs y hy hb
theorem fm_end {c n a b q : Int} (hn : n ≤ 1000) (h0 : 0 ≤ a) (h1 : a < n) (h : FmS c n a b q) (hc : CloG c n b q n) : qQd [.bool] q (gfmZ c n (qQq a (qQq b 0))) n := by
 refine row_bo fun i hi => ?_
 rw [gfm_at hn hi]
 constructor
 ·intro hs
  exact ⟨h0, h1, h.snd i hi hs⟩
 ·rintro ⟨_, _, hw⟩
  have : (i : Int) < n ∧ Seen q i := hw.least (S := fun i : Nat => (i : Int) < n ∧ Seen q i) ⟨by omega, h.st⟩ fun x y hx hy hb => ⟨nxf_lt hy, hc x hx.1 hx.2 y hy hb⟩
  exact this.2
theorem gfm_0 {c n x : Int} (hn : n ≤ 1000) (h0 : 0 ≤ x) (h1 : x < n) : rdZ (gfmZ c n (qQq 0 (qQq (-1) 0))) x ≠ 0 ↔ Way (nxf c n) (fun _ => False) 0 x.toNat := by
 obtain ⟨k, rfl⟩ := Int.eq_ofNat_of_zero_le h0
 rw [gfm_at hn h1, Int.toNat_natCast]
 have e : (fun y : Nat => (y : Int) = -1) = fun _ => False := by funext y; simp
 rw [e]
 exact ⟨fun h => h.2.2, fun h => ⟨by omega, by omega, h⟩⟩
def LpJ (c n h : Int) (p : Nat) (k : Int) : Prop := ∃ j b : Nat, (j : Int) < k ∧ (bksL c n n.toNat)[j]? = some ((b : Int), h) ∧ Way (nxf c n) (fun _ => False) 0 p ∧ ((p : Int) = h ∨ Way (nxf c n) (fun x => (x : Int) = h) p b)
theorem LpJ.zero {c n h : Int} {p : Nat} : ¬LpJ c n h p 0 := fun ⟨j, _, hj, _⟩ => by omega
theorem LpJ.all {c n h : Int} {p : Nat} {k : Int} (hn : n ≤ 1000) (hk : bkN c n ≤ k) : LpJ c n h p k ↔ lpP c n h p := by
 have e2 : min n.toNat 1000 = n.toNat := by omega
 unfold bkN at hk
 rw [e2] at hk
 unfold lpP
 rw [e2]
 constructor
 ·rintro ⟨j, b, hj, e, hw⟩
  exact ⟨b, List.mem_of_getElem? e, hw⟩
 ·rintro ⟨b, hm, hw⟩
  obtain ⟨j, hj⟩ := List.getElem?_of_mem hm
  exact ⟨j, b, by have := (List.getElem?_eq_some_iff.1 hj).1; omega, hj, hw⟩
def NoC (c n : Int) (x : Nat) : Prop := Way (nxf c n) (fun _ => False) 0 x → ∀ q ∈ nxf c n x, ¬Way (nxf c n) (fun _ => False) q x
def NoK (c n p k : Int) : Prop := ∀ j t : Nat, (j : Int) < k → (nxf c n p.toNat)[j]? = some t → Way (nxf c n) (fun _ => False) 0 p.toNat → ¬Way (nxf c n) (fun _ => False) t p.toNat
theorem gfm_f {c n a x : Int} (hn : n ≤ 1000) (a0 : 0 ≤ a) (a1 : a < n) (h0 : 0 ≤ x) (h1 : x < n) : rdZ (gfmZ c n (qQq a (qQq (-1) 0))) x ≠ 0 ↔ Way (nxf c n) (fun _ => False) a.toNat x.toNat := by
 obtain ⟨k, rfl⟩ := Int.eq_ofNat_of_zero_le h0
 rw [gfm_at hn h1, Int.toNat_natCast]
 have e : (fun y : Nat => (y : Int) = -1) = fun _ => False := by funext y; simp
 rw [e]
 exact ⟨fun h => h.2.2, fun h => ⟨a0, a1, h⟩⟩
theorem NoK.next {c n p k : Int} {t : Nat} (h : NoK c n p k) (hk : 0 ≤ k) (ht : (nxf c n p.toNat)[k.toNat]? = some t) (hno : Way (nxf c n) (fun _ => False) 0 p.toNat → ¬Way (nxf c n) (fun _ => False) t p.toNat) : NoK c n p (k + 1) := fun j u hj hu => by
 by_cases g : (j : Int) = k
 ·have : j = k.toNat := by omega
  rw [this, ht] at hu
  cases hu
  exact hno
 ·exact h j u (by omega) hu
theorem NoK.done {c n p k : Int} (h : NoK c n p k) (hp : 0 ≤ p) (hk : nxN c n p ≤ k) : NoC c n p.toNat := fun hw q hq => by
 obtain ⟨j, hj⟩ := List.getElem?_of_mem hq
 have := nx_len (c := c) (n := n) hp
 have := (List.getElem?_eq_some_iff.1 hj).1
 exact h j q (by omega) hj hw
theorem cyc_ne {c n : Int} : cycZ c n ≠ 0 ↔ Cyc (nxf c n) := by
 unfold cycZ
 split
 ·rename_i h; simp [h]
 ·rename_i h; simp [h]
theorem cyc_none {c n : Int} (h : ∀ x : Nat, (x : Int) < n → NoC c n x) : cycZ c n = 0 := Classical.byContradiction fun g => by
 obtain ⟨p, hp, q, hq, hw⟩ := cyc_ne.1 g
 by_cases e : (p : Int) < n
 ·exact h p e hp q hq hw
 ·rw [nxf_out (by omega)] at hq
  cases hq
theorem cyc_some {c n p : Int} {t : Nat} (hp : Way (nxf c n) (fun _ => False) 0 p.toNat) (ht : t ∈ nxf c n p.toNat) (hw : Way (nxf c n) (fun _ => False) t p.toNat) : cycZ c n ≠ 0 := cyc_ne.2 ⟨_, hp, t, ht, hw⟩
end Go.Eng
end
/-!  -/
noncomputable section
namespace Go.Eng
theorem shp_3 {op : Int} (h : op = 32 ∨ (34 ≤ op ∧ op ≤ 38)) : shpZ op 0 = 1 ∧ shpZ op 1 = 1 ∧ shpZ op 2 = 0 ∧ shpZ op 3 = 3 := by
 unfold shpZ
 refine ⟨?_, ?_, ?_, ?_⟩ <;> simp only [Int.reduceEq, if_true, if_false] <;> omega
theorem cck_3 {op d a b n : Int} (h : op = 32 ∨ (34 ≤ op ∧ op ≤ 38)) : cckI op d a b n = if ¬ (0 ≤ d ∧ d ≤ 31) then 6 else if ¬ (0 ≤ a ∧ a ≤ 31) then 6 else if ¬ (b = 0) then 3 else if ¬ (0 ≤ n ∧ n ≤ 65535) then 6 else 0 := by
 obtain ⟨h0, h1, h2, h3⟩ := shp_3 h
 unfold cckI fieE
 rw [h0, h1, h2, h3, if_neg (by omega)]
 simp only [Int.reduceEq, if_true, if_false]
 omega
theorem shp_5 {op : Int} (h : op = 39) : shpZ op 0 = 0 ∧ shpZ op 1 = 0 ∧ shpZ op 2 = 0 ∧ shpZ op 3 = 3 := by
 unfold shpZ
 refine ⟨?_, ?_, ?_, ?_⟩ <;> simp only [Int.reduceEq, if_true, if_false] <;> omega
theorem cck_5 {op d a b n : Int} (h : op = 39) : cckI op d a b n = if ¬ (d = 0) then 3 else if ¬ (a = 0) then 3 else if ¬ (b = 0) then 3 else if ¬ (0 ≤ n ∧ n ≤ 65535) then 6 else 0 := by
 obtain ⟨h0, h1, h2, h3⟩ := shp_5 h
 unfold cckI fieE
 rw [h0, h1, h2, h3, if_neg (by omega)]
 simp only [Int.reduceEq, if_true, if_false]
 omega
theorem cckZ_I (op d a b n : Int) : cckZ op d (qQq a (qQq b (qQq n 0))) = cckI op d a b n := by
 unfold cckZ
 simp [qQy, qQi]
end Go.Eng
end
/-!  -/
noncomputable section
namespace Go.Eng
def rokP (x : Int) : Prop := 1 ≤ qZh x ∧ ¬ seqZ (qQq 1 (qQq (dropZ (rdZ x 1) 0) 0)) (qQq 1 (qQq (qQq 114 0) 0)) = 0 ∧ ¬ numK (qQq (qZh x - 1) (qQq (dropZ (rdZ x 1) 1) 0)) = 0
noncomputable instance (x : Int) : Decidable (rokP x) := by unfold rokP; infer_instance
end Go.Eng
end
/-!  -/
noncomputable section
namespace Go.Eng
set_option maxRecDepth 10000
end Go.Eng
end
/-!  -/
noncomputable section
namespace Go.Eng
noncomputable abbrev nmOf (q : Int) (i : Nat) : ByteArray := qQv (rdZ (rdZ q i) 0)
noncomputable abbrev txs (z : Int) (m : Nat) : List (List UInt8) := (List.range m).map fun (j : Nat) => bytL (rdZ z j)
noncomputable abbrev txq (q : Int) (m : Nat) : List (List UInt8) := (List.range m).map fun (j : Nat) => bytL (rdZ (rdZ q j) 0)
end Go.Eng
end
/-!  -/
noncomputable section
namespace Go.Eng
end Go.Eng
end
/-!  -/
noncomputable section
namespace Go.Eng
section
variable {w : Int} {N : Nat} {n1 : Int} {m : Mac}
def Tg (op n pc t : Int) : Prop := (t = IntKind.wrap .i64 (pc + 1) ∧ op ≠ 39 ∧ op ≠ 40 ∧ op ≠ 43) ∨ (t = n ∧ 36 ≤ op ∧ op ≤ 40)
theorem tg_next {c : Int} {N p : Nat} {t : Int} (hN : N ≤ 1000000) (hp : p < N) (h5 : decZ (IntKind.wrap .u32 (rdZ c p)) 5 = 0) (hj : decZ (IntKind.wrap .u32 (rdZ c p)) 0 ≠ 41)
  (ht : Tg (decZ (IntKind.wrap .u32 (rdZ c p)) 0) (decZ (IntKind.wrap .u32 (rdZ c p)) 4) p t) (h0 : 0 ≤ t) (h1 : t < N) : t.toNat ∈ nxf c N p := by
 have hL := nxL_in (q := c) (n := N) (p := p) (by omega) (by omega) rfl rfl
 have hop := (dec_in (rdZ c p) h5).1
 generalize decZ (IntKind.wrap .u32 (rdZ c p)) 0 = y0 at *
 generalize decZ (IntKind.wrap .u32 (rdZ c p)) 4 = y4 at *
 have ew : IntKind.wrap .i64 ((p : Int) + 1) = p + 1 := w64 (by omega) (by omega)
 unfold Tg at ht
 rw [ew] at ht
 unfold nxf
 rw [hL]
 refine List.mem_map.2 ⟨t, ?_, rfl⟩
 by_cases g1 : y0 = 39 ∨ y0 = 40
 ·rw [nxC_1 g1]
  have : t = y4 := by omega
  rw [if_pos (by omega), this]
  simp
 ·by_cases g2 : y0 = 36 ∨ y0 = 37 ∨ y0 = 38
  ·rw [nxC_2 g2, List.mem_filter]
   refine ⟨?_, by simpa using h1⟩
   unfold go2
   have : t = y4 ∨ t = p + 1 := by omega
   split
   ·simp; omega
   ·split <;> (simp; omega)
  ·rw [nxC_3 (by omega) g1 g2]
   have : t = p + 1 := by omega
   rw [if_pos (by omega), this]
   simp
end
end Go.Eng
end
