/-
  Parts of the engine, a program's symbolic run, proved sound; and of plain laws.
-/
import Derived.Test.YtieocjnfjjgjeaaGp2
import Derived.Test.YtieocjnfjjgjeaaGu5
set_option linter.unusedVariables false
set_option linter.unusedSimpArgs false
/-!  -/
noncomputable section
namespace Go.Eng
abbrev KeyE (p a : Int) (x : Ht) : Prop := p = x.1 ∧ a = x.2.1
def NdK (L : List Ht) : Prop := L.Pairwise fun x y => ¬KeyE x.1 x.2.1 y
def LtH (x y : Ht) : Prop := x.1 < y.1 ∨ (x.1 = y.1 ∧ x.2.1 < y.2.1)
def SrtP (L : List Ht) : Prop := L.Pairwise LtH
def hotL (q : Int) : Nat → List Ht
 | 0 => []
 | n + 1 => setM (IntKind.wrap .i64 (rdZ (rdZ q n) 0)) (IntKind.wrap .i64 (rdZ (rdZ q n) 1)) (IntKind.wrap .i64 ((getM (IntKind.wrap .i64 (rdZ (rdZ q n) 0)) (IntKind.wrap .i64 (rdZ (rdZ q n) 1)) (hotL q n)).1 + 1))
   (IntKind.wrap .i64 ((getM (IntKind.wrap .i64 (rdZ (rdZ q n) 0)) (IntKind.wrap .i64 (rdZ (rdZ q n) 1)) (hotL q n)).2 + IntKind.wrap .i64 (rdZ (rdZ q n) 2))) (hotL q n)
theorem getM_none {p a : Int} : ∀ {L : List Ht}, (∀ x ∈ L, ¬KeyE p a x) → getM p a L = (0, 0)
 | [], _ => rfl
 | h :: t, hn => by
  unfold getM
  rw [if_neg (hn h (by simp)), getM_none fun x hx => hn x (by simp [hx])]
theorem getM_mem {p a : Int} : ∀ {L : List Ht} {x : Ht}, NdK L → x ∈ L → KeyE p a x → getM p a L = (x.2.2.1, x.2.2.2)
 | [], _, _, hx, _ => by simp at hx
 | h :: t, x, hn, hx, hk => by
  unfold getM
  obtain ⟨h1, h2⟩ := List.pairwise_cons.1 hn
  rcases List.mem_cons.1 hx with rfl | hx
  ·rw [if_pos hk]
  ·rw [if_neg fun e => h1 x hx ⟨e.1.symm.trans hk.1, e.2.symm.trans hk.2⟩, getM_mem h2 hx hk]
theorem setM_mem {p a t c : Int} : ∀ {L : List Ht} {x : Ht}, NdK L → (x ∈ setM p a t c L ↔ x = (p, a, t, c) ∨ (x ∈ L ∧ ¬KeyE p a x))
 | [], x, _ => by simp [setM]
 | h :: l, x, hn => by
  obtain ⟨h1, h2⟩ := List.pairwise_cons.1 hn
  unfold setM
  by_cases hk : p = h.1 ∧ a = h.2.1
  ·rw [if_pos hk, List.mem_cons, List.mem_cons]
   constructor
   ·rintro (rfl | hx)
    ·exact .inl rfl
    ·exact .inr ⟨.inr hx, fun e => h1 x hx ⟨hk.1.symm.trans e.1, hk.2.symm.trans e.2⟩⟩
   ·rintro (rfl | ⟨rfl | hx, e⟩)
    ·exact .inl rfl
    ·exact absurd hk e
    ·exact .inr hx
  ·rw [if_neg hk, List.mem_cons, List.mem_cons, setM_mem h2]
   constructor
   ·rintro (rfl | rfl | ⟨hx, e⟩)
    ·exact .inr ⟨.inl rfl, hk⟩
    ·exact .inl rfl
    ·exact .inr ⟨.inr hx, e⟩
   ·rintro (rfl | ⟨rfl | hx, e⟩)
    ·exact .inr (.inl rfl)
    ·exact .inl rfl
    ·exact .inr (.inr ⟨hx, e⟩)
theorem setM_nd {p a t c : Int} : ∀ {L : List Ht}, NdK L → NdK (setM p a t c L)
 | [], _ => by simp [setM, NdK]
 | h :: l, hn => by
  obtain ⟨h1, h2⟩ := List.pairwise_cons.1 hn
  unfold setM
  by_cases hk : p = h.1 ∧ a = h.2.1
  ·rw [if_pos hk]
   exact List.pairwise_cons.2 ⟨fun y hy e => h1 y hy ⟨hk.1.symm.trans e.1, hk.2.symm.trans e.2⟩, h2⟩
  ·rw [if_neg hk]
   refine List.pairwise_cons.2 ⟨fun y hy e => ?_, setM_nd h2⟩
   rcases (setM_mem h2).1 hy with rfl | ⟨hy, _⟩
   ·exact hk ⟨e.1.symm, e.2.symm⟩
   ·exact h1 y hy e
theorem setM_len {p a t c : Int} : ∀ {L : List Ht}, (setM p a t c L).length ≤ L.length + 1
 | [] => by simp [setM]
 | h :: l => by
  unfold setM
  have := setM_len (p := p) (a := a) (t := t) (c := c) (L := l)
  split <;> simp <;> omega
theorem hot_nd (q : Int) : ∀ n, NdK (hotL q n)
 | 0 => List.Pairwise.nil
 | n + 1 => setM_nd (hot_nd q n)
theorem hot_len (q : Int) : ∀ n, (hotL q n).length ≤ n
 | 0 => Nat.le_refl _
 | n + 1 => Nat.le_trans setM_len (Nat.succ_le_succ (hot_len q n))
theorem LtH.ne {x y : Ht} (h : LtH x y) : ¬KeyE x.1 x.2.1 y := fun e => by unfold LtH at h; unfold KeyE at e; omega
theorem SrtP.nd {L : List Ht} (h : SrtP L) : NdK L := h.imp fun h => LtH.ne h
theorem NdK.nodup {L : List Ht} (h : NdK L) : L.Nodup := h.imp fun h e => h (by subst e; exact ⟨rfl, rfl⟩)
theorem insM_mem {p a c : Int} (hc : IntKind.wrap .i64 c = c) : ∀ {M : List Ht} {x : Ht}, SrtP M → (x ∈ insM p a c M ↔ x = (p, a, IntKind.wrap .i64 ((getM p a M).1 + 1), IntKind.wrap .i64 ((getM p a M).2 + c)) ∨ (x ∈ M ∧ ¬KeyE p a x))
 | [], x, _ => by
  simp only [insM, getM, Int.zero_add, hc]
  simp
  rfl
 | h :: l, x, hs => by
  obtain ⟨h1, h2⟩ := List.pairwise_cons.1 hs
  unfold insM
  by_cases g1 : h.1 < p ∨ (h.1 = p ∧ h.2.1 < a)
  ·have hk : ¬KeyE p a h := fun e => by unfold KeyE at e; omega
   rw [if_pos g1, List.mem_cons, List.mem_cons, insM_mem hc h2, show getM p a (h :: l) = getM p a l by rw [getM, if_neg hk]]
   constructor
   ·rintro (rfl | rfl | ⟨hx, e⟩)
    ·exact .inr ⟨.inl rfl, hk⟩
    ·exact .inl rfl
    ·exact .inr ⟨.inr hx, e⟩
   ·rintro (rfl | ⟨rfl | hx, e⟩)
    ·exact .inr (.inl rfl)
    ·exact .inl rfl
    ·exact .inr (.inr ⟨hx, e⟩)
  ·rw [if_neg g1]
   by_cases g2 : h.1 = p ∧ h.2.1 = a
   ·have hk : KeyE p a h := ⟨g2.1.symm, g2.2.symm⟩
    rw [if_pos g2, show getM p a (h :: l) = (h.2.2.1, h.2.2.2) by rw [getM, if_pos hk], List.mem_cons, List.mem_cons]
    constructor
    ·rintro (rfl | hx)
     ·exact .inl rfl
     ·exact .inr ⟨.inr hx, fun e => LtH.ne (h1 x hx) ⟨hk.1.symm.trans e.1, hk.2.symm.trans e.2⟩⟩
    ·rintro (rfl | ⟨rfl | hx, e⟩)
     ·exact .inl rfl
     ·exact absurd hk e
     ·exact .inr hx
   ·have hk : ∀ y ∈ h :: l, ¬KeyE p a y := fun y hy e => by
     unfold KeyE at e
     rcases List.mem_cons.1 hy with rfl | hy
     ·omega
     ·have := h1 y hy
      unfold LtH at this
      omega
    rw [if_neg g2, getM_none hk, List.mem_cons, Int.zero_add, Int.zero_add, hc]
    constructor
    ·rintro (rfl | hx)
     ·exact .inl rfl
     ·exact .inr ⟨hx, hk x hx⟩
    ·rintro (rfl | ⟨hx, _⟩)
     ·exact .inl rfl
     ·exact .inr hx
theorem LtH.trans {x y z : Ht} (h : LtH x y) (k : LtH y z) : LtH x z := by unfold LtH at *; omega
theorem insM_srt {p a c : Int} (hc : IntKind.wrap .i64 c = c) : ∀ {M : List Ht}, SrtP M → SrtP (insM p a c M)
 | [], _ => by simp [insM, SrtP]
 | h :: l, hs => by
  obtain ⟨h1, h2⟩ := List.pairwise_cons.1 hs
  unfold insM
  by_cases g1 : h.1 < p ∨ (h.1 = p ∧ h.2.1 < a)
  ·rw [if_pos g1]
   refine List.pairwise_cons.2 ⟨fun y hy => ?_, insM_srt hc h2⟩
   rcases (insM_mem hc h2).1 hy with rfl | ⟨hy, _⟩
   ·exact g1
   ·exact h1 y hy
  ·rw [if_neg g1]
   by_cases g2 : h.1 = p ∧ h.2.1 = a
   ·rw [if_pos g2]
    refine List.pairwise_cons.2 ⟨fun y hy => ?_, h2⟩
    have := h1 y hy
    unfold LtH at this ⊢
    show p < y.1 ∨ (p = y.1 ∧ a < y.2.1)
    omega
   ·rw [if_neg g2]
    have g : LtH (p, a, 1, c) h := by
     show p < h.1 ∨ (p = h.1 ∧ a < h.2.1)
     omega
    exact List.pairwise_cons.2 ⟨fun y hy => by
     rcases List.mem_cons.1 hy with rfl | hy
     ·exact g
     ·exact g.trans (h1 y hy), hs⟩
theorem hrw_srt (q : Int) : ∀ n, SrtP (hrwL q n)
 | 0 => List.Pairwise.nil
 | n + 1 => insM_srt (ww _) (hrw_srt q n)
theorem getM_same {p a : Int} {L M : List Ht} (hL : NdK L) (hM : NdK M) (h : ∀ x, x ∈ L ↔ x ∈ M) : getM p a L = getM p a M := by
 by_cases hx : ∃ x ∈ L, KeyE p a x
 ·obtain ⟨x, hx, hk⟩ := hx
  rw [getM_mem hL hx hk, getM_mem hM ((h x).1 hx) hk]
 ·rw [getM_none fun x hx' e => hx ⟨x, hx', e⟩, getM_none fun x hx' e => hx ⟨x, (h x).2 hx', e⟩]
theorem hot_mem (q : Int) : ∀ (n : Nat) (x : Ht), x ∈ hotL q n ↔ x ∈ hrwL q n
 | 0, x => by simp [hotL, hrwL]
 | n + 1, x => by
  have ih := hot_mem q n
  unfold hotL hrwL
  rw [setM_mem (hot_nd q n), insM_mem (ww _) (hrw_srt q n), getM_same (hot_nd q n) (hrw_srt q n).nd ih, ih]
theorem hot_perm (q : Int) (n : Nat) : (hotL q n).Perm (hrwL q n) := (List.perm_ext_iff_of_nodup (hot_nd q n).nodup (hrw_srt q n).nd.nodup).2 (hot_mem q n)
theorem hot_sorted {q : Int} {n : Nat} {D : List Ht} (hp : D.Perm (hotL q n)) (hs : D.Pairwise fun x y => ¬LtH y x) : D = hrwL q n := by
 have hp2 := hp.trans (hot_perm q n)
 refine List.Perm.eq_of_pairwise (le := fun x y => ¬LtH y x) (fun x y hx hy h1 h2 => ?_) hs ((hrw_srt q n).imp fun {x y} h k => by unfold LtH at h k; omega) hp2
 by_cases e : x = y
 ·exact e
 ·exfalso
  have hx2 := (hp2.mem_iff).1 hx
  have h3 : ∀ {M : List Ht}, SrtP M → x ∈ M → y ∈ M → x ≠ y → LtH x y ∨ LtH y x := fun {M} hM => by
   induction hM with
   | nil => intro h; simp at h
   | cons h1 _ ih =>
    intro a b c
    rcases List.mem_cons.1 a with a1 | a <;> rcases List.mem_cons.1 b with b1 | b
    ·exact absurd (a1.trans b1.symm) c
    ·exact .inl (a1 ▸ h1 _ b)
    ·exact .inr (b1 ▸ h1 _ a)
    ·exact ih a b c
  rcases h3 (hrw_srt q n) hx2 hy e with h | h
  ·exact h2 h
  ·exact h1 h
def colH (L : List Ht) (k : Int × Int) : Ht := (k.1, k.2, (getM k.1 k.2 L).1, (getM k.1 k.2 L).2)
theorem col_id {L : List Ht} (h : NdK L) {x : Ht} (hx : x ∈ L) : colH L (x.1, x.2.1) = x := by
 unfold colH
 rw [getM_mem h hx ⟨rfl, rfl⟩]
theorem col_perm {L : List Ht} (h : NdK L) {ks : List (Int × Int)} (hp : ks.Perm (L.map fun x => (x.1, x.2.1))) : (ks.map (colH L)).Perm L := by
 refine (hp.map (colH L)).trans ?_
 rw [List.map_map]
 have : L.map (colH L ∘ fun x => (x.1, x.2.1)) = L := by
  conv => rhs; rw [← List.map_id L]
  exact List.map_congr_left fun x hx => col_id h hx
 rw [this]
def htV (h : Ht) : List Value := [.int .i64 h.1, .int .i64 h.2.1, .int .i64 h.2.2.1, .int .i64 h.2.2.2]
def flH (L : List Ht) : List Value := (L.map htV).flatten
theorem flH_len : ∀ L : List Ht, (flH L).length = L.length * 4
 | [] => rfl
 | x :: L => by
  have := flH_len L
  unfold flH at *
  simp only [List.map_cons, List.flatten_cons, List.length_append, List.length_cons, this, htV, List.length_nil]
  omega
theorem rowV_fl (q : Int) (n : Nat) : rowV ht4 q n = flH (rwH q n) := by
 have h : ∀ (n i : Nat), tabL (fun i => qQd ht4 (rdZ q i)) i n = flH ((List.range' i n).map (elH q)) := fun n => by
  induction n with
  | zero => intro i; rfl
  | succ n ih =>
   intro i
   rw [List.range'_succ, tabL, ih (i + 1)]
   rfl
 unfold rowV rwH
 rw [h, List.range_eq_range']
theorem rowV_hrw (q : Int) {m : Nat} (hm : m ≤ 1000000) : (hrwN q m).toNat = (hrwL q m).length ∧ rowV ht4 (hrwZ q m) (hrwN q m).toNat = flH (hrwL q m) := by
 have e : min ((m : Nat) : Int).toNat 1000000 = m := by omega
 have e1 : (hrwN q m).toNat = (hrwL q m).length := by unfold hrwN; rw [e]; simp
 refine ⟨e1, ?_⟩
 rw [e1, rowV_fl]
 unfold hrwZ
 rw [e, rwH_LZ (hrw_w q m)]
end Go.Eng
end
