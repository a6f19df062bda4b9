/-
  Parts of the engine, a program's symbolic run, proved sound; and of plain laws.
-/
import Derived.Test.YtieocjnfjjgjeabGp2
import Derived.Test.YtieocjnfjjgjeabGu5
set_option linter.unusedVariables false
set_option linter.unusedSimpArgs false
/-!  -/
noncomputable section
namespace Go.Eng
abbrev KeyE (p a : Int) (x : Ht) : Prop := p = x.1 ∧ a = x.2.1
def NdK (L : List Ht) : Prop := L.Pairwise fun x y => ¬KeyE x.1 x.2.1 y
def LtH (x y : Ht) : Prop := x.1 < y.1 ∨ (x.1 = y.1 ∧ x.2.1 < y.2.1)
def SrtP (L : List Ht) : Prop := L.Pairwise LtH
def hotL (q : Int) : Nat → List Ht
 | 0 => []
 | n + 1 => setM (IntKind.wrap .i64 (rdZ (rdZ q n) 0)) (IntKind.wrap .i64 (rdZ (rdZ q n) 1)) (IntKind.wrap .i64 ((getM (IntKind.wrap .i64 (rdZ (rdZ q n) 0)) (IntKind.wrap .i64 (rdZ (rdZ q n) 1)) (hotL q n)).1 + 1))
   (IntKind.wrap .i64 ((getM (IntKind.wrap .i64 (rdZ (rdZ q n) 0)) (IntKind.wrap .i64 (rdZ (rdZ q n) 1)) (hotL q n)).2 + IntKind.wrap .i64 (rdZ (rdZ q n) 2))) (hotL q n)
theorem qKu {p a : Int} : ∀ {L : List Ht}, (∀ x ∈ L, ¬KeyE p a x) → getM p a L = (0, 0)
 | [], _ => rfl
 | h :: t, hn => by
  unfold getM
  rw [if_neg (hn h (by simp)), qKu fun x hx => hn x (by simp [hx])]
theorem getM_mem {p a : Int} : ∀ {L : List Ht} {x : Ht}, NdK L → x ∈ L → KeyE p a x → getM p a L = (x.2.2.1, x.2.2.2)
 | [], _, _, hx, _ => by simp at hx
 | h :: t, x, hn, hx, hk => by
  unfold getM
  obtain ⟨h1, h2⟩ := List.pairwise_cons.1 hn
  rcases List.mem_cons.1 hx with rfl | hx
  ·rw [if_pos hk]
  ·rw [if_neg fun e => h1 x hx ⟨e.1.symm.trans hk.1, e.2.symm.trans hk.2⟩, getM_mem h2 hx hk]
theorem setM_mem {p a t c : Int} : ∀ {L : List Ht} {x : Ht}, NdK L → (x ∈ setM p a t c L ↔ x = (p, a, t, c) ∨ (x ∈ L ∧ ¬KeyE p a x))
 | [], x, _ => by simp [setM]
 | h :: l, x, hn => by
  obtain ⟨h1, h2⟩ := List.pairwise_cons.1 hn
  unfold setM
  by_cases hk : p = h.1 ∧ a = h.2.1
  ·rw [if_pos hk, List.mem_cons, List.mem_cons]
   constructor
   ·rintro (rfl | hx)
    ·exact .inl rfl
    ·exact .inr ⟨.inr hx, fun e => h1 x hx ⟨hk.1.symm.trans e.1, hk.2.symm.trans e.2⟩⟩
   ·rintro (rfl | ⟨rfl | hx, e⟩)
    ·exact .inl rfl
    ·exact absurd hk e
    ·exact .inr hx
  ·rw [if_neg hk, List.mem_cons, List.mem_cons, setM_mem h2]
   constructor
   ·rintro (rfl | rfl | ⟨hx, e⟩)
    ·exact .inr ⟨.inl rfl, hk⟩
    ·exact .inl rfl
    ·exact .inr ⟨.inr hx, e⟩
   ·rintro (rfl | ⟨rfl | hx, e⟩)
    ·exact .inr (.inl rfl)
    ·exact .inl rfl
    ·exact .inr (.inr ⟨hx, e⟩)
theorem setM_nd {p a t c : Int} : ∀ {L : List Ht}, NdK L → NdK (setM p a t c L)
 | [], _ => by simp [setM, NdK]
 | h :: l, hn => by
  obtain ⟨h1, h2⟩ := List.pairwise_cons.1 hn
  unfold setM
  by_cases hk : p = h.1 ∧ a = h.2.1
  ·rw [if_pos hk]
   exact List.pairwise_cons.2 ⟨fun y hy e => h1 y hy ⟨hk.1.symm.trans e.1, hk.2.symm.trans e.2⟩, h2⟩
  ·rw [if_neg hk]
   refine List.pairwise_cons.2 ⟨fun y hy e => ?_, setM_nd h2⟩
   rcases (setM_mem h2).1 hy with rfl | ⟨hy, _⟩
   ·exact hk ⟨e.1.symm, e.2.symm⟩
   ·exact h1 y hy e
theorem setM_len {p a t c : Int} : ∀ {L : List Ht}, (setM p a t c L).length ≤ L.length + 1
 | [] => by simp [setM]
 | h :: l => by
  unfold setM
  have := setM_len (p := p) (a := a) (t := t) (c := c) (L := l)
  split <;> simp <;> omega
theorem hot_nd (q : Int) : ∀ n, NdK (hotL q n)
 | 0 => List.Pairwise.nil
 | n + 1 => setM_nd (hot_nd q n)
theorem hot_len (q : Int) : ∀ n, (hotL q n).length ≤ n
 | 0 => Nat.le_refl _
 | n + 1 => Nat.le_trans setM_len (Nat.succ_le_succ (hot_len q n))
theorem LtH.ne {x y : Ht} (h : LtH x y) : ¬KeyE x.1 x.2.1 y := fun e => by unfold LtH at h; unfold KeyE at e; omega
theorem SrtP.nd {L : List Ht} (h : SrtP L) : NdK L := h.imp fun h => LtH.ne h
theorem NdK.nodup {L : List Ht} (h : NdK L) : L.Nodup := h.imp fun h e => h (by subst e; exact ⟨rfl, rfl⟩)
theorem qXs {p a c : Int} (hc : IntKind.wrap .i64 c = c) : ∀ {M : List Ht} {x : Ht}, SrtP M → (x ∈ insM p a c M ↔ x = (p, a, IntKind.wrap .i64 ((getM p a M).1 + 1), IntKind.wrap .i64 ((getM p a M).2 + c)) ∨ (x ∈ M ∧ ¬KeyE p a x))
 | [], x, _ => by
  simp only [insM, getM, Int.zero_add, hc]
  simp
  rfl
 | h :: l, x, hs => by
  obtain ⟨h1, h2⟩ := List.pairwise_cons.1 hs
  unfold insM
  by_cases g1 : h.1 < p ∨ (h.1 = p ∧ h.2.1 < a)
  ·have hk : ¬KeyE p a h := fun e => by unfold KeyE at e; omega
   rw [if_pos g1, List.mem_cons, List.mem_cons, qXs hc h2, show getM p a (h :: l) = getM p a l by rw [getM, if_neg hk]]
   constructor
   ·rintro (rfl | rfl | ⟨hx, e⟩)
    ·exact .inr ⟨.inl rfl, hk⟩
    ·exact .inl rfl
    ·exact .inr ⟨.inr hx, e⟩
   ·rintro (rfl | ⟨rfl | hx, e⟩)
    ·exact .inr (.inl rfl)
    ·exact .inl rfl
    ·exact .inr (.inr ⟨hx, e⟩)
  ·rw [if_neg g1]
   by_cases g2 : h.1 = p ∧ h.2.1 = a
   ·have hk : KeyE p a h := ⟨g2.1.symm, g2.2.symm⟩
    rw [if_pos g2, show getM p a (h :: l) = (h.2.2.1, h.2.2.2) by rw [getM, if_pos hk], List.mem_cons, List.mem_cons]
    constructor
    ·rintro (rfl | hx)
     ·exact .inl rfl
     ·exact .inr ⟨.inr hx, fun e => LtH.ne (h1 x hx) ⟨hk.1.symm.trans e.1, hk.2.symm.trans e.2⟩⟩
    ·rintro (rfl | ⟨rfl | hx, e⟩)
     ·exact .inl rfl
     ·exact absurd hk e
     ·exact .inr hx
   ·have hk : ∀ y ∈ h :: l, ¬KeyE p a y := fun y hy e => by
     unfold KeyE at e
     rcases List.mem_cons.1 hy with rfl | hy
     ·omega
     ·have := h1 y hy
      unfold LtH at this
      omega
    rw [if_neg g2, qKu hk, List.mem_cons, Int.zero_add, Int.zero_add, hc]
    constructor
    ·rintro (rfl | hx)
     ·exact .inl rfl
     ·exact .inr ⟨hx, hk x hx⟩
    ·rintro (rfl | ⟨hx, _⟩)
     ·exact .inl rfl
     ·exact .inr hx
theorem LtH.trans {x y z : Ht} (h : LtH x y) (k : LtH y z) : LtH x z := by unfold LtH at *; omega
theorem qKg {p a c : Int} (hc : IntKind.wrap .i64 c = c) : ∀ {M : List Ht}, SrtP M → SrtP (insM p a c M)
 | [], _ => by simp [insM, SrtP]
 | h :: l, hs => by
  obtain ⟨h1, h2⟩ := List.pairwise_cons.1 hs
  unfold insM
  by_cases g1 : h.1 < p ∨ (h.1 = p ∧ h.2.1 < a)
  ·rw [if_pos g1]
   refine List.pairwise_cons.2 ⟨fun y hy => ?_, qKg hc h2⟩
   rcases (qXs hc h2).1 hy with rfl | ⟨hy, _⟩
   ·exact g1
   ·exact h1 y hy
  ·rw [if_neg g1]
   by_cases g2 : h.1 = p ∧ h.2.1 = a
   ·rw [if_pos g2]
    refine List.pairwise_cons.2 ⟨fun y hy => ?_, h2⟩
    have := h1 y hy
    unfold LtH at this ⊢
    show p < y.1 ∨ (p = y.1 ∧ a < y.2.1)
    omega
   ·rw [if_neg g2]
    have g : LtH (p, a, 1, c) h := by
     show p < h.1 ∨ (p = h.1 ∧ a < h.2.1)
     omega
    exact List.pairwise_cons.2 ⟨fun y hy => by
     rcases List.mem_cons.1 hy with rfl | hy
     ·exact g
     ·exact g.trans (h1 y hy), hs⟩
theorem hrw_srt (q : Int) : ∀ n, SrtP (hrwL q n)
 | 0 => List.Pairwise.nil
 | n + 1 => qKg (ww _) (hrw_srt q n)
theorem getM_same {p a : Int} {L M : List Ht} (hL : NdK L) (hM : NdK M) (h : ∀ x, x ∈ L ↔ x ∈ M) : getM p a L = getM p a M := by
 by_cases hx : ∃ x ∈ L, KeyE p a x
 ·obtain ⟨x, hx, hk⟩ := hx
  rw [getM_mem hL hx hk, getM_mem hM ((h x).1 hx) hk]
 ·rw [qKu fun x hx' e => hx ⟨x, hx', e⟩, qKu fun x hx' e => hx ⟨x, (h x).2 hx', e⟩]
theorem hot_mem (q : Int) : ∀ (n : Nat) (x : Ht), x ∈ hotL q n ↔ x ∈ hrwL q n
 | 0, x => by simp [hotL, hrwL]
 | n + 1, x => by
  have ih := hot_mem q n
  unfold hotL hrwL
  rw [setM_mem (hot_nd q n), qXs (ww _) (hrw_srt q n), getM_same (hot_nd q n) (hrw_srt q n).nd ih, ih]
theorem hot_perm (q : Int) (n : Nat) : (hotL q n).Perm (hrwL q n) := (List.perm_ext_iff_of_nodup (hot_nd q n).nodup (hrw_srt q n).nd.nodup).2 (hot_mem q n)
theorem hot_sorted {q : Int} {n : Nat} {D : List Ht} (hp : D.Perm (hotL q n)) (hs : D.Pairwise fun x y => ¬LtH y x) : D = hrwL q n := by
 have hp2 := hp.trans (hot_perm q n)
 refine List.Perm.eq_of_pairwise (le := fun x y => ¬LtH y x) (fun x y hx hy h1 h2 => ?_) hs ((hrw_srt q n).imp fun {x y} h k => by unfold LtH at h k; omega) hp2
 by_cases e : x = y
 ·exact e
 ·exfalso
  have hx2 := (hp2.mem_iff).1 hx
  have h3 : ∀ {M : List Ht}, SrtP M → x ∈ M → y ∈ M → x ≠ y → LtH x y ∨ LtH y x := fun {M} hM => by
   induction hM with
   | nil => intro h; simp at h
   | cons h1 _ ih =>
    intro a b c
    rcases List.mem_cons.1 a with a1 | a <;> rcases List.mem_cons.1 b with b1 | b
    ·exact absurd (a1.trans b1.symm) c
    ·exact .inl (a1 ▸ h1 _ b)
    ·exact .inr (b1 ▸ h1 _ a)
    ·exact ih a b c
  rcases h3 (hrw_srt q n) hx2 hy e with h | h
  ·exact h2 h
  ·exact h1 h
def colH (L : List Ht) (k : Int × Int) : Ht := (k.1, k.2, (getM k.1 k.2 L).1, (getM k.1 k.2 L).2)
theorem col_id {L : List Ht} (h : NdK L) {x : Ht} (hx : x ∈ L) : colH L (x.1, x.2.1) = x := by
 unfold colH
 rw [getM_mem h hx ⟨rfl, rfl⟩]
theorem col_perm {L : List Ht} (h : NdK L) {ks : List (Int × Int)} (hp : ks.Perm (L.map fun x => (x.1, x.2.1))) : (ks.map (colH L)).Perm L := by
 refine (hp.map (colH L)).trans ?_
 rw [List.map_map]
 have : L.map (colH L ∘ fun x => (x.1, x.2.1)) = L := by
  conv => rhs; rw [← List.map_id L]
  exact List.map_congr_left fun x hx => col_id h hx
 rw [this]
def htV (h : Ht) : List Value := [.int .i64 h.1, .int .i64 h.2.1, .int .i64 h.2.2.1, .int .i64 h.2.2.2]
def flH (L : List Ht) : List Value := (L.map htV).flatten
theorem flH_len : ∀ L : List Ht, (flH L).length = L.length * 4
 | [] => rfl
 | x :: L => by
  have := flH_len L
  unfold flH at *
  simp only [List.map_cons, List.flatten_cons, List.length_append, List.length_cons, this, htV, List.length_nil]
  omega
theorem rowV_fl (q : Int) (n : Nat) : rowV ht4 q n = flH (rwH q n) := by
 have h : ∀ (n i : Nat), tabL (fun i => qQd ht4 (rdZ q i)) i n = flH ((List.range' i n).map (elH q)) := fun n => by
  induction n with
  | zero => intro i; rfl
  | succ n ih =>
   intro i
   rw [List.range'_succ, tabL, ih (i + 1)]
   rfl
 unfold rowV rwH
 rw [h, List.range_eq_range']
theorem rowV_hrw (q : Int) {m : Nat} (hm : m ≤ 1000000) : (hrwN q m).toNat = (hrwL q m).length ∧ rowV ht4 (hrwZ q m) (hrwN q m).toNat = flH (hrwL q m) := by
 have e : min ((m : Nat) : Int).toNat 1000000 = m := by omega
 have e1 : (hrwN q m).toNat = (hrwL q m).length := by unfold hrwN; rw [e]; simp
 refine ⟨e1, ?_⟩
 rw [e1, rowV_fl]
 unfold hrwZ
 rw [e, rwH_LZ (hrw_w q m)]
end Go.Eng
end
/-!  -/
noncomputable section
namespace Go.Eng
theorem wrap_ex (x : Int) : ∃ k : Int, IntKind.wrap .i64 x = x + k * 18446744073709551616 := by
 refine ⟨-((x + 9223372036854775808) / 18446744073709551616), ?_⟩
 have h := Int.emod_add_ediv_mul (x + 9223372036854775808) 18446744073709551616
 have e : IntKind.wrap .i64 x = (x + 9223372036854775808) % 18446744073709551616 - 9223372036854775808 := by rw [IntKind.wrap_i64]
 rw [e]
 omega
theorem wrap_mod {x y k : Int} (h : x = y + k * 18446744073709551616) : IntKind.wrap .i64 x = IntKind.wrap .i64 y := by
 rw [IntKind.wrap_i64, IntKind.wrap_i64, h]
 omega
theorem wrap_add (x y : Int) : IntKind.wrap .i64 (IntKind.wrap .i64 x + y) = IntKind.wrap .i64 (x + y) := by
 obtain ⟨k, hk⟩ := wrap_ex x
 exact wrap_mod (k := k) (by rw [hk]; omega)
theorem wrap_sub (x y : Int) : IntKind.wrap .i64 (IntKind.wrap .i64 x - y) = IntKind.wrap .i64 (x - y) := by
 obtain ⟨k, hk⟩ := wrap_ex x
 exact wrap_mod (k := k) (by rw [hk]; omega)
abbrev Mk3 := Int × Int × Int
def elM (q : Int) (i : Nat) : Mk3 := (IntKind.wrap .i64 (rdZ (rdZ q i) 0), IntKind.wrap .i64 (rdZ (rdZ q i) 1), IntKind.wrap .i64 (rdZ (rdZ q i) 2))
def insK (L : List Ht) (m : Mk3) : List Ht := insM m.1 m.2.1 m.2.2 L
theorem srt_ext {L M : List Ht} (hL : SrtP L) (hM : SrtP M) (h : ∀ x, x ∈ L ↔ x ∈ M) : L = M := by
 have hp : L.Perm M := (List.perm_ext_iff_of_nodup hL.nd.nodup hM.nd.nodup).2 h
 exact List.Perm.eq_of_pairwise (le := LtH) (fun x y _ _ h1 h2 => by unfold LtH at h1 h2; omega) hL hM hp
theorem getM_ins {p a p' a' c : Int} {L : List Ht} (hc : IntKind.wrap .i64 c = c) (hL : SrtP L) :
  getM p a (insM p' a' c L) = if p = p' ∧ a = a' then (IntKind.wrap .i64 ((getM p a L).1 + 1), IntKind.wrap .i64 ((getM p a L).2 + c)) else getM p a L := by
 have hs := qKg (p := p') (a := a') hc hL
 by_cases e : p = p' ∧ a = a'
 ·obtain ⟨rfl, rfl⟩ := e
  rw [if_pos ⟨rfl, rfl⟩]
  exact getM_mem hs.nd ((qXs hc hL).2 (.inl rfl)) ⟨rfl, rfl⟩
 ·rw [if_neg e]
  by_cases hx : ∃ x ∈ L, KeyE p a x
  ·obtain ⟨x, hx, hk⟩ := hx
   rw [getM_mem hL.nd hx hk]
   exact getM_mem hs.nd ((qXs hc hL).2 (.inr ⟨hx, fun k => e ⟨hk.1.trans k.1.symm, hk.2.trans k.2.symm⟩⟩)) hk
  ·rw [qKu fun x h k => hx ⟨x, h, k⟩]
   refine qKu fun x h k => ?_
   rcases (qXs hc hL).1 h with rfl | ⟨h, _⟩
   ·exact e ⟨k.1, k.2⟩
   ·exact hx ⟨x, h, k⟩
def WdM (m : Mk3) : Prop := IntKind.wrap .i64 m.2.2 = m.2.2
theorem ins_comm {m m' : Mk3} {L : List Ht} (h : WdM m) (h' : WdM m') (hL : SrtP L) : insK (insK L m) m' = insK (insK L m') m := by
 obtain ⟨p, a, c⟩ := m
 obtain ⟨p', a', c'⟩ := m'
 have s1 : SrtP (insM p a c L) := qKg h hL
 have s2 : SrtP (insM p' a' c' L) := qKg h' hL
 refine srt_ext (qKg h' s1) (qKg h s2) fun x => ?_
 show x ∈ insM p' a' c' (insM p a c L) ↔ x ∈ insM p a c (insM p' a' c' L)
 rw [qXs h' s1, qXs h s2, qXs h hL, qXs h' hL, getM_ins h hL, getM_ins h' hL]
 by_cases e : p = p' ∧ a = a'
 ·obtain ⟨rfl, rfl⟩ := e
  simp only [and_self, if_true]
  have e1 : IntKind.wrap .i64 (IntKind.wrap .i64 ((getM p a L).2 + c) + c') = IntKind.wrap .i64 (IntKind.wrap .i64 ((getM p a L).2 + c') + c) := by
   rw [wrap_add, wrap_add]; congr 1; show _ = (_ : Int); omega
  rw [e1]
  constructor
  ·rintro (rfl | ⟨rfl | ⟨hx, k⟩, k2⟩)
   ·exact .inl rfl
   ·exact absurd ⟨rfl, rfl⟩ k2
   ·exact .inr ⟨.inr ⟨hx, k⟩, k2⟩
  ·rintro (rfl | ⟨rfl | ⟨hx, k⟩, k2⟩)
   ·exact .inl rfl
   ·exact absurd ⟨rfl, rfl⟩ k2
   ·exact .inr ⟨.inr ⟨hx, k⟩, k2⟩
 ·have e' : ¬(p' = p ∧ a' = a) := fun k => e ⟨k.1.symm, k.2.symm⟩
  rw [if_neg e, if_neg e']
  constructor
  ·rintro (rfl | ⟨rfl | ⟨hx, k⟩, k2⟩)
   ·exact .inr ⟨.inl rfl, fun k => e ⟨k.1, k.2⟩⟩
   ·exact .inl rfl
   ·exact .inr ⟨.inr ⟨hx, k2⟩, k⟩
  ·rintro (rfl | ⟨rfl | ⟨hx, k⟩, k2⟩)
   ·exact .inr ⟨.inl rfl, fun k => e' ⟨k.1, k.2⟩⟩
   ·exact .inl rfl
   ·exact .inr ⟨.inr ⟨hx, k2⟩, k⟩
theorem fold_perm {l m : List Mk3} (h : l.Perm m) : (∀ x ∈ l, WdM x) → ∀ {L : List Ht}, SrtP L → l.foldl insK L = m.foldl insK L := by
 induction h with
 | nil => intro _ L _; rfl
 | cons x _ ih => intro hw L hL; exact ih (fun y hy => hw y (by simp [hy])) (qKg (hw x (by simp)) hL)
 | swap x y l =>
  intro hw L hL
  show l.foldl insK (insK (insK L y) x) = l.foldl insK (insK (insK L x) y)
  rw [ins_comm (hw y (by simp)) (hw x (by simp)) hL]
 | trans h1 _ ih1 ih2 => intro hw L hL; exact (ih1 hw hL).trans (ih2 (fun x hx => hw x (h1.mem_iff.2 hx)) hL)
theorem hrw_fold (q : Int) : ∀ n : Nat, hrwL q n = ((List.range n).map (elM q)).foldl insK []
 | 0 => rfl
 | n + 1 => by
  rw [List.range_succ, List.map_append, List.foldl_append, ← hrw_fold q n]
  rfl
theorem hrw_turned {q y : Int} {n : Nat} (h : ∀ j : Nat, j < n → elM y j = elM q (n - 1 - j)) : hrwL y n = hrwL q n := by
 rw [hrw_fold, hrw_fold]
 refine fold_perm ?_ (fun x hx => ?_) List.Pairwise.nil
 ·have : (List.range n).map (elM y) = ((List.range n).map (elM q)).reverse := by
   refine List.ext_getElem (by simp) fun i h1 h2 => ?_
   simp at h1
   simp [h i h1]
  rw [this]
  exact List.reverse_perm _
 ·obtain ⟨i, _, rfl⟩ := List.mem_map.1 hx
  exact ww _
def sumT : List Ht → Int
 | [] => 0
 | x :: L => x.2.2.1 + sumT L
def sumK : List Ht → Int
 | [] => 0
 | x :: L => x.2.2.2 + sumK L
theorem sum_ins (p a c : Int) : ∀ L : List Ht, (∃ k : Int, sumT (insM p a c L) = sumT L + 1 + k * 18446744073709551616) ∧ ∃ k : Int, sumK (insM p a c L) = sumK L + c + k * 18446744073709551616
 | [] => ⟨⟨0, by simp [insM, sumT]⟩, ⟨0, by simp [insM, sumK]⟩⟩
 | x :: L => by
  obtain ⟨⟨k1, h1⟩, ⟨k2, h2⟩⟩ := sum_ins p a c L
  unfold insM
  split
  ·exact ⟨⟨k1, by simp only [sumT]; omega⟩, ⟨k2, by simp only [sumK]; omega⟩⟩
  ·split
   ·obtain ⟨j1, g1⟩ := wrap_ex (x.2.2.1 + 1)
    obtain ⟨j2, g2⟩ := wrap_ex (x.2.2.2 + c)
    exact ⟨⟨j1, by simp only [sumT]; rw [g1]; omega⟩, ⟨j2, by simp only [sumK]; rw [g2]; omega⟩⟩
   ·exact ⟨⟨0, by simp only [sumT]; omega⟩, ⟨0, by simp only [sumK]; omega⟩⟩
def sumC (q : Int) : Nat → Int
 | 0 => 0
 | n + 1 => sumC q n + IntKind.wrap .i64 (rdZ (rdZ q n) 2)
theorem sum_hrw (q : Int) : ∀ n : Nat, (∃ k : Int, sumT (hrwL q n) = n + k * 18446744073709551616) ∧ ∃ k : Int, sumK (hrwL q n) = sumC q n + k * 18446744073709551616
 | 0 => ⟨⟨0, rfl⟩, ⟨0, rfl⟩⟩
 | n + 1 => by
  obtain ⟨⟨k1, h1⟩, ⟨k2, h2⟩⟩ := sum_hrw q n
  obtain ⟨⟨j1, g1⟩, ⟨j2, g2⟩⟩ := sum_ins (IntKind.wrap .i64 (rdZ (rdZ q n) 0)) (IntKind.wrap .i64 (rdZ (rdZ q n) 1)) (IntKind.wrap .i64 (rdZ (rdZ q n) 2)) (hrwL q n)
  refine ⟨⟨k1 + j1, ?_⟩, ⟨k2 + j2, ?_⟩⟩
  ·unfold hrwL; rw [g1, h1]; push_cast; omega
  ·unfold hrwL sumC; rw [g2, h2]; omega
theorem sumT_take : ∀ (L : List Ht) (k : Nat) (h : k < L.length), sumT (L.take (k + 1)) = sumT (L.take k) + L[k].2.2.1 ∧ sumK (L.take (k + 1)) = sumK (L.take k) + L[k].2.2.2
 | x :: L, 0, _ => by simp [sumT, sumK]
 | x :: L, k + 1, h => by
  have := sumT_take L k (by simpa using h)
  simp only [List.take_succ_cons, sumT, sumK, List.getElem_cons_succ]
  omega
theorem el_LZ {L : List Ht} (h : ∀ x ∈ L, WdH x) {i : Nat} (hi : i < L.length) : elH (LZ (L.map cdH)) i = L[i] := by
 have h2 := rwH_LZ h
 have : (rwH (LZ (L.map cdH)) L.length)[i]'(by simp [rwH]; exact hi) = L[i] := by simp only [h2]
 simpa [rwH] using this
end Go.Eng
end
