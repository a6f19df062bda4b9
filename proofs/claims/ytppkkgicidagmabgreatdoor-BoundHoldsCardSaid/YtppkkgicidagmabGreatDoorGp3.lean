/-
  Parts of the engine, a program's symbolic run, proved sound; and of plain laws.
-/
import Derived.Test.YtppkkgicidagmabGreatDoorGp1
import Derived.Test.YtppkkgicidagmabGreatDoorGp2
import Derived.Test.YtppkkgicidagmabGreatDoorGu5
set_option linter.unusedVariables false
set_option linter.unusedSimpArgs false
/-!  -/
noncomputable section
namespace Go.Eng
section
variable {nx : Nat → List Nat}
theorem Way.nbar {bar : Nat → Prop} {a b : Nat} (h : Way nx bar a b) : ¬bar a ∧ ¬bar b := by
 induction h with
 | here h => exact ⟨h, h⟩
 | on _ _ hc ih => exact ⟨ih.1, hc⟩
theorem Way.trans {bar : Nat → Prop} {a b c : Nat} (h : Way nx bar a b) (k : Way nx bar b c) : Way nx bar a c := by
 induction k with
 | here _ => exact h
 | on _ h1 h2 ih => exact ih.on h1 h2
theorem Way.front {bar : Nat → Prop} {a b c : Nat} (ha : ¬bar a) (h : b ∈ nx a) (k : Way nx bar b c) : Way nx bar a c := (Way.on (.here ha) h k.nbar.1).trans k
theorem Way.least {bar S : Nat → Prop} {a b : Nat} (h : Way nx bar a b) (h0 : S a) (hs : ∀ b c, S b → c ∈ nx b → ¬bar c → S c) : S b := by
 induction h with
 | here _ => exact h0
 | on _ h1 h2 ih => exact hs _ _ ih h1 h2
theorem Way.mono {bar bar' : Nat → Prop} {a b : Nat} (h : Way nx bar a b) (k : ∀ x, bar' x → bar x) : Way nx bar' a b := by
 induction h with
 | here h => exact .here fun e => h (k _ e)
 | on _ h1 h2 ih => exact ih.on h1 fun e => h2 (k _ e)
theorem Way.lt {bar : Nat → Prop} {n a b : Nat} (hn : ∀ p, ∀ q ∈ nx p, q < n) (ha : a < n) (h : Way nx bar a b) : b < n := by
 induction h with
 | here _ => exact ha
 | on _ h1 _ _ => exact hn _ _ h1
def bkw (nx : Nat → List Nat) (n : Nat) (p : Nat) : List Nat := (List.range n).filter fun q => decide (p ∈ nx q)
structure Come (nx : Nat → List Nat) (bar : Nat → Prop) (p : Nat) (S S' : Nat → Prop) : Prop where
 sub : ∀ x, S x → S' x
 at_ : ¬bar p → S' p
 way : ∀ x, S' x → ¬S x → Way nx bar p x
 on : ∀ x, S' x → ¬S x → ∀ c ∈ nx x, S' c ∨ bar c
theorem Come.skip {bar S : Nat → Prop} {p : Nat} (h : S p ∨ bar p) : Come nx bar p S S :=
 ⟨fun _ h => h, fun hb => h.resolve_right hb, fun _ h k => absurd h k, fun _ h k => absurd h k⟩
structure ComeL (nx : Nat → List Nat) (bar : Nat → Prop) (p : Nat) (S T : Nat → Prop) (k : Nat) : Prop where
 sub : ∀ x, S x → T x
 at_ : T p
 way : ∀ x, T x → ¬S x → Way nx bar p x
 on : ∀ x, T x → ¬S x → x ≠ p → ∀ c ∈ nx x, T c ∨ bar c
 done : ∀ c ∈ (nx p).take k, T c ∨ bar c
theorem ComeL.start {bar S : Nat → Prop} {p : Nat} (hb : ¬bar p) : ComeL nx bar p S (fun x => S x ∨ x = p) 0 :=
 ⟨fun _ h => .inl h, .inr rfl, fun x h k => by
  rcases h with h | rfl
  ·exact absurd h k
  ·exact .here hb, fun x h k e => by
  rcases h with h | h
  ·exact absurd h k
  ·exact absurd h e, fun c hc => by simp at hc⟩
theorem ComeL.next {bar S T T' : Nat → Prop} {p c k : Nat} (h : ComeL nx bar p S T k) (hk : (nx p)[k]? = some c) (hc : Come nx bar c T T') (hb : ¬bar p) : ComeL nx bar p S T' (k + 1) := by
 have hcm : c ∈ nx p := List.mem_of_getElem? hk
 refine ⟨fun x hx => hc.sub x (h.sub x hx), hc.sub p h.at_, fun x hx hn => ?_, fun x hx hn e d hd => ?_, fun d hd => ?_⟩
 ·by_cases ht : T x
  ·exact h.way x ht hn
  ·exact Way.front hb hcm (hc.way x hx ht)
 ·by_cases ht : T x
  ·exact (h.on x ht hn e d hd).imp (hc.sub d) id
  ·exact hc.on x hx ht d hd
 ·rw [List.take_add_one, hk] at hd
  rcases List.mem_append.1 hd with hd | hd
  ·exact (h.done d hd).imp (hc.sub d) id
  ·simp at hd; subst hd
   by_cases hbd : bar d
   ·exact .inr hbd
   ·exact .inl (hc.at_ hbd)
theorem ComeL.fin {bar S T : Nat → Prop} {p k : Nat} (h : ComeL nx bar p S T k) (hk : (nx p).length ≤ k) : Come nx bar p S T :=
 ⟨h.sub, fun _ => h.at_, h.way, fun x hx hn c hc => by
  by_cases e : x = p
  ·subst e; exact h.done c (by rw [List.take_of_length_le hk]; exact hc)
  ·exact h.on x hx hn e c hc⟩
theorem Come.all {bar T : Nat → Prop} {p : Nat} (h : Come nx bar p (fun _ => False) T) (x : Nat) : T x ↔ Way nx bar p x := by
 refine ⟨fun hx => h.way x hx id, fun hw => ?_⟩
 refine hw.least (h.at_ hw.nbar.1) fun b c hb hc hn => (h.on b hb id c hc).resolve_right hn
def Ranked (nx : Nat → List Nat) (D : Nat → Prop) : Prop := ∃ r : Nat → Nat, ∀ x, D x → ∀ c ∈ nx x, D c ∧ r c < r x
theorem Ranked.put {D : Nat → Prop} {p : Nat} (h : Ranked nx D) (hp : ¬D p) (hs : ∀ c ∈ nx p, D c) : Ranked nx fun x => D x ∨ x = p := by
 obtain ⟨r, hr⟩ := h
 refine ⟨fun x => if x = p then ((nx p).map r).sum + 1 else r x, fun x hx c hc => ?_⟩
 have hsum : ∀ (l : List Nat) (c : Nat), c ∈ l → r c ≤ (l.map r).sum := fun l c hc => by
  induction l with
  | nil => cases hc
  | cons y l ih =>
   rcases List.mem_cons.1 hc with rfl | hc
   ·simp
   ·have := ih hc; simp; omega
 by_cases e : x = p
 ·subst e
  have hd := hs c hc
  have hcp : c ≠ x := fun e => hp (e ▸ hd)
  refine ⟨.inl hd, ?_⟩
  simp only [if_true, if_neg hcp]
  have := hsum _ _ hc
  omega
 ·have hx' : D x := hx.resolve_right e
  obtain ⟨h1, h2⟩ := hr x hx' c hc
  have hcp : c ≠ p := fun e => hp (e ▸ h1)
  refine ⟨.inl h1, ?_⟩
  simp only [if_neg e, if_neg hcp]
  exact h2
theorem Ranked.no_cyc {D : Nat → Prop} (h : Ranked nx D) (h0 : D 0) : ¬Cyc nx := by
 rintro ⟨p, hw, q, hq, hb⟩
 obtain ⟨r, hr⟩ := h
 have hp : D p := hw.least h0 fun b c hb hc _ => (hr b hb c hc).1
 have hqp := hr p hp q hq
 have : D p ∧ r p ≤ r q := hb.least (S := fun x => D x ∧ r x ≤ r q) ⟨hqp.1, Nat.le_refl _⟩ fun b c hb hc _ => ⟨(hr b hb.1 c hc).1, by have := (hr b hb.1 c hc).2; omega⟩
 omega
theorem Ranked.none : Ranked nx fun _ => False := ⟨fun _ => 0, fun _ h => h.elim⟩
structure CyP (nx : Nat → List Nat) (p : Nat) (O D : Nat → Prop) (f : Prop) (O' D' : Nat → Prop) (f' : Prop) : Prop where
 opn : ∀ x, O' x ↔ O x
 sub : ∀ x, D x → D' x
 at_ : D' p
 apart : ∀ x, D' x → ¬O x
 more : f → f'
 yes : f' → Cyc nx
 no : ¬f' → Ranked nx D'
structure CyQ (nx : Nat → List Nat) (p : Nat) (O D : Nat → Prop) (f : Prop) : Prop where
 fr : ¬O p ∧ ¬D p
 from0 : Way nx (fun _ => False) 0 p
 opn : ∀ g, O g → Way nx (fun _ => False) g p
 apart : ∀ x, D x → ¬O x
 yes : f → Cyc nx
 no : ¬f → Ranked nx D
structure CyL (nx : Nat → List Nat) (p : Nat) (O D : Nat → Prop) (f : Prop) (O' D' : Nat → Prop) (f' : Prop) (k : Nat) : Prop where
 opn : ∀ x, O' x ↔ (O x ∨ x = p)
 sub : ∀ x, D x → D' x
 apart : ∀ x, D' x → ¬(O x ∨ x = p)
 more : f → f'
 yes : f' → Cyc nx
 no : ¬f' → Ranked nx D'
 done : ¬f' → ∀ c ∈ (nx p).take k, D' c
theorem CyL.start {O D : Nat → Prop} {f : Prop} {p : Nat} (h : CyQ nx p O D f) : CyL nx p O D f (fun x => O x ∨ x = p) D f 0 :=
 ⟨fun _ => Iff.rfl, fun _ h => h, fun x hx k => by
  rcases k with k | k
  ·exact h.apart x hx k
  ·subst k; exact h.fr.2 hx, id, h.yes, h.no, fun _ c hc => by simp at hc⟩
theorem CyL.hit {O D O' D' : Nat → Prop} {f f' : Prop} {p c k : Nat} (q : CyQ nx p O D f) (h : CyL nx p O D f O' D' f' k) (hk : (nx p)[k]? = some c) (ho : O' c) : CyL nx p O D f O' D' True (k + 1) := by
 have hcm : c ∈ nx p := List.mem_of_getElem? hk
 have hw : Way nx (fun _ => False) c p := by
  rcases (h.opn c).1 ho with g | rfl
  ·exact q.opn c g
  ·exact .here id
 exact ⟨h.opn, h.sub, h.apart, fun _ => trivial, fun _ => ⟨p, q.from0, c, hcm, hw⟩, fun h => absurd trivial h, fun h => absurd trivial h⟩
theorem CyL.old {O D O' D' : Nat → Prop} {f f' : Prop} {p c k : Nat} (h : CyL nx p O D f O' D' f' k) (hk : (nx p)[k]? = some c) (hd : D' c) : CyL nx p O D f O' D' f' (k + 1) :=
 ⟨h.opn, h.sub, h.apart, h.more, h.yes, h.no, fun hf x hx => by
  rw [List.take_add_one, hk] at hx
  rcases List.mem_append.1 hx with hx | hx
  ·exact h.done hf x hx
  ·simp at hx; subst hx; exact hd⟩
theorem CyL.pre {O D O' D' : Nat → Prop} {f f' : Prop} {p c k : Nat} (q : CyQ nx p O D f) (h : CyL nx p O D f O' D' f' k) (hk : (nx p)[k]? = some c) (ho : ¬O' c) (hd : ¬D' c) : CyQ nx c O' D' f' := by
 have hcm : c ∈ nx p := List.mem_of_getElem? hk
 refine ⟨⟨ho, hd⟩, q.from0.on hcm id, fun g hg => ?_, fun x hx k => h.apart x hx ((h.opn x).1 k), h.yes, h.no⟩
 rcases (h.opn g).1 hg with g1 | rfl
 ·exact (q.opn g g1).on hcm id
 ·exact .on (.here id) hcm id
theorem CyL.call {O D O' D' O2 D2 : Nat → Prop} {f f' f2 : Prop} {p c k : Nat} (h : CyL nx p O D f O' D' f' k) (hk : (nx p)[k]? = some c) (r : CyP nx c O' D' f' O2 D2 f2) : CyL nx p O D f O2 D2 f2 (k + 1) := by
 refine ⟨fun x => (r.opn x).trans (h.opn x), fun x hx => r.sub x (h.sub x hx), fun x hx k => r.apart x hx ((h.opn x).2 k), fun hf => r.more (h.more hf), r.yes, r.no, fun hf x hx => ?_⟩
 rw [List.take_add_one, hk] at hx
 rcases List.mem_append.1 hx with hx | hx
 ·exact r.sub x (h.done (fun e => hf (r.more e)) x hx)
 ·simp at hx; subst hx; exact r.at_
theorem CyL.fin {O D O' D' : Nat → Prop} {f f' : Prop} {p k : Nat} (q : CyQ nx p O D f) (h : CyL nx p O D f O' D' f' k) (hk : (nx p).length ≤ k) : CyP nx p O D f (fun x => O' x ∧ x ≠ p) (fun x => D' x ∨ x = p) f' := by
 refine ⟨fun x => ?_, fun x hx => .inl (h.sub x hx), .inr rfl, fun x hx ho => ?_, h.more, h.yes, fun hf => ?_⟩
 ·rw [h.opn]
  constructor
  ·rintro ⟨g | g, e⟩
   ·exact g
   ·exact absurd g e
  ·intro g
   exact ⟨.inl g, fun e => q.fr.1 (e ▸ g)⟩
 ·rcases hx with hx | rfl
  ·exact h.apart x hx (.inl ho)
  ·exact q.fr.1 ho
 ·have hd := h.done hf
  rw [List.take_of_length_le hk] at hd
  exact (h.no hf).put (fun e => h.apart p e (.inr rfl)) hd
theorem CyP.all {O' D' : Nat → Prop} {f' : Prop} (h : CyP nx 0 (fun _ => False) (fun _ => False) False O' D' f') : f' ↔ Cyc nx :=
 ⟨h.yes, fun hc => Classical.byContradiction fun hf => (h.no hf).no_cyc h.at_ hc⟩
theorem CyQ.first : CyQ nx 0 (fun _ => False) (fun _ => False) False := ⟨⟨id, id⟩, .here id, fun _ h => h.elim, fun _ h => h.elim, fun h => h.elim, fun _ => Ranked.none⟩
end
end Go.Eng
end
/-!  -/
noncomputable section
namespace Go.Eng
theorem nx_z0 : LZ [] = 0 := rfl
theorem nx_z1 (a : Int) : LZ [a] = qQq a 0 := by
 have : ZL 0 = [] := by rw [← nx_z0, ZL_LZ]
 unfold qQq; rw [this]
theorem nx_z2 (a b : Int) : LZ [a, b] = qQq a (qQq b 0) := by
 rw [← nx_z1 b]; unfold qQq; rw [ZL_LZ]
theorem nx_say {q n p m y : Int} {l : List Int} (h : nxL q n p = l) (hm : m = (l.length : Int)) (hy : y = LZ l) : m = nxN q n p ∧ qZz [.int .i64] y (nxZ q n p) m := by
 subst hm; subst hy; subst h
 exact ⟨rfl, qJy _ _ _⟩
def nxC (y0 y4 n p : Int) : List Int :=
 if y0 = 0 ∨ y0 = 41 ∨ y0 = 43 then [] else
 if y0 = 39 ∨ y0 = 40 then [y4].filter (fun x => decide (x < n)) else
 if y0 = 36 ∨ y0 = 37 ∨ y0 = 38 then (go2 y4 (p + 1)).filter (fun x => decide (x < n)) else
 [p + 1].filter (fun x => decide (x < n))
theorem nxL_in {q n p y0 y4 : Int} (hp : 0 ≤ p) (hn : p < n) (h0 : y0 = decZ (IntKind.wrap .u32 (rdZ q p)) 0) (h4 : y4 = decZ (IntKind.wrap .u32 (rdZ q p)) 4) : nxL q n p = nxC y0 y4 n p := by
 unfold nxL nxC
 rw [if_neg (by omega), ← h0, ← h4]
theorem nxL_out {q n p : Int} (h : p < 0 ∨ n ≤ p) : nxL q n p = [] := by unfold nxL; rw [if_pos h]
theorem nxC_0 {y0 y4 n p : Int} (h : y0 = 0 ∨ y0 = 41 ∨ y0 = 43) : nxC y0 y4 n p = [] := by unfold nxC; rw [if_pos h]
theorem nxC_1 {y0 y4 n p : Int} (h : y0 = 39 ∨ y0 = 40) : nxC y0 y4 n p = if y4 < n then [y4] else [] := by
 unfold nxC; rw [if_neg (by omega), if_pos h]; by_cases e : y4 < n <;> simp [e]
theorem nxC_2 {y0 y4 n p : Int} (h : y0 = 36 ∨ y0 = 37 ∨ y0 = 38) : nxC y0 y4 n p = (go2 y4 (p + 1)).filter (fun x => decide (x < n)) := by
 unfold nxC; rw [if_neg (by omega), if_neg (by omega), if_pos h]
theorem nxC_3 {y0 y4 n p : Int} (h : ¬ (y0 = 0 ∨ y0 = 41 ∨ y0 = 43)) (h1 : ¬ (y0 = 39 ∨ y0 = 40)) (h2 : ¬ (y0 = 36 ∨ y0 = 37 ∨ y0 = 38)) : nxC y0 y4 n p = if p + 1 < n then [p + 1] else [] := by
 unfold nxC; rw [if_neg h, if_neg h1, if_neg h2]; by_cases e : p + 1 < n <;> simp [e]
theorem nx_two {q n p y s : Int} (hL : nxL q n p = (go2 y s).filter (fun x => decide (x < n))) :
  (n ≤ y → (s < n → (1 : Int) = nxN q n p ∧ qZz [.int .i64] (qQq s 0) (nxZ q n p) 1) ∧ (n ≤ s → (0 : Int) = nxN q n p ∧ qZz [.int .i64] 0 (nxZ q n p) 0)) ∧
  (y < n → (n ≤ s → (1 : Int) = nxN q n p ∧ qZz [.int .i64] (qQq y 0) (nxZ q n p) 1) ∧
   (s < n → (s < y → (y = s → (1 : Int) = nxN q n p ∧ qZz [.int .i64] (qQq s 0) (nxZ q n p) 1) ∧ (¬y = s → (2 : Int) = nxN q n p ∧ qZz [.int .i64] (qQq s (qQq y 0)) (nxZ q n p) 2)) ∧
    (y ≤ s → (s = y → (1 : Int) = nxN q n p ∧ qZz [.int .i64] (qQq y 0) (nxZ q n p) 1) ∧ (¬s = y → (2 : Int) = nxN q n p ∧ qZz [.int .i64] (qQq y (qQq s 0)) (nxZ q n p) 2)))) := by
 have k0 : nxL q n p = [] → (0 : Int) = nxN q n p ∧ qZz [.int .i64] 0 (nxZ q n p) 0 := fun h => nx_say h rfl rfl
 have k1 : ∀ a, nxL q n p = [a] → (1 : Int) = nxN q n p ∧ qZz [.int .i64] (qQq a 0) (nxZ q n p) 1 := fun a h => nx_say h rfl (nx_z1 a).symm
 have k2 : ∀ a b, nxL q n p = [a, b] → (2 : Int) = nxN q n p ∧ qZz [.int .i64] (qQq a (qQq b 0)) (nxZ q n p) 2 := fun a b h => nx_say h rfl (nx_z2 a b).symm
 refine ⟨fun h => ⟨fun g => k1 _ ?_, fun g => k0 ?_⟩, fun h => ⟨fun g => k1 _ ?_, fun g => ⟨fun c => ⟨fun e => by omega, fun e => k2 _ _ ?_⟩, fun c => ⟨fun e => k1 _ ?_, fun e => k2 _ _ ?_⟩⟩⟩⟩
 all_goals
  rw [hL]; unfold go2
 ·rw [if_neg (by omega), if_neg (by omega)]; simp [g, Int.not_lt.2 h]
 ·split
  ·simp [Int.not_lt.2 h]
  ·split <;> simp [Int.not_lt.2 h, Int.not_lt.2 g]
 ·rw [if_neg (by omega), if_pos (by omega)]; simp [h, Int.not_lt.2 g]
 ·rw [if_neg (by omega), if_neg (by omega)]; simp [h, g]
 ·rw [if_pos (by omega)]; simp [h]
 ·rw [if_neg (by omega), if_pos (by omega)]; simp [h, g]
end Go.Eng
end
/-!  -/
noncomputable section
namespace Go.Eng
theorem nx_mem {q n p x : Int} (h : x ∈ nxL q n p) : x < n := by
 unfold nxL at h
 split at h
 ·cases h
 split at h
 ·cases h
 split at h
 ·simpa using (List.mem_filter.1 h).2
 split at h
 ·simpa using (List.mem_filter.1 h).2
 ·simpa using (List.mem_filter.1 h).2
theorem nd_filter {l : List Int} (p : Int → Bool) (h : l.Nodup) : (l.filter p).Nodup := List.Pairwise.sublist List.filter_sublist h
theorem nx_nodup (q n p : Int) : (nxL q n p).Nodup := by
 unfold nxL
 split
 ·exact List.nodup_nil
 split
 ·exact List.nodup_nil
 split
 ·exact nd_filter _ (by simp)
 split
 ·refine nd_filter _ ?_
  unfold go2
  split
  ·simp
  ·split
   ·simp; omega
   ·simp; omega
 ·exact nd_filter _ (by simp)
theorem dec4_pos {w : Int} (h : decZ w 0 = 39 ∨ decZ w 0 = 40 ∨ decZ w 0 = 36 ∨ decZ w 0 = 37 ∨ decZ w 0 = 38) : 0 ≤ decZ w 4 := by
 unfold decZ at h ⊢
 simp only [Int.reduceEq, if_false, if_true] at h ⊢
 split
 ·omega
 ·rename_i hp
  rw [if_neg hp] at h
  unfold decN
  simp only
  split
  ·omega
  ·split <;> omega
theorem nx_pos {q n p x : Int} (hp : 0 ≤ p) (h : x ∈ nxL q n p) : 0 ≤ x := by
 unfold nxL at h
 split at h
 ·cases h
 split at h
 ·cases h
 split at h
 ·rename_i e
  have hx := (List.mem_filter.1 h).1
  simp at hx; subst hx
  exact dec4_pos (by omega)
 split at h
 ·rename_i e
  have hx := (List.mem_filter.1 h).1
  have hd := dec4_pos (w := IntKind.wrap .u32 (rdZ q p)) (by omega)
  unfold go2 at hx
  split at hx
  ·simp at hx; omega
  ·split at hx
   ·simp at hx; omega
   ·simp at hx; omega
 ·have hx := (List.mem_filter.1 h).1
  simp at hx; omega
theorem nxf_lt {q n : Int} {p x : Nat} (h : x ∈ nxf q n p) : (x : Int) < n := by
 unfold nxf at h
 obtain ⟨y, hy, e⟩ := List.mem_map.1 h
 have := nx_mem hy
 have := nx_pos (Int.natCast_nonneg p) hy
 omega
theorem nxf_nodup (q n : Int) (p : Nat) : (nxf q n p).Nodup := by
 unfold nxf
 refine List.pairwise_map.2 ((nx_nodup q n p).imp_of_mem ?_)
 intro a b ha hb hab e
 have := nx_pos (Int.natCast_nonneg p) ha
 have := nx_pos (Int.natCast_nonneg p) hb
 omega
theorem nxf_out {q n : Int} {p : Nat} (h : n ≤ p) : nxf q n p = [] := by
 unfold nxf; rw [nxL_out (.inr h)]; rfl
theorem nxf_len (q n : Int) (p : Nat) : (nxf q n p).length ≤ 1000 := by
 unfold nxf
 have := nxN_bd q n p
 unfold nxN at this
 rw [List.length_map]; omega
end Go.Eng
end
/-!  -/
noncomputable section
namespace Go.Eng
theorem dec_bad {w : Int} (h : decZ w 5 ≠ 0) : decZ w 0 = 0 := by
 unfold decZ at *
 simp only [if_true] at h
 split at h
 ·exact absurd rfl h
 ·rename_i g
  simp [g]
theorem dec_two (x : Int) : (decZ (IntKind.wrap .u32 x) 5 ≠ 0 ∧ decZ (IntKind.wrap .u32 x) 0 = 0) ∨ (decZ (IntKind.wrap .u32 x) 5 = 0 ∧ 1 ≤ decZ (IntKind.wrap .u32 x) 0) := by
 by_cases h : decZ (IntKind.wrap .u32 x) 5 = 0
 ·exact .inr ⟨h, (dec_in x h).1.1⟩
 ·exact .inl ⟨h, dec_bad h⟩
theorem rd_two0 (a b : Int) : rdZ (qQq a (qQq b 0)) 0 = a := qQy _ _
theorem rd_two1 (a b : Int) : rdZ (qQq a (qQq b 0)) 1 = b := by
 rw [qQh _ _ (by omega)]
 exact qQy _ _
theorem lz_map_rd (f : Nat → Int) (n : Nat) {i : Nat} (h : i < n) : rdZ (LZ ((List.range n).map f)) i = f i := by
 unfold rdZ
 rw [ZL_LZ, Int.toNat_natCast, List.getD_eq_getElem?_getD, List.getElem?_map, List.getElem?_range h]
 rfl
theorem nx_mapN {c n p : Int} (hp : 0 ≤ p) : nxL c n p = (nxf c n p.toNat).map fun x : Nat => (x : Int) := by
 obtain ⟨k, rfl⟩ := Int.eq_ofNat_of_zero_le hp
 unfold nxf
 rw [List.map_map]
 refine (List.map_id _).symm.trans (List.map_congr_left fun x hx => ?_)
 have := nx_pos (Int.natCast_nonneg k) hx
 simp only [Function.comp, id]
 omega
theorem nx_len {c n p : Int} (hp : 0 ≤ p) : ((nxf c n p.toNat).length : Int) = nxN c n p := by
 unfold nxN
 rw [nx_mapN hp, List.length_map]
open Classical in
theorem gfm_at {c n a b : Int} (hn : n ≤ 1000) {x : Nat} (hx : (x : Int) < n) : rdZ (gfmZ c n (qQq a (qQq b 0))) x ≠ 0 ↔ (0 ≤ a ∧ a < n ∧ Way (nxf c n) (fun y : Nat => (y : Int) = b) a.toNat x) := by
 unfold gfmZ
 rw [lz_map_rd _ _ (by omega), rd_two0, rd_two1]
 split
 ·rename_i h; simp [h]
 ·rename_i h; simp [h]
def Seen (q : Int) (x : Nat) : Prop := rdZ q x ≠ 0
open Classical in
def cntS (q : Int) (n : Int) : Nat := ((List.range n.toNat).filter fun x => decide (Seen q x)).length
structure FmS (c n a b q : Int) : Prop where
 snd : ∀ x : Nat, (x : Int) < n → Seen q x → Way (nxf c n) (fun y : Nat => (y : Int) = b) a.toNat x
 st : Seen q a.toNat
def CloG (c n b q p : Int) : Prop := ∀ x : Nat, (x : Int) < p → Seen q x → ∀ y ∈ nxf c n x, (y : Int) ≠ b → Seen q y
def CloK (c n b q p k : Int) : Prop := ∀ j t : Nat, (j : Int) < k → (nxf c n p.toNat)[j]? = some t → (t : Int) ≠ b → Seen q t
theorem seen_put {q : Int} {t x : Nat} : Seen (updZ q t 1) x ↔ (x = t ∨ Seen q x) := by
 unfold Seen
 rw [qZr]
 simp only [Int.toNat_natCast]
 by_cases e : x = t
 ·subst e; simp
 ·rw [if_neg e]
  exact ⟨.inr, fun h => h.resolve_left e⟩
open Classical in
theorem cntS_put {q n : Int} {t : Nat} (ht : (t : Int) < n) (h : ¬Seen q t) : cntS q n < cntS (updZ q t 1) n := by
 unfold cntS
 obtain ⟨l1, l2, e⟩ := List.append_of_mem (List.mem_range.2 (show t < n.toNat by omega))
 rw [e]
 have hm : ∀ l : List Nat, (l.filter fun x => decide (Seen q x)).length ≤ (l.filter fun x => decide (Seen (updZ q t 1) x)).length := fun l => by
  simp only [← List.countP_eq_length_filter]
  refine List.countP_mono_left fun x _ hx => ?_
  simp only [decide_eq_true_eq] at hx ⊢
  exact seen_put.2 (.inr hx)
 have h1 := hm l1
 have h2 := hm l2
 have h3 : Seen (updZ q t 1) t := seen_put.2 (.inl rfl)
 simp only [List.filter_append, List.length_append, List.filter_cons, h, h3, decide_true, decide_false, if_true, Bool.false_eq_true, if_false, List.length_cons]
 omega
theorem fm_put {c n a b q p : Int} {t : Nat} (h : FmS c n a b q) (hp : 0 ≤ p) (hpn : p < n) (hs : rdZ q p ≠ 0) (ht : t ∈ nxf c n p.toNat) (hb : (t : Int) ≠ b) : FmS c n a b (updZ q t 1) := by
 obtain ⟨k, rfl⟩ := Int.eq_ofNat_of_zero_le hp
 refine ⟨fun x hx hsx => ?_, seen_put.2 (.inr h.st)⟩
 rcases seen_put.1 hsx with rfl | g
 ·exact (h.snd k hpn hs).on ht hb
 ·exact h.snd x hx g
structure FmM (c n a b q0 q ch p : Int) : Prop where
 s : FmS c n a b q
 ct : cntS q0 n + ch.toNat ≤ cntS q n
 cl : ch = 0 → CloG c n b q p
structure FmI (c n a b q0 q ch p k : Int) : Prop where
 s : FmS c n a b q
 ct : cntS q0 n + ch.toNat ≤ cntS q n
 at_ : rdZ q p ≠ 0
 cl : ch = 0 → CloG c n b q p ∧ CloK c n b q p k
theorem FmM.skip {c n a b q0 q ch p : Int} (h : FmM c n a b q0 q ch p) (hp : 0 ≤ p) (h0 : rdZ q p = 0) : FmM c n a b q0 q ch (p + 1) := by
 refine ⟨h.s, h.ct, fun e x hx hs y hy hb => ?_⟩
 by_cases g : (x : Int) = p
 ·rw [← g] at h0; exact absurd h0 hs
 ·exact h.cl e x (by omega) hs y hy hb
theorem FmI.put {c n a b q0 q ch p k : Int} {t : Nat} (h : FmI c n a b q0 q ch p k) (hp : 0 ≤ p) (hpn : p < n) (hc : 0 ≤ ch ∧ ch ≤ 1) (hk : 0 ≤ k) (ht : (nxf c n p.toNat)[k.toNat]? = some t) (hb : (t : Int) ≠ b) (h0 : rdZ q t = 0) : FmI c n a b q0 (updZ q t 1) 1 p (k + 1) := by
 have hm := List.mem_of_getElem? ht
 have hlt := nxf_lt hm
 refine ⟨fm_put h.s hp hpn h.at_ hm hb, ?_, ?_, fun e => by omega⟩
 ·have := cntS_put hlt (fun g => g h0)
  have := h.ct
  omega
 ·obtain ⟨k, rfl⟩ := Int.eq_ofNat_of_zero_le hp
  exact seen_put.2 (.inr h.at_)
theorem FmI.out {c n a b q0 q ch p k : Int} (h : FmI c n a b q0 q ch p k) (hp : 0 ≤ p) (hk : nxN c n p ≤ k) : FmM c n a b q0 q ch (p + 1) := by
 refine ⟨h.s, h.ct, fun e x hx hs y hy hb => ?_⟩
 by_cases g : (x : Int) = p
 ·obtain ⟨j, hj⟩ := List.getElem?_of_mem hy
  have hl := nx_len (c := c) (n := n) hp
  have hjl := (List.getElem?_eq_some_iff.1 hj).1
  have e2 : p.toNat = x := by omega
  refine (h.cl e).2 j y ?_ (by rw [e2]; exact hj) hb
  rw [e2] at hl
  omega
 ·exact (h.cl e).1 x (by omega) hs y hy hb
theorem gfm_0 {c n x : Int} (hn : n ≤ 1000) (h0 : 0 ≤ x) (h1 : x < n) : rdZ (gfmZ c n (qQq 0 (qQq (-1) 0))) x ≠ 0 ↔ Way (nxf c n) (fun _ => False) 0 x.toNat := by
 obtain ⟨k, rfl⟩ := Int.eq_ofNat_of_zero_le h0
 rw [gfm_at hn h1, Int.toNat_natCast]
 have e : (fun y : Nat => (y : Int) = -1) = fun _ => False := by funext y; simp
 rw [e]
 exact ⟨fun h => h.2.2, fun h => ⟨by omega, by omega, h⟩⟩
def LpJ (c n h : Int) (p : Nat) (k : Int) : Prop := ∃ j b : Nat, (j : Int) < k ∧ (bksL c n n.toNat)[j]? = some ((b : Int), h) ∧ Way (nxf c n) (fun _ => False) 0 p ∧ ((p : Int) = h ∨ Way (nxf c n) (fun x => (x : Int) = h) p b)
theorem LpJ.zero {c n h : Int} {p : Nat} : ¬LpJ c n h p 0 := fun ⟨j, _, hj, _⟩ => by omega
theorem LpJ.step {c n h : Int} {p : Nat} {k : Int} {b t : Nat} (hk : 0 ≤ k) (e : (bksL c n n.toNat)[k.toNat]? = some ((b : Int), (t : Int))) :
  LpJ c n h p (k + 1) ↔ (LpJ c n h p k ∨ ((t : Int) = h ∧ Way (nxf c n) (fun _ => False) 0 p ∧ ((p : Int) = h ∨ Way (nxf c n) (fun x => (x : Int) = h) p b))) := by
 constructor
 ·rintro ⟨j, b', hj, e', hw⟩
  by_cases g : (j : Int) = k
  ·have : j = k.toNat := by omega
   rw [this, e] at e'
   simp only [Option.some.injEq, Prod.mk.injEq] at e'
   have : b' = b := by omega
   subst this
   exact .inr ⟨e'.2, hw⟩
  ·exact .inl ⟨j, b', by omega, e', hw⟩
 ·rintro (⟨j, b', hj, e', hw⟩ | ⟨rfl, hw⟩)
  ·exact ⟨j, b', by omega, e', hw⟩
  ·exact ⟨k.toNat, b, by omega, e, hw⟩
theorem LpJ.all {c n h : Int} {p : Nat} {k : Int} (hn : n ≤ 1000) (hk : bkN c n ≤ k) : LpJ c n h p k ↔ lpP c n h p := by
 have e2 : min n.toNat 1000 = n.toNat := by omega
 unfold bkN at hk
 rw [e2] at hk
 unfold lpP
 rw [e2]
 constructor
 ·rintro ⟨j, b, hj, e, hw⟩
  exact ⟨b, List.mem_of_getElem? e, hw⟩
 ·rintro ⟨b, hm, hw⟩
  obtain ⟨j, hj⟩ := List.getElem?_of_mem hm
  exact ⟨j, b, by have := (List.getElem?_eq_some_iff.1 hj).1; omega, hj, hw⟩
def NoK (c n p k : Int) : Prop := ∀ j t : Nat, (j : Int) < k → (nxf c n p.toNat)[j]? = some t → Way (nxf c n) (fun _ => False) 0 p.toNat → ¬Way (nxf c n) (fun _ => False) t p.toNat
theorem NoK.next {c n p k : Int} {t : Nat} (h : NoK c n p k) (hk : 0 ≤ k) (ht : (nxf c n p.toNat)[k.toNat]? = some t) (hno : Way (nxf c n) (fun _ => False) 0 p.toNat → ¬Way (nxf c n) (fun _ => False) t p.toNat) : NoK c n p (k + 1) := fun j u hj hu => by
 by_cases g : (j : Int) = k
 ·have : j = k.toNat := by omega
  rw [this, ht] at hu
  cases hu
  exact hno
 ·exact h j u (by omega) hu
theorem cyc_ne {c n : Int} : cycZ c n ≠ 0 ↔ Cyc (nxf c n) := by
 unfold cycZ
 split
 ·rename_i h; simp [h]
 ·rename_i h; simp [h]
end Go.Eng
end
/-!  -/
noncomputable section
namespace Go.Eng
theorem shp_3 {op : Int} (h : op = 32 ∨ (34 ≤ op ∧ op ≤ 38)) : shpZ op 0 = 1 ∧ shpZ op 1 = 1 ∧ shpZ op 2 = 0 ∧ shpZ op 3 = 3 := by
 unfold shpZ
 refine ⟨?_, ?_, ?_, ?_⟩ <;> simp only [Int.reduceEq, if_true, if_false] <;> omega
theorem cck_3 {op d a b n : Int} (h : op = 32 ∨ (34 ≤ op ∧ op ≤ 38)) : cckI op d a b n = if ¬ (0 ≤ d ∧ d ≤ 31) then 6 else if ¬ (0 ≤ a ∧ a ≤ 31) then 6 else if ¬ (b = 0) then 3 else if ¬ (0 ≤ n ∧ n ≤ 65535) then 6 else 0 := by
 obtain ⟨h0, h1, h2, h3⟩ := shp_3 h
 unfold cckI fieE
 rw [h0, h1, h2, h3, if_neg (by omega)]
 simp only [Int.reduceEq, if_true, if_false]
 omega
theorem shp_5 {op : Int} (h : op = 39) : shpZ op 0 = 0 ∧ shpZ op 1 = 0 ∧ shpZ op 2 = 0 ∧ shpZ op 3 = 3 := by
 unfold shpZ
 refine ⟨?_, ?_, ?_, ?_⟩ <;> simp only [Int.reduceEq, if_true, if_false] <;> omega
theorem cck_5 {op d a b n : Int} (h : op = 39) : cckI op d a b n = if ¬ (d = 0) then 3 else if ¬ (a = 0) then 3 else if ¬ (b = 0) then 3 else if ¬ (0 ≤ n ∧ n ≤ 65535) then 6 else 0 := by
 obtain ⟨h0, h1, h2, h3⟩ := shp_5 h
 unfold cckI fieE
 rw [h0, h1, h2, h3, if_neg (by omega)]
 simp only [Int.reduceEq, if_true, if_false]
 omega
theorem cckZ_I (op d a b n : Int) : cckZ op d (qQq a (qQq b (qQq n 0))) = cckI op d a b n := by
 unfold cckZ
 simp [qQy, qQh]
end Go.Eng
end
/-!  -/
noncomputable section
namespace Go.Eng
def rokP (x : Int) : Prop := 1 ≤ qZt x ∧ ¬ seqZ (qQq 1 (qQq (dropZ (rdZ x 1) 0) 0)) (qQq 1 (qQq (qQq 114 0) 0)) = 0 ∧ ¬ numK (qQq (qZt x - 1) (qQq (dropZ (rdZ x 1) 1) 0)) = 0
noncomputable instance (x : Int) : Decidable (rokP x) := by unfold rokP; infer_instance
end Go.Eng
end
/-!  -/
noncomputable section
namespace Go.Eng
set_option maxRecDepth 10000
end Go.Eng
end
/-!  -/
noncomputable section
namespace Go.Eng
noncomputable abbrev nmOf (q : Int) (i : Nat) : ByteArray := qQv (rdZ (rdZ q i) 0)
noncomputable abbrev txs (z : Int) (m : Nat) : List (List UInt8) := (List.range m).map fun (j : Nat) => bytL (rdZ z j)
noncomputable abbrev txq (q : Int) (m : Nat) : List (List UInt8) := (List.range m).map fun (j : Nat) => bytL (rdZ (rdZ q j) 0)
end Go.Eng
end
/-!  -/
noncomputable section
namespace Go.Eng
end Go.Eng
end
/-!  -/
noncomputable section
namespace Go.Eng
section
variable {w : Int} {N : Nat} {n1 : Int} {m : Mac}
def Tg (op n pc t : Int) : Prop := (t = IntKind.wrap .i64 (pc + 1) ∧ op ≠ 39 ∧ op ≠ 40 ∧ op ≠ 43) ∨ (t = n ∧ 36 ≤ op ∧ op ≤ 40)
theorem tg_next {c : Int} {N p : Nat} {t : Int} (hN : N ≤ 1000000) (hp : p < N) (h5 : decZ (IntKind.wrap .u32 (rdZ c p)) 5 = 0) (hj : decZ (IntKind.wrap .u32 (rdZ c p)) 0 ≠ 41)
  (ht : Tg (decZ (IntKind.wrap .u32 (rdZ c p)) 0) (decZ (IntKind.wrap .u32 (rdZ c p)) 4) p t) (h0 : 0 ≤ t) (h1 : t < N) : t.toNat ∈ nxf c N p := by
 have hL := nxL_in (q := c) (n := N) (p := p) (by omega) (by omega) rfl rfl
 have hop := (dec_in (rdZ c p) h5).1
 generalize decZ (IntKind.wrap .u32 (rdZ c p)) 0 = y0 at *
 generalize decZ (IntKind.wrap .u32 (rdZ c p)) 4 = y4 at *
 have ew : IntKind.wrap .i64 ((p : Int) + 1) = p + 1 := w64 (by omega) (by omega)
 unfold Tg at ht
 rw [ew] at ht
 unfold nxf
 rw [hL]
 refine List.mem_map.2 ⟨t, ?_, rfl⟩
 by_cases g1 : y0 = 39 ∨ y0 = 40
 ·rw [nxC_1 g1]
  have : t = y4 := by omega
  rw [if_pos (by omega), this]
  simp
 ·by_cases g2 : y0 = 36 ∨ y0 = 37 ∨ y0 = 38
  ·rw [nxC_2 g2, List.mem_filter]
   refine ⟨?_, by simpa using h1⟩
   unfold go2
   have : t = y4 ∨ t = p + 1 := by omega
   split
   ·simp; omega
   ·split <;> (simp; omega)
  ·rw [nxC_3 (by omega) g1 g2]
   have : t = p + 1 := by omega
   rw [if_pos (by omega), this]
   simp
end
end Go.Eng
end
