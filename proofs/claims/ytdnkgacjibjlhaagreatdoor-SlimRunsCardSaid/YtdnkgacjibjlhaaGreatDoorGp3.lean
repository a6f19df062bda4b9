/-
  Parts of the engine, a program's symbolic run, proved sound; and of plain laws.
-/
import Derived.Test.YtdnkgacjibjlhaaGreatDoorGp2
import Derived.Test.YtdnkgacjibjlhaaGreatDoorGp1
set_option linter.unusedVariables false
set_option linter.unusedSimpArgs false
/-!  -/
noncomputable section
namespace Go.Eng
abbrev b32 (x : Int) : BitVec 32 := BitVec.ofInt 32 x
def bt (Z : BitVec 32) (i : Nat) : Int := if Z.getLsbD i then 1 else 0
end Go.Eng
end
/-!  -/
noncomputable section
namespace Go.Eng
section
variable {rg rm pc st co mq nm d a b n nr : Int}
end
theorem dec_in (x : Int) (h : decZ (IntKind.wrap .u32 x) 5 = 0) : (1 ≤ decZ (IntKind.wrap .u32 x) 0 ∧ decZ (IntKind.wrap .u32 x) 0 ≤ 43) ∧ (0 ≤ decZ (IntKind.wrap .u32 x) 1 ∧ decZ (IntKind.wrap .u32 x) 1 < 32) ∧ (0 ≤ decZ (IntKind.wrap .u32 x) 2 ∧ decZ (IntKind.wrap .u32 x) 2 < 32) ∧
  (0 ≤ decZ (IntKind.wrap .u32 x) 3 ∧ decZ (IntKind.wrap .u32 x) 3 < 32) ∧ (-32768 ≤ decZ (IntKind.wrap .u32 x) 4 ∧ decZ (IntKind.wrap .u32 x) 4 ≤ 65535) := by
 have hr := decR_ok x
 obtain ⟨r0, r1, r2, r3, r4, r5⟩ := decR_rd (IntKind.wrap .u32 x)
 have z := decZ_bd (IntKind.wrap .u32 x)
 have v : ∀ j, IntKind.wrap .i64 (decZ (IntKind.wrap .u32 x) j) = decZ (IntKind.wrap .u32 x) j := fun j => w64 (by have := z j; omega) (by have := z j; omega)
 unfold okRow at hr
 rw [r0, r1, r2, r3, r4, r5, v 0, v 1, v 2, v 3, v 4] at hr
 exact hr (by simp [qQz, h])
section
variable {c0 c1 n1 i rg rm pc st co mq nm xrg xrm xpc xst xmq xnm xg xm xp xs xq xn B S : Int} {k : Nat}
end
section
variable {wq nr rg rm pc st mq nm A B B' p s Q n : Int} {k : Nat}
end
section
variable {rg rm pc st co co' mq nm d a b n nr op : Int}
end
section
variable {wq nr rg rm pc st mq nm A p s Q n nc : Int} {k : Nat}
end
end Go.Eng
end
/-!  -/
noncomputable section
namespace Go.Eng
def RwK (k : IntKind) (q : Int) (L : List Int) : Prop := ∀ i : Nat, i < L.length → k.wrap (rdZ q i) = L.getD i 0
theorem RwK.eq {k : IntKind} {q n : Int} {L : List Int} (h : RwK k q L) (hn : n ≤ L.length) : qQy [.int k] q (LZ L) n := rowEq_one fun i hi => by
 have hl : i < L.length := by omega
 rw [Rw.lz L i hl, ← h i hl, wrap_wrap _ _ _ (by exact Nat.le_refl _)]
end Go.Eng
end
/-!  -/
noncomputable section
namespace Go.Eng
section
variable {nx : Nat → List Nat}
theorem Way.nbar {bar : Nat → Prop} {a b : Nat} (h : Way nx bar a b) : ¬bar a ∧ ¬bar b := by
 induction h with
 | here h => exact ⟨h, h⟩
 | on _ _ hc ih => exact ⟨ih.1, hc⟩
theorem Way.trans {bar : Nat → Prop} {a b c : Nat} (h : Way nx bar a b) (k : Way nx bar b c) : Way nx bar a c := by
 induction k with
 | here _ => exact h
 | on _ h1 h2 ih => exact ih.on h1 h2
theorem Way.front {bar : Nat → Prop} {a b c : Nat} (ha : ¬bar a) (h : b ∈ nx a) (k : Way nx bar b c) : Way nx bar a c := (Way.on (.here ha) h k.nbar.1).trans k
theorem Way.least {bar S : Nat → Prop} {a b : Nat} (h : Way nx bar a b) (h0 : S a) (hs : ∀ b c, S b → c ∈ nx b → ¬bar c → S c) : S b := by
 induction h with
 | here _ => exact h0
 | on _ h1 h2 ih => exact hs _ _ ih h1 h2
theorem Way.mono {bar bar' : Nat → Prop} {a b : Nat} (h : Way nx bar a b) (k : ∀ x, bar' x → bar x) : Way nx bar' a b := by
 induction h with
 | here h => exact .here fun e => h (k _ e)
 | on _ h1 h2 ih => exact ih.on h1 fun e => h2 (k _ e)
theorem Way.lt {bar : Nat → Prop} {n a b : Nat} (hn : ∀ p, ∀ q ∈ nx p, q < n) (ha : a < n) (h : Way nx bar a b) : b < n := by
 induction h with
 | here _ => exact ha
 | on _ h1 _ _ => exact hn _ _ h1
def bkw (nx : Nat → List Nat) (n : Nat) (p : Nat) : List Nat := (List.range n).filter fun q => decide (p ∈ nx q)
structure Come (nx : Nat → List Nat) (bar : Nat → Prop) (p : Nat) (S S' : Nat → Prop) : Prop where
 sub : ∀ x, S x → S' x
 at_ : ¬bar p → S' p
 way : ∀ x, S' x → ¬S x → Way nx bar p x
 on : ∀ x, S' x → ¬S x → ∀ c ∈ nx x, S' c ∨ bar c
theorem Come.skip {bar S : Nat → Prop} {p : Nat} (h : S p ∨ bar p) : Come nx bar p S S :=
 ⟨fun _ h => h, fun hb => h.resolve_right hb, fun _ h k => absurd h k, fun _ h k => absurd h k⟩
structure ComeL (nx : Nat → List Nat) (bar : Nat → Prop) (p : Nat) (S T : Nat → Prop) (k : Nat) : Prop where
 sub : ∀ x, S x → T x
 at_ : T p
 way : ∀ x, T x → ¬S x → Way nx bar p x
 on : ∀ x, T x → ¬S x → x ≠ p → ∀ c ∈ nx x, T c ∨ bar c
 done : ∀ c ∈ (nx p).take k, T c ∨ bar c
theorem ComeL.start {bar S : Nat → Prop} {p : Nat} (hb : ¬bar p) : ComeL nx bar p S (fun x => S x ∨ x = p) 0 :=
 ⟨fun _ h => .inl h, .inr rfl, fun x h k => by
  rcases h with h | rfl
  ·exact absurd h k
  ·exact .here hb, fun x h k e => by
  rcases h with h | h
  ·exact absurd h k
  ·exact absurd h e, fun c hc => by simp at hc⟩
theorem ComeL.next {bar S T T' : Nat → Prop} {p c k : Nat} (h : ComeL nx bar p S T k) (hk : (nx p)[k]? = some c) (hc : Come nx bar c T T') (hb : ¬bar p) : ComeL nx bar p S T' (k + 1) := by
 have hcm : c ∈ nx p := List.mem_of_getElem? hk
 refine ⟨fun x hx => hc.sub x (h.sub x hx), hc.sub p h.at_, fun x hx hn => ?_, fun x hx hn e d hd => ?_, fun d hd => ?_⟩
 ·by_cases ht : T x
  ·exact h.way x ht hn
  ·exact Way.front hb hcm (hc.way x hx ht)
 ·by_cases ht : T x
  ·exact (h.on x ht hn e d hd).imp (hc.sub d) id
  ·exact hc.on x hx ht d hd
 ·rw [List.take_add_one, hk] at hd
  rcases List.mem_append.1 hd with hd | hd
  ·exact (h.done d hd).imp (hc.sub d) id
  ·simp at hd; subst hd
   by_cases hbd : bar d
   ·exact .inr hbd
   ·exact .inl (hc.at_ hbd)
theorem ComeL.fin {bar S T : Nat → Prop} {p k : Nat} (h : ComeL nx bar p S T k) (hk : (nx p).length ≤ k) : Come nx bar p S T :=
 ⟨h.sub, fun _ => h.at_, h.way, fun x hx hn c hc => by
  by_cases e : x = p
  ·subst e; exact h.done c (by rw [List.take_of_length_le hk]; exact hc)
  ·exact h.on x hx hn e c hc⟩
theorem Come.all {bar T : Nat → Prop} {p : Nat} (h : Come nx bar p (fun _ => False) T) (x : Nat) : T x ↔ Way nx bar p x := by
 refine ⟨fun hx => h.way x hx id, fun hw => ?_⟩
 refine hw.least (h.at_ hw.nbar.1) fun b c hb hc hn => (h.on b hb id c hc).resolve_right hn
def Ranked (nx : Nat → List Nat) (D : Nat → Prop) : Prop := ∃ r : Nat → Nat, ∀ x, D x → ∀ c ∈ nx x, D c ∧ r c < r x
theorem Ranked.put {D : Nat → Prop} {p : Nat} (h : Ranked nx D) (hp : ¬D p) (hs : ∀ c ∈ nx p, D c) : Ranked nx fun x => D x ∨ x = p := by
 obtain ⟨r, hr⟩ := h
 refine ⟨fun x => if x = p then ((nx p).map r).sum + 1 else r x, fun x hx c hc => ?_⟩
 have hsum : ∀ (l : List Nat) (c : Nat), c ∈ l → r c ≤ (l.map r).sum := fun l c hc => by
  induction l with
  | nil => cases hc
  | cons y l ih =>
   rcases List.mem_cons.1 hc with rfl | hc
   ·simp
   ·have := ih hc; simp; omega
 by_cases e : x = p
 ·subst e
  have hd := hs c hc
  have hcp : c ≠ x := fun e => hp (e ▸ hd)
  refine ⟨.inl hd, ?_⟩
  simp only [if_true, if_neg hcp]
  have := hsum _ _ hc
  omega
 ·have hx' : D x := hx.resolve_right e
  obtain ⟨h1, h2⟩ := hr x hx' c hc
  have hcp : c ≠ p := fun e => hp (e ▸ h1)
  refine ⟨.inl h1, ?_⟩
  simp only [if_neg e, if_neg hcp]
  exact h2
theorem Ranked.no_cyc {D : Nat → Prop} (h : Ranked nx D) (h0 : D 0) : ¬Cyc nx := by
 rintro ⟨p, hw, q, hq, hb⟩
 obtain ⟨r, hr⟩ := h
 have hp : D p := hw.least h0 fun b c hb hc _ => (hr b hb c hc).1
 have hqp := hr p hp q hq
 have : D p ∧ r p ≤ r q := hb.least (S := fun x => D x ∧ r x ≤ r q) ⟨hqp.1, Nat.le_refl _⟩ fun b c hb hc _ => ⟨(hr b hb.1 c hc).1, by have := (hr b hb.1 c hc).2; omega⟩
 omega
structure CyP (nx : Nat → List Nat) (p : Nat) (O D : Nat → Prop) (f : Prop) (O' D' : Nat → Prop) (f' : Prop) : Prop where
 opn : ∀ x, O' x ↔ O x
 sub : ∀ x, D x → D' x
 at_ : D' p
 apart : ∀ x, D' x → ¬O x
 more : f → f'
 yes : f' → Cyc nx
 no : ¬f' → Ranked nx D'
structure CyQ (nx : Nat → List Nat) (p : Nat) (O D : Nat → Prop) (f : Prop) : Prop where
 fr : ¬O p ∧ ¬D p
 from0 : Way nx (fun _ => False) 0 p
 opn : ∀ g, O g → Way nx (fun _ => False) g p
 apart : ∀ x, D x → ¬O x
 yes : f → Cyc nx
 no : ¬f → Ranked nx D
structure CyL (nx : Nat → List Nat) (p : Nat) (O D : Nat → Prop) (f : Prop) (O' D' : Nat → Prop) (f' : Prop) (k : Nat) : Prop where
 opn : ∀ x, O' x ↔ (O x ∨ x = p)
 sub : ∀ x, D x → D' x
 apart : ∀ x, D' x → ¬(O x ∨ x = p)
 more : f → f'
 yes : f' → Cyc nx
 no : ¬f' → Ranked nx D'
 done : ¬f' → ∀ c ∈ (nx p).take k, D' c
theorem CyL.start {O D : Nat → Prop} {f : Prop} {p : Nat} (h : CyQ nx p O D f) : CyL nx p O D f (fun x => O x ∨ x = p) D f 0 :=
 ⟨fun _ => Iff.rfl, fun _ h => h, fun x hx k => by
  rcases k with k | k
  ·exact h.apart x hx k
  ·subst k; exact h.fr.2 hx, id, h.yes, h.no, fun _ c hc => by simp at hc⟩
theorem CyL.pre {O D O' D' : Nat → Prop} {f f' : Prop} {p c k : Nat} (q : CyQ nx p O D f) (h : CyL nx p O D f O' D' f' k) (hk : (nx p)[k]? = some c) (ho : ¬O' c) (hd : ¬D' c) : CyQ nx c O' D' f' := by
 have hcm : c ∈ nx p := List.mem_of_getElem? hk
 refine ⟨⟨ho, hd⟩, q.from0.on hcm id, fun g hg => ?_, fun x hx k => h.apart x hx ((h.opn x).1 k), h.yes, h.no⟩
 rcases (h.opn g).1 hg with g1 | rfl
 ·exact (q.opn g g1).on hcm id
 ·exact .on (.here id) hcm id
theorem CyL.call {O D O' D' O2 D2 : Nat → Prop} {f f' f2 : Prop} {p c k : Nat} (h : CyL nx p O D f O' D' f' k) (hk : (nx p)[k]? = some c) (r : CyP nx c O' D' f' O2 D2 f2) : CyL nx p O D f O2 D2 f2 (k + 1) := by
 refine ⟨fun x => (r.opn x).trans (h.opn x), fun x hx => r.sub x (h.sub x hx), fun x hx k => r.apart x hx ((h.opn x).2 k), fun hf => r.more (h.more hf), r.yes, r.no, fun hf x hx => ?_⟩
 rw [List.take_add_one, hk] at hx
 rcases List.mem_append.1 hx with hx | hx
 ·exact r.sub x (h.done (fun e => hf (r.more e)) x hx)
 ·simp at hx; subst hx; exact r.at_
theorem CyL.fin {O D O' D' : Nat → Prop} {f f' : Prop} {p k : Nat} (q : CyQ nx p O D f) (h : CyL nx p O D f O' D' f' k) (hk : (nx p).length ≤ k) : CyP nx p O D f (fun x => O' x ∧ x ≠ p) (fun x => D' x ∨ x = p) f' := by
 refine ⟨fun x => ?_, fun x hx => .inl (h.sub x hx), .inr rfl, fun x hx ho => ?_, h.more, h.yes, fun hf => ?_⟩
 ·rw [h.opn]
  constructor
  ·rintro ⟨g | g, e⟩
   ·exact g
   ·exact absurd g e
  ·intro g
   exact ⟨.inl g, fun e => q.fr.1 (e ▸ g)⟩
 ·rcases hx with hx | rfl
  ·exact h.apart x hx (.inl ho)
  ·exact q.fr.1 ho
 ·have hd := h.done hf
  rw [List.take_of_length_le hk] at hd
  exact (h.no hf).put (fun e => h.apart p e (.inr rfl)) hd
theorem CyP.all {O' D' : Nat → Prop} {f' : Prop} (h : CyP nx 0 (fun _ => False) (fun _ => False) False O' D' f') : f' ↔ Cyc nx :=
 ⟨h.yes, fun hc => Classical.byContradiction fun hf => (h.no hf).no_cyc h.at_ hc⟩
end
end Go.Eng
end
/-!  -/
noncomputable section
namespace Go.Eng
theorem nx_z0 : LZ [] = 0 := rfl
theorem nx_z1 (a : Int) : LZ [a] = qQq a 0 := by
 have : ZL 0 = [] := by rw [← nx_z0, qKw]
 unfold qQq; rw [this]
theorem nx_z2 (a b : Int) : LZ [a, b] = qQq a (qQq b 0) := by
 rw [← nx_z1 b]; unfold qQq; rw [qKw]
theorem nx_say {q n p m y : Int} {l : List Int} (h : nxL q n p = l) (hm : m = (l.length : Int)) (hy : y = LZ l) : m = nxN q n p ∧ qQy [.int .i64] y (nxZ q n p) m := by
 subst hm; subst hy; subst h
 exact ⟨rfl, qZt _ _ _⟩
def nxC (y0 y4 n p : Int) : List Int :=
 if y0 = 0 ∨ y0 = 41 ∨ y0 = 43 then [] else
 if y0 = 39 ∨ y0 = 40 then [y4].filter (fun x => decide (x < n)) else
 if y0 = 36 ∨ y0 = 37 ∨ y0 = 38 then (go2 y4 (p + 1)).filter (fun x => decide (x < n)) else
 [p + 1].filter (fun x => decide (x < n))
theorem nxL_in {q n p y0 y4 : Int} (hp : 0 ≤ p) (hn : p < n) (h0 : y0 = decZ (IntKind.wrap .u32 (rdZ q p)) 0) (h4 : y4 = decZ (IntKind.wrap .u32 (rdZ q p)) 4) : nxL q n p = nxC y0 y4 n p := by
 unfold nxL nxC
 rw [if_neg (by omega), ← h0, ← h4]
theorem nxL_out {q n p : Int} (h : p < 0 ∨ n ≤ p) : nxL q n p = [] := by unfold nxL; rw [if_pos h]
theorem nxC_0 {y0 y4 n p : Int} (h : y0 = 0 ∨ y0 = 41 ∨ y0 = 43) : nxC y0 y4 n p = [] := by unfold nxC; rw [if_pos h]
theorem nxC_1 {y0 y4 n p : Int} (h : y0 = 39 ∨ y0 = 40) : nxC y0 y4 n p = if y4 < n then [y4] else [] := by
 unfold nxC; rw [if_neg (by omega), if_pos h]; by_cases e : y4 < n <;> simp [e]
theorem nxC_2 {y0 y4 n p : Int} (h : y0 = 36 ∨ y0 = 37 ∨ y0 = 38) : nxC y0 y4 n p = (go2 y4 (p + 1)).filter (fun x => decide (x < n)) := by
 unfold nxC; rw [if_neg (by omega), if_neg (by omega), if_pos h]
theorem nxC_3 {y0 y4 n p : Int} (h : ¬ (y0 = 0 ∨ y0 = 41 ∨ y0 = 43)) (h1 : ¬ (y0 = 39 ∨ y0 = 40)) (h2 : ¬ (y0 = 36 ∨ y0 = 37 ∨ y0 = 38)) : nxC y0 y4 n p = if p + 1 < n then [p + 1] else [] := by
 unfold nxC; rw [if_neg h, if_neg h1, if_neg h2]; by_cases e : p + 1 < n <;> simp [e]
theorem nx_two {q n p y s : Int} (hL : nxL q n p = (go2 y s).filter (fun x => decide (x < n))) :
  (n ≤ y → (s < n → (1 : Int) = nxN q n p ∧ qQy [.int .i64] (qQq s 0) (nxZ q n p) 1) ∧ (n ≤ s → (0 : Int) = nxN q n p ∧ qQy [.int .i64] 0 (nxZ q n p) 0)) ∧
  (y < n → (n ≤ s → (1 : Int) = nxN q n p ∧ qQy [.int .i64] (qQq y 0) (nxZ q n p) 1) ∧
   (s < n → (s < y → (y = s → (1 : Int) = nxN q n p ∧ qQy [.int .i64] (qQq s 0) (nxZ q n p) 1) ∧ (¬y = s → (2 : Int) = nxN q n p ∧ qQy [.int .i64] (qQq s (qQq y 0)) (nxZ q n p) 2)) ∧
    (y ≤ s → (s = y → (1 : Int) = nxN q n p ∧ qQy [.int .i64] (qQq y 0) (nxZ q n p) 1) ∧ (¬s = y → (2 : Int) = nxN q n p ∧ qQy [.int .i64] (qQq y (qQq s 0)) (nxZ q n p) 2)))) := by
 have k0 : nxL q n p = [] → (0 : Int) = nxN q n p ∧ qQy [.int .i64] 0 (nxZ q n p) 0 := fun h => nx_say h rfl rfl
 have k1 : ∀ a, nxL q n p = [a] → (1 : Int) = nxN q n p ∧ qQy [.int .i64] (qQq a 0) (nxZ q n p) 1 := fun a h => nx_say h rfl (nx_z1 a).symm
 have k2 : ∀ a b, nxL q n p = [a, b] → (2 : Int) = nxN q n p ∧ qQy [.int .i64] (qQq a (qQq b 0)) (nxZ q n p) 2 := fun a b h => nx_say h rfl (nx_z2 a b).symm
 refine ⟨fun h => ⟨fun g => k1 _ ?_, fun g => k0 ?_⟩, fun h => ⟨fun g => k1 _ ?_, fun g => ⟨fun c => ⟨fun e => by omega, fun e => k2 _ _ ?_⟩, fun c => ⟨fun e => k1 _ ?_, fun e => k2 _ _ ?_⟩⟩⟩⟩
 all_goals
  rw [hL]; unfold go2
 ·rw [if_neg (by omega), if_neg (by omega)]; simp [g, Int.not_lt.2 h]
 ·split
  ·simp [Int.not_lt.2 h]
  ·split <;> simp [Int.not_lt.2 h, Int.not_lt.2 g]
 ·rw [if_neg (by omega), if_pos (by omega)]; simp [h, Int.not_lt.2 g]
 ·rw [if_neg (by omega), if_neg (by omega)]; simp [h, g]
 ·rw [if_pos (by omega)]; simp [h]
 ·rw [if_neg (by omega), if_pos (by omega)]; simp [h, g]
end Go.Eng
end
/-!  -/
noncomputable section
namespace Go.Eng
theorem nx_mem {q n p x : Int} (h : x ∈ nxL q n p) : x < n := by
 unfold nxL at h
 split at h
 ·cases h
 split at h
 ·cases h
 split at h
 ·simpa using (List.mem_filter.1 h).2
 split at h
 ·simpa using (List.mem_filter.1 h).2
 ·simpa using (List.mem_filter.1 h).2
theorem nd_filter {l : List Int} (p : Int → Bool) (h : l.Nodup) : (l.filter p).Nodup := List.Pairwise.sublist List.filter_sublist h
theorem nx_nodup (q n p : Int) : (nxL q n p).Nodup := by
 unfold nxL
 split
 ·exact List.nodup_nil
 split
 ·exact List.nodup_nil
 split
 ·exact nd_filter _ (by simp)
 split
 ·refine nd_filter _ ?_
  unfold go2
  split
  ·simp
  ·split
   ·simp; omega
   ·simp; omega
 ·exact nd_filter _ (by simp)
theorem dec4_pos {w : Int} (h : decZ w 0 = 39 ∨ decZ w 0 = 40 ∨ decZ w 0 = 36 ∨ decZ w 0 = 37 ∨ decZ w 0 = 38) : 0 ≤ decZ w 4 := by
 unfold decZ at h ⊢
 simp only [Int.reduceEq, if_false, if_true] at h ⊢
 split
 ·omega
 ·rename_i hp
  rw [if_neg hp] at h
  unfold decN
  simp only
  split
  ·omega
  ·split <;> omega
theorem nx_pos {q n p x : Int} (hp : 0 ≤ p) (h : x ∈ nxL q n p) : 0 ≤ x := by
 unfold nxL at h
 split at h
 ·cases h
 split at h
 ·cases h
 split at h
 ·rename_i e
  have hx := (List.mem_filter.1 h).1
  simp at hx; subst hx
  exact dec4_pos (by omega)
 split at h
 ·rename_i e
  have hx := (List.mem_filter.1 h).1
  have hd := dec4_pos (w := IntKind.wrap .u32 (rdZ q p)) (by omega)
  unfold go2 at hx
  split at hx
  ·simp at hx; omega
  ·split at hx
   ·simp at hx; omega
   ·simp at hx; omega
 ·have hx := (List.mem_filter.1 h).1
  simp at hx; omega
theorem nxf_lt {q n : Int} {p x : Nat} (h : x ∈ nxf q n p) : (x : Int) < n := by
 unfold nxf at h
 obtain ⟨y, hy, e⟩ := List.mem_map.1 h
 have := nx_mem hy
 have := nx_pos (Int.natCast_nonneg p) hy
 omega
theorem nxf_nodup (q n : Int) (p : Nat) : (nxf q n p).Nodup := by
 unfold nxf
 refine List.pairwise_map.2 ((nx_nodup q n p).imp_of_mem ?_)
 intro a b ha hb hab e
 have := nx_pos (Int.natCast_nonneg p) ha
 have := nx_pos (Int.natCast_nonneg p) hb
 omega
theorem nxf_len (q n : Int) (p : Nat) : (nxf q n p).length ≤ 1000 := by
 unfold nxf
 have := nxN_bd q n p
 unfold nxN at this
 rw [List.length_map]; omega
end Go.Eng
end
