/-
  Several parts in one file: the engine, or its laws.
-/
import Derived.Test.YtjooaieolphomaaGreatDoorEu2

/-! A symbolic executor, part O: a region's orders by masks, in layers. -/
section
set_option linter.unusedVariables false
set_option linter.unusedSimpArgs false
namespace Go.Eng

/-! ### sets of small numbers, as masks -/

def maskOf : List Nat → Nat
  | [] => 0
  | i :: l => (1 <<< i) ||| maskOf l

theorem maskOf_bit (j : Nat) : ∀ (l : List Nat), (maskOf l).testBit j = l.contains j
  | [] => by simp [maskOf]
  | i :: l => by
    rw [maskOf, Nat.testBit_or, maskOf_bit j l, Nat.one_shiftLeft, Nat.testBit_two_pow, List.contains_cons]
    by_cases h : i = j
    · simp [h]
    · simp [h, Ne.symm h]

def subM (a m : Nat) : Bool := Nat.land a m == a

theorem subM_ok {a m : Nat} : subM a m = true ↔ ∀ j, a.testBit j = true → m.testBit j = true := by
  unfold subM
  rw [beq_iff_eq]
  constructor
  · intro h j hj
    have : (a &&& m).testBit j = true := by
      show (Nat.land a m).testBit j = true
      rw [h]; exact hj
    rw [Nat.testBit_and, Bool.and_eq_true] at this
    exact this.2
  · intro h
    show a &&& m = a
    apply Nat.eq_of_testBit_eq
    intro j
    rw [Nat.testBit_and]
    cases hj : a.testBit j with
    | false => rfl
    | true => simp [h j hj]

/-! ### a region's table -/

structure Base where
  dst : Option Nat
  lk : Nat
  need : Nat

def needs (o : Oper) : List Nat := (o.after.toList.filter fun e => Region.binds .any e).map (·.on)
def baseOf (ops : Array Oper) (o : Oper) : Base := ⟨o.dst, maskOf (o.looksAt ops), maskOf (needs o)⟩

def apartB (x y : Base) : Bool :=
  (match x.dst with
   | some d => !y.lk.testBit d && y.dst != some d
   | none => true) &&
  (match y.dst with
   | some d => !x.lk.testBit d
   | none => true)

theorem apartB_eq (ops : Array Oper) (x y : Oper) : apartB (baseOf ops x) (baseOf ops y) = x.apart ops y := by
  unfold apartB Oper.apart baseOf
  simp only [maskOf_bit]
  rfl

/-- the operations that stand against number i's coming first -/
def confAt (i : Nat) (b : Base) : List Base → Nat → Nat
  | [], _ => 0
  | c :: l, j => if j == i || c.need.testBit i || apartB b c then confAt i b l (j + 1) else (1 <<< j) ||| confAt i b l (j + 1)

theorem confAt_bit {i : Nat} {b : Base} : ∀ {l : List Base} {k j : Nat} {c : Base}, l[j]? = some c → (confAt i b l k).testBit (k + j) = false → (k + j == i || c.need.testBit i || apartB b c) = true
  | [], k, j, c, h, _ => by simp at h
  | x :: l, k, 0, c, h, hf => by
    simp only [List.getElem?_cons_zero, Option.some.injEq] at h
    subst h
    simp only [confAt] at hf
    split at hf
    · rename_i hc; simpa using hc
    · rw [Nat.testBit_or, Nat.one_shiftLeft, Nat.testBit_two_pow] at hf
      simp at hf
  | x :: l, k, j + 1, c, h, hf => by
    have h' : l[j]? = some c := by simpa using h
    rw [show k + (j + 1) = k + 1 + j by omega] at hf ⊢
    refine confAt_bit (l := l) h' ?_
    simp only [confAt] at hf
    split at hf
    · exact hf
    · rw [Nat.testBit_or, Bool.or_eq_false_iff] at hf
      exact hf.2

structure Row where
  need : Nat
  conf : Nat

def rowsOf (all : List Base) : List Base → Nat → List Row
  | [], _ => []
  | b :: l, i => ⟨b.need, confAt i b all 0⟩ :: rowsOf all l (i + 1)

def tableOf (ops : Array Oper) : List Row :=
  let all := ops.toList.map (baseOf ops)
  rowsOf all all 0

theorem rowsOf_get (all : List Base) : ∀ (l : List Base) (k i : Nat), (rowsOf all l k)[i]? = (l[i]?).map fun b => ⟨b.need, confAt (k + i) b all 0⟩
  | [], k, i => by simp [rowsOf]
  | b :: l, k, 0 => by simp [rowsOf]
  | b :: l, k, i + 1 => by
    simp only [rowsOf, List.getElem?_cons_succ, rowsOf_get all l (k + 1) i]
    rw [show k + 1 + i = k + (i + 1) by omega]

theorem tableOf_get (ops : Array Oper) (i : Nat) : (tableOf ops)[i]? = (ops[i]?).map fun o => ⟨(baseOf ops o).need, confAt i (baseOf ops o) (ops.toList.map (baseOf ops)) 0⟩ := by
  unfold tableOf
  simp only [rowsOf_get, List.getElem?_map, Array.getElem?_toList, Nat.zero_add, Option.map_map]
  rfl

/-! ### what is listed, as a mask -/

def liOf (n : Nat) (m : Nat) : Array Bool := ((List.range n).map fun i => m.testBit i).toArray

theorem liOf_getD (n m i : Nat) (d : Bool) : (liOf n m).getD i d = if i < n then m.testBit i else d := by
  unfold liOf
  by_cases h : i < n
  · simp [Array.getD_eq_getD_getElem?, h]
  · simp [Array.getD_eq_getD_getElem?, h]

theorem liOf_zero (n : Nat) : liOf n 0 = Array.replicate n false := by
  apply Array.ext'
  simp [liOf, List.map_const']

theorem liOf_set {n m k : Nat} (hk : k < n) : (liOf n m).setIfInBounds k true = liOf n (m ||| (1 <<< k)) := by
  apply Array.ext
  · simp [liOf]
  · intro i h1 h2
    have hi : i < n := by simpa [liOf] using h2
    have hs : i < (liOf n m).size := by simpa [liOf] using hi
    rw [Array.getElem_setIfInBounds hs]
    simp only [liOf, List.getElem_toArray, List.getElem_map, List.getElem_range, Nat.testBit_or, Nat.one_shiftLeft, Nat.testBit_two_pow]
    by_cases hki : k = i <;> simp [hki]

def readyM (m : Nat) : List Row → Nat → List Nat
  | [], _ => []
  | r :: l, i => if !m.testBit i && subM r.need m then i :: readyM m l (i + 1) else readyM m l (i + 1)

theorem readyM_eq (m : Nat) : ∀ (l : List Row) (k : Nat), readyM m l k = (List.range' k l.length).filter fun i => !m.testBit i && ((l[i - k]?).map fun r => subM r.need m).getD false
  | [], k => by simp [readyM]
  | r :: l, k => by
    have hf : (List.range' (k + 1) l.length).filter (fun i => !m.testBit i && (((r :: l)[i - k]?).map fun r => subM r.need m).getD false) =
        (List.range' (k + 1) l.length).filter (fun i => !m.testBit i && ((l[i - (k + 1)]?).map fun r => subM r.need m).getD false) := by
      apply List.filter_congr
      intro i hi
      have := List.mem_range'_1.1 hi
      rw [show i - k = (i - (k + 1)) + 1 by omega, List.getElem?_cons_succ]
    rw [List.length_cons, List.range'_succ, List.filter_cons, hf, ← readyM_eq m l (k + 1)]
    simp only [readyM, Nat.sub_self, List.getElem?_cons_zero, Option.map_some, Option.getD_some]

/-- every operation waits for operations of the region alone -/
def closedT (n : Nat) (ops : Array Oper) : Bool := ops.toList.all fun o => (needs o).all fun j => decide (j < n)

theorem ready_eq {ops : Array Oper} (hc : closedT ops.size ops = true) (m : Nat) : Region.ready .any ops (liOf ops.size m) = readyM m (tableOf ops) 0 := by
  have hl : (tableOf ops).length = ops.size := by
    have : ∀ (all l : List Base) (k : Nat), (rowsOf all l k).length = l.length := by
      intro all l
      induction l with
      | nil => intro k; rfl
      | cons b l ih => intro k; simp [rowsOf, ih]
    simp [tableOf, this]
  rw [readyM_eq, hl, ← List.range_eq_range']
  unfold Region.ready
  apply List.filter_congr
  intro i hi
  have hi' : i < ops.size := by simpa using hi
  rw [liOf_getD, if_pos hi', Nat.sub_zero, tableOf_get]
  congr 1
  rw [Array.getElem?_eq_getElem hi']
  simp only [Option.map_some, Option.getD_some]
  have hcl : ∀ j ∈ needs ops[i], j < ops.size := by
    have := List.all_eq_true.1 hc ops[i] (by simp)
    intro j hj
    simpa using List.all_eq_true.1 this j hj
  generalize hX : subM (baseOf ops ops[i]).need m = X
  cases X with
  | true =>
    rw [subM_ok] at hX
    rw [Array.all_eq_true']
    intro e he
    cases hb : Region.binds .any e with
    | false => rfl
    | true =>
      have hmem : e.on ∈ needs ops[i] := by
        simp only [needs, List.mem_map, List.mem_filter]
        exact ⟨e, ⟨by simpa using he, hb⟩, rfl⟩
      have := hX e.on (by simp only [baseOf, maskOf_bit]; simpa using hmem)
      rw [liOf_getD, if_pos (hcl _ hmem), this]
      rfl
  | false =>
    cases hA : (ops[i].after.all fun e => !Region.binds .any e || (liOf ops.size m).getD e.on false) with
    | false => rfl
    | true =>
      exfalso
      rw [Array.all_eq_true'] at hA
      have : subM (baseOf ops ops[i]).need m = true := by
        rw [subM_ok]
        intro j hj
        simp only [baseOf, maskOf_bit] at hj
        have hj' : j ∈ needs ops[i] := by simpa using hj
        simp only [needs, List.mem_map, List.mem_filter] at hj'
        obtain ⟨e, ⟨he, hb⟩, rfl⟩ := hj'
        have := hA e (by simpa using he)
        rw [hb, liOf_getD, if_pos (hcl _ (by simpa using hj))] at this
        simpa using this
      rw [this] at hX
      cases hX

theorem free_of {ops : Array Oper} {m i : Nat} {r : Row} (hr : (tableOf ops)[i]? = some r) (h : subM r.conf m = true) : Region.free .any ops (liOf ops.size m) i = true := by
  rw [tableOf_get] at hr
  obtain ⟨oi, hoi, rfl⟩ := Option.map_eq_some_iff.1 hr
  simp only [Region.free, hoi]
  rw [List.all_eq_true]
  intro j hj
  have hj' : j < ops.size := by simpa using hj
  rw [liOf_getD, if_pos hj']
  rw [Array.getElem?_eq_getElem hj']
  simp only
  cases hm : m.testBit j with
  | true => simp
  | false =>
    have hcf : (confAt i (baseOf ops oi) (ops.toList.map (baseOf ops)) 0).testBit (0 + j) = false := by
      cases hb : (confAt i (baseOf ops oi) (ops.toList.map (baseOf ops)) 0).testBit (0 + j) with
      | false => rfl
      | true =>
        have := (subM_ok.1 h) (0 + j) hb
        rw [Nat.zero_add, hm] at this
        cases this
    have := confAt_bit (l := ops.toList.map (baseOf ops)) (c := baseOf ops ops[j]) (by simp [hj']) hcf
    rw [apartB_eq, Nat.zero_add] at this
    simp only [Bool.or_eq_true] at this ⊢
    rcases this with (h1 | h1) | h1
    · exact .inl (.inl h1)
    · right; left
      simp only [baseOf, maskOf_bit] at h1
      have h1' : i ∈ needs ops[j] := by simpa using h1
      simp only [needs, List.mem_map, List.mem_filter] at h1'
      obtain ⟨e, ⟨he, hb⟩, hon⟩ := h1'
      rw [Array.any_eq_true']
      exact ⟨e, by simpa using he, by simp [hb, hon]⟩
    · right; right; exact h1

/-! ### the walk in layers: what is listed alike is walked once -/

structure C where
  li : Nat
  tm : List SV
  bl : List SBlk

/-- one more, merged into those that are there; none: they do not agree -/
def addC (c : C) : List C → Option (List C)
  | [] => some [c]
  | x :: l => if c.li == x.li then (if SV.beqL c.tm x.tm && blBeq c.bl x.bl then some (x :: l) else none)
    else (addC c l).map (x :: ·)

theorem addC_ok {c : C} : ∀ {l m : List C}, addC c l = some m → c ∈ m ∧ ∀ x ∈ l, x ∈ m
  | [], m, h => by cases h; exact ⟨by simp, fun x hx => by cases hx⟩
  | y :: l, m, h => by
    simp only [addC] at h
    split at h
    · rename_i h1
      split at h <;> cases h
      rename_i h2
      simp only [Bool.and_eq_true] at h2
      refine ⟨?_, fun x hx => hx⟩
      have e1 : c.li = y.li := by simpa using h1
      have e2 := SV.eqL_of_beq _ _ h2.1
      have e3 := bl_of_beq h2.2
      obtain ⟨a1, a2, a3⟩ := c
      obtain ⟨b1, b2, b3⟩ := y
      simp only at e1 e2 e3
      subst e1; subst e2; subst e3
      simp
    · obtain ⟨m', hm, rfl⟩ := Option.map_eq_some_iff.1 h
      obtain ⟨g1, g2⟩ := addC_ok hm
      refine ⟨by simp [g1], fun x hx => ?_⟩
      rcases List.mem_cons.1 hx with rfl | hx
      · simp
      · simp [g2 x hx]

inductive LX where
  | ok (l : List C)
  | need (e : E)
  | bad (n : Nat)

def D.nextC (d : D) (c : C) : List Nat → List C → LX
  | [], acc => .ok acc
  | k :: ks, acc => match d.step k c.tm ⟨c.bl, d.s0.kn⟩ with
    | .ok tm1 s1 => match addC ⟨c.li ||| (1 <<< k), tm1, s1.bl⟩ acc with
      | some acc' => d.nextC c ks acc'
      | none => .bad 50
    | .need e => .need e
    | .bad n => .bad n

theorem nextC_ok {d : D} {c : C} : ∀ {ks : List Nat} {acc out : List C}, d.nextC c ks acc = .ok out → (∀ x ∈ acc, x ∈ out) ∧ ∀ k ∈ ks, ∃ tm1 s1, d.step k c.tm ⟨c.bl, d.s0.kn⟩ = .ok tm1 s1 ∧ (⟨c.li ||| (1 <<< k), tm1, s1.bl⟩ : C) ∈ out
  | [], acc, out, h => by cases h; exact ⟨fun x hx => hx, fun k hk => by cases hk⟩
  | k :: ks, acc, out, h => by
    simp only [D.nextC] at h
    split at h
    · rename_i tm1 s1 hst
      split at h
      · rename_i acc' ha
        obtain ⟨g1, g2⟩ := addC_ok ha
        obtain ⟨r1, r2⟩ := nextC_ok h
        refine ⟨fun x hx => r1 x (g2 x hx), fun j hj => ?_⟩
        rcases List.mem_cons.1 hj with rfl | hj
        · exact ⟨tm1, s1, hst, r1 _ g1⟩
        · exact r2 j hj
      · cases h
    · cases h
    · cases h

/-- an operation that may be taken first: its value -/
def D.takeM (d : D) (tbl : List Row) (m : Nat) (i : Nat) (tm : List SV) : Option SV :=
  match tbl[i]? with
  | none => none
  | some r =>
    if subM r.conf m then
      match d.ops[i]? with
      | none => none
      | some o =>
        match gdS d.ops tm d.s0 o with
        | .no => some undefS
        | .yes => if valOp o.op then
            match opS d.cx tm d.s0 o with
            | .leaf r => some (r.1.ren d.cx d.s0.kn)
            | _ => none
          else none
        | _ => none
    else none

def D.takeOneM (d : D) (tbl : List Row) (m : Nat) (tm : List SV) : List Nat → Option (Nat × SV)
  | [] => none
  | i :: l => match d.takeM tbl m i tm with
    | some v => some (i, v)
    | none => d.takeOneM tbl m tm l

theorem takeM_ok {d : D} {m i : Nat} {tm : List SV} {v : SV} (h : d.takeM (tableOf d.ops) m i tm = some v) : d.take (liOf d.ops.size m) i tm = some v ∧ i < d.ops.size := by
  unfold D.takeM at h
  split at h
  · cases h
  · rename_i r hr
    split at h
    · rename_i hs
      have hf := free_of hr hs
      split at h
      · cases h
      · rename_i o ho
        have hlt := (Array.getElem?_eq_some_iff.1 ho).1
        refine ⟨?_, hlt⟩
        unfold D.take
        rw [ho]
        simp only
        split at h
        · rename_i hg
          rw [hg]; simp only [hf, if_true]; exact h
        · rename_i hg
          rw [hg]
          split at h
          · rename_i hv
            split at h
            · rename_i r2 hr2
              simp only [hv, if_true, hr2, hf]
              exact h
            · cases h
          · cases h
        · cases h
    · cases h

theorem takeOneM_ok {d : D} {m : Nat} {tm : List SV} : ∀ {l : List Nat} {i : Nat} {v : SV}, d.takeOneM (tableOf d.ops) m tm l = some (i, v) → i ∈ l ∧ d.take (liOf d.ops.size m) i tm = some v ∧ i < d.ops.size
  | [], _, _, h => by cases h
  | k :: l, i, v, h => by
    simp only [D.takeOneM] at h
    split at h
    · rename_i u hu
      cases h
      exact ⟨by simp, takeM_ok hu⟩
    · obtain ⟨h1, h2⟩ := takeOneM_ok h
      exact ⟨by simp [h1], h2⟩

/-- what comes behind one -/
def D.next1 (d : D) (tbl : List Row) (c : C) (acc : List C) : LX :=
  match readyM c.li tbl 0 with
  | [] => .bad 58
  | i :: rest => match d.takeOneM tbl c.li c.tm (i :: rest) with
    | some (k, v) => match addC ⟨c.li ||| (1 <<< k), putS c.tm (dstOf d.ops k) v, c.bl⟩ acc with
      | some acc' => .ok acc'
      | none => .bad 50
    | none => d.nextC c (i :: rest) acc

def D.nextL (d : D) (tbl : List Row) : List C → List C → LX
  | [], acc => .ok acc
  | c :: cs, acc => match d.next1 tbl c acc with
    | .ok acc' => d.nextL tbl cs acc'
    | r => r

def D.layer (d : D) (tbl : List Row) : Nat → List C → X
  | 0, cs => match cs with
    | [c] => (match readyM c.li tbl 0 with
      | [] => .ok c.tm ⟨c.bl, d.s0.kn⟩
      | _ => .bad 58)
    | _ => .bad 58
  | fuel + 1, cs => match d.nextL tbl cs [] with
  | .ok l => if 40 < l.length then .bad 63 else d.layer tbl fuel l
    | .need e => .need e
    | .bad n => .bad n

section
variable {d : D} {ρ : Env} {β0 : Bt} {s00 : St} {w0 : World} {ds : List Deferred}

theorem layer_ok (hd : DOk d ρ β0 s00) (hcl : closedT d.ops.size d.ops = true) (hns : Region.noSelect d.ops = true) {Q : Exit → Act → World → Prop} (hQp : ∀ c a w, ¬ Q (.panic c) a w) {tm' : List SV} {s' : St}
    (hQ : ∀ a' w' s'', s''.bl = s'.bl → Cur d ρ β0 s00 w0 ds tm' s'' a' w' → Q .normal a' w') : ∀ (fuel : Nat) {cs : List C}, d.layer (tableOf d.ops) fuel cs = .ok tm' s' →
    ∀ c ∈ cs, ∀ (a : Act) (w : World), Cur d ρ β0 s00 w0 ds c.tm ⟨c.bl, d.s0.kn⟩ a w → wpAnyH d.cx.P .any d.ops Q (Sat ρ β0 d.s0) fuel (liOf d.ops.size c.li) a w
  | 0, cs, h, c, hc, a, w, hcur => by
    simp only [D.layer] at h
    split at h
    · rename_i c0
      split at h <;> cases h
      rename_i hr
      have : c = c0 := by simpa using hc
      subst this
      exact ⟨(ready_eq hcl _).trans hr, hQ _ _ _ rfl hcur⟩
    · cases h
  | fuel + 1, cs, h, c, hc, a, w, hcur => by
    simp only [D.layer] at h
    split at h
    · rename_i nx hnx
      split at h
      · cases h
      -- each of the layer is walked on
      have hone : ∀ (l acc out : List C), d.nextL (tableOf d.ops) l acc = .ok out → (∀ x ∈ acc, x ∈ out) ∧ ∀ c ∈ l, ∃ acc1 acc2, d.next1 (tableOf d.ops) c acc1 = .ok acc2 ∧ ∀ x ∈ acc2, x ∈ out := by
        intro l
        induction l with
        | nil => intro acc out h; cases h; exact ⟨fun x hx => hx, fun c hc => by cases hc⟩
        | cons c0 l ih =>
          intro acc out h
          simp only [D.nextL] at h
          split at h
          · rename_i acc' ha
            obtain ⟨i1, i2⟩ := ih acc' out h
            have hmono : ∀ x ∈ acc, x ∈ acc' := by
              unfold D.next1 at ha
              split at ha
              · cases ha
              · split at ha
                · split at ha <;> cases ha
                  rename_i hadd
                  exact (addC_ok hadd).2
                · exact (nextC_ok ha).1
            refine ⟨fun x hx => i1 x (hmono x hx), fun c hc => ?_⟩
            rcases List.mem_cons.1 hc with rfl | hc
            · exact ⟨acc, acc', ha, i1⟩
            · exact i2 c hc
          · rename_i hno
            exact absurd h (hno out)
      obtain ⟨_, h2⟩ := hone cs [] nx hnx
      obtain ⟨acc1, acc2, hn, hsub⟩ := h2 c hc
      unfold D.next1 at hn
      split at hn
      · cases hn
      · rename_i i rest hr
        split at hn
        · rename_i k v hk
          split at hn <;> cases hn
          rename_i hadd
          have hin := hsub _ (addC_ok hadd).1
          obtain ⟨hmem, htk, hklt⟩ := takeOneM_ok hk
          obtain ⟨⟨β, ht, hs, hx⟩, hds, hst⟩ := hcur
          obtain ⟨o, ho, hfree, hy⟩ := take_ok hd ht hx hst htk
          refine wpAnyH_take ho hns hfree (by rw [ready_eq hcl, hr]; simpa using hmem) (fun c a w h => absurd h (hQp c _ w)) hy hst ?_
          rw [liOf_set hklt]
          refine layer_ok hd hcl hns hQp hQ fuel h _ hin _ _ ⟨⟨β, ?_, hs, hx⟩, by rw [put_defers]; exact hds, hst⟩
          have : dstOf d.ops k = o.dst := by simp [dstOf, ho]
          simp only [this]
          exact putS_den ht _ _
        · refine wpAnyH_all ((ready_eq hcl _).trans hr) (by simp) fun k hk => ?_
          have hklt : k < d.ops.size := by
            have hk2 : k ∈ Region.ready .any d.ops (liOf d.ops.size c.li) := by rw [ready_eq hcl, hr]; exact hk
            simp only [Region.ready, List.mem_filter, List.mem_range] at hk2
            exact hk2.1
          obtain ⟨tm1, s1, hst1, hin⟩ := (nextC_ok hn).2 k hk
          refine step_ok hd hcur hst1 fun a' w' hc' => ⟨hc'.st, ?_⟩
          rw [liOf_set hklt]
          exact layer_ok hd hcl hns hQp hQ fuel h _ (hsub _ hin) _ _ (hc'.kn hd rfl rfl)
    · cases h
    · cases h

end
end Go.Eng
end

/-! A symbolic executor, part R: a region that draws, in one pass where one operation alone may come up next. -/
section
set_option linter.unusedVariables false
set_option linter.unusedSimpArgs false
namespace Go.Eng

theorem wpAnyH_swap {P : Program} {ops : Array Oper} {Q : Exit → Act → World → Prop} {S S' : World → Prop} (h : ∀ w, S w → S' w) : ∀ (fuel : Nat) {li : Array Bool} {a : Act} {w : World},
    wpAnyH P .any ops Q S fuel li a w → wpAnyH P .any ops Q S' fuel li a w
  | 0, _, _, _, hh => hh
  | fuel + 1, _, _, _, hh => ⟨hh.1, fun i hi => wpOp_mono (fun _ _ h' => ⟨h _ h'.1, wpAnyH_swap h fuel h'.2⟩) (hh.2 i hi)⟩

def D.kn (d : D) (kn : List (E × Bool)) : D := { d with s0 := { d.s0 with kn := kn } }

theorem DOk.kn' {d : D} {ρ : Env} {β0 : Bt} {s00 : St} (hd : DOk d ρ β0 s00) {kn : List (E × Bool)} (hk : ∀ e b, (e, b) ∈ kn → (e.ev ρ != 0) = b) : DOk (d.kn kn) ρ β0 s00 :=
  ⟨hd.hcx, hd.hcf, hd.hex, hd.hρ, hd.len, hd.sc, hd.le, hk, hd.inj⟩

/-- one operation that is wanted, whatever comes of it -/
def D.doT (d : D) (i : Nat) (o : Oper) (tm : List SV) (s : St) : RR :=
  match o.op with
  | .alloc el => (match zeroS d.cx el with
    | some z => match z.cells with
      | some l => match reviveS s (d.n0 + allocsTo d.ops i) l el with
        | some s1 => if SV.avL (d.n0 + allocsTo d.ops i) tm && stays d.s0.bl s1.bl then .leaf (putS tm o.dst (.ptr (d.n0 + allocsTo d.ops i) 0), s1) else .bad 57
        | none => .bad 54
      | none => .bad 55
    | none => .bad 55)
  | .box el x => (match (evO tm x).cells with
    | some l => match reviveS s (d.n0 + allocsTo d.ops i) l el with
      | some s1 => if SV.avL (d.n0 + allocsTo d.ops i) tm && stays d.s0.bl s1.bl then .leaf (putS tm o.dst (.ptr (d.n0 + allocsTo d.ops i) 0), s1) else .bad 57
      | none => .bad 54
    | none => .bad 56)
  | .buildSlice t len parts => (match rowC d.cx t len (parts.toList.map fun p => (p.1, evO tm p.2)) with
    | some (el, l) => match reviveS s (d.n0 + allocsTo d.ops i) l el with
      | some s1 => if SV.avL (d.n0 + allocsTo d.ops i) tm && stays d.s0.bl s1.bl then .leaf (putS tm o.dst (.slice (d.n0 + allocsTo d.ops i) 0 len (some len)), s1) else .bad 57
      | none => .bad 54
    | none => .bad 59)
  | _ => (opC d.cx d.cf d.ex tm s o).bind fun r => if (!chg o.op || SV.scL s.bl.length tm) && stays d.s0.bl r.2.bl then
      SV.share d.cx r.1 r.2 fun v s2 => .leaf (putS tm o.dst v, s2) else .bad 57

/-- one operation -/
def D.stepT (d : D) (i : Nat) (tm : List SV) (s : St) : RR :=
  match d.ops[i]? with
  | none => .bad 51
  | some o =>
    match wantS d.ops tm o with
    | .unk => .bad 52
    | .no => .leaf (putS tm o.dst undefS, s)
    | .yes => d.doT i o tm s
    | .on e want => if want then fork s e (fun s => d.doT i o tm s) (fun s => .leaf (putS tm o.dst undefS, s))
      else fork s e (fun s => .leaf (putS tm o.dst undefS, s)) (fun s => d.doT i o tm s)

/-- one by one; where more than one may come up: all orders -/
def D.lin (d : D) (tbl : List Row) : Nat → Nat → Nat → List SV → List SBlk → RR
  | 0, _, _, _, _ => .bad 58
  | _ + 1, 0, li, tm, bl => match readyM li tbl 0 with
    | [] => .leaf (tm, ⟨bl, d.s0.kn⟩)
    | _ => .bad 58
  | gas + 1, fuel + 1, li, tm, bl => match readyM li tbl 0 with
    | [] => .leaf (tm, ⟨bl, d.s0.kn⟩)
    | i :: rest => match d.takeOneM tbl li tm (i :: rest) with
      | some (k, v) => SV.share d.cx v ⟨bl, d.s0.kn⟩ fun v s => (d.kn s.kn).lin tbl gas fuel (li ||| (1 <<< k)) (putS tm (dstOf d.ops k) v) bl
      | none => match rest with
        | [] => (d.stepT i tm ⟨bl, d.s0.kn⟩).bind fun r => (d.kn r.2.kn).lin tbl gas fuel (li ||| (1 <<< i)) r.1 r.2.bl
        | _ => match d.layer tbl (fuel + 1) [⟨li, tm, bl⟩] with
          | .ok tm' s' => .leaf (tm', ⟨s'.bl, d.s0.kn⟩)
          | .need e => .br e ((d.kn ((e, true) :: d.s0.kn)).lin tbl gas (fuel + 1) li tm bl) ((d.kn ((e, false) :: d.s0.kn)).lin tbl gas (fuel + 1) li tm bl)
          | .bad n => .bad n

theorem ext_bl' {s s1 s2 : St} {β β' : Bt} {w w' : World} (h : Ext s s1 β β' w w') (e : s1.bl = s2.bl) {kn : List (E × Bool)} : Ext s ⟨s2.bl, kn⟩ β β' w w' := h.trans (ext_kn (s1 := ⟨s2.bl, kn⟩) e.symm β' w')

section
variable {d : D} {ρ : Env} {β0 : Bt} {s00 : St} {w0 : World} {ds : List Deferred}

theorem doT_ok (hd : DOk d ρ β0 s00) {i : Nat} {o : Oper} {tm tm1 : List SV} {s s1 : St} {a : Act} {w : World} (hc : Cur d ρ β0 s00 w0 ds tm s a w) (h : (d.doT i o tm s).sel ρ = some (tm1, s1))
    {K : Act → World → Prop} {Q : Exit → Act → World → Prop} (hK : ∀ a' w', Cur d ρ β0 s00 w0 ds tm1 s1 a' w' → K a' w') : o.wp d.cx.P a w K Q := by
  obtain ⟨⟨β, ht, hs, hx⟩, hds, hst⟩ := hc
  -- a box
  have mk : ∀ (el : TypeId) (l : List SV), (match reviveS s (d.n0 + allocsTo d.ops i) l el with
      | some s1 => if SV.avL (d.n0 + allocsTo d.ops i) tm && stays d.s0.bl s1.bl then (T.leaf (putS tm o.dst (.ptr (d.n0 + allocsTo d.ops i) 0), s1) : RR) else .bad 57
      | none => .bad 54).sel ρ = some (tm1, s1) →
      (execOp a.eval o).run d.cx.P w = .ok (.value (.pointer (some ⟨w.heap.size, 0, none⟩))) (w.alloc (.cells (SV.denL ρ β l).toArray el)) → o.wp d.cx.P a w K Q := by
    intro el l h hrun
    split at h
    · rename_i s2 h2
      split at h <;> cases h
      rename_i hh
      simp only [Bool.and_eq_true] at hh
      obtain ⟨r1, r2, r3, _, _⟩ := reviveS_ok hs hx (by have := hd.len; omega) h2
      refine Res.wp (.inl hrun) (hK _ _ ⟨⟨_, ?_, r1, r2⟩, by rw [put_defers]; exact hds, ?_⟩)
      · have hp : Value.pointer (some ⟨w.heap.size, 0, none⟩) = (SV.ptr (d.n0 + allocsTo d.ops i) 0).den ρ (bset β (d.n0 + allocsTo d.ops i) w.heap.size) := by simp [SV.den, bset]
        rw [hp]
        refine putS_den (ρ := ρ) ?_ _ _
        rw [ht, SV.denL_av r3 tm hh.1]
      · exact stays_sat hd r1 hh.2 (fun j hj => r2.ag j (by rw [hd.len]; exact hj))
    · cases h
  unfold D.doT at h
  split at h
  · rename_i el hop
    split at h
    · rename_i z hz
      split at h
      · rename_i l hl
        refine mk el l h ?_
        simp only [execOp, hop]
        refine run_v ?_
        simp only [Instr.alloc, Sem.run_bind, zeroS_ok (ρ := ρ) (β := β) (w := w) hz, Result.andThen_ok]
        simp [newVar, newRow, (SV.cells_den hd.hρ β hl).1]
      · cases h
    · cases h
  · rename_i el x hop
    split at h
    · rename_i l hl
      refine mk el l h ?_
      simp only [execOp, hop]
      refine run_v ?_
      simp only [evO_den ht, Instr.box, Sem.run_bind]
      simp [newVar, newRow, (SV.cells_den hd.hρ β hl).1]
    · cases h
  · rename_i bt len parts hop
    split at h
    · rename_i el l hl
      split at h
      · rename_i s2 h2
        split at h <;> cases h
        rename_i hh
        simp only [Bool.and_eq_true] at hh
        obtain ⟨r1, r2, r3, _, _⟩ := reviveS_ok hs hx (by have := hd.len; omega) h2
        have hrun : (execOp a.eval o).run d.cx.P w = .ok (.value (.slice (some ⟨w.heap.size, 0, none⟩) len len)) (w.alloc (.cells (SV.denL ρ β l).toArray el)) := by
          simp only [execOp, hop]
          refine run_v ?_
          rw [parts_map tm ht]
          exact rowC_ok hd.hρ hl
        refine Res.wp (.inl hrun) (hK _ _ ⟨⟨_, ?_, r1, r2⟩, by rw [put_defers]; exact hds, ?_⟩)
        · have hp : Value.slice (some ⟨w.heap.size, 0, none⟩) len len = (SV.slice (d.n0 + allocsTo d.ops i) 0 len (some len)).den ρ (bset β (d.n0 + allocsTo d.ops i) w.heap.size) := by simp [SV.den, bset]
          rw [hp]
          refine putS_den (ρ := ρ) ?_ _ _
          rw [ht, SV.denL_av r3 tm hh.1]
        · exact stays_sat hd r1 hh.2 (fun j hj => r2.ag j (by rw [hd.len]; exact hj))
      · cases h
    · cases h
  · obtain ⟨⟨r, s2⟩, h1, h2⟩ := T.sel_bind_some h
    split at h2
    · rename_i hh
      simp only [Bool.and_eq_true] at hh
      obtain ⟨hch, hstay⟩ := hh
      refine opC_ok hd.hcx hd.hcf hd.hex hd.hρ ht hs h1 _ _ ?_
      rintro V w' ⟨β', rfl, hs2, hx2, hc2⟩
      have htm : (SV.denL ρ β tm) = SV.denL ρ β' tm := by
        simp only [Bool.or_eq_true, Bool.not_eq_true'] at hch
        rcases hch with hch | hch
        · rw [hc2 hch]
        · exact (SV.denL_sc hx2.ag tm hch).symm
      rw [htm] at ht
      have hx3 := hx.trans hx2
      obtain ⟨v1, s3, hv1, hbl, hs3, h3⟩ := SV.share_ok hd.hρ r hs2 h2
      cases h3
      rw [← hv1 β']
      exact hK _ _ ⟨⟨β', putS_den ht _ _, hs3, hx3.trans (ext_kn hbl β' w')⟩, by rw [put_defers]; exact hds, stays_sat hd hs2 hstay (fun j hj => hx3.ag j (by rw [hd.len]; exact hj))⟩
    · cases h2

theorem stepT_ok (hd : DOk d ρ β0 s00) {i : Nat} {tm tm1 : List SV} {s s1 : St} {a : Act} {w : World} (hc : Cur d ρ β0 s00 w0 ds tm s a w) (h : (d.stepT i tm s).sel ρ = some (tm1, s1))
    {K : Act → World → Prop} {Q : Exit → Act → World → Prop} (hK : ∀ a' w', Cur d ρ β0 s00 w0 ds tm1 s1 a' w' → K a' w') : wpOp d.cx.P d.ops Q i K a w := by
  obtain ⟨⟨β, ht, hs, hx⟩, hds, hst⟩ := hc
  unfold D.stepT at h
  split at h
  · cases h
  · rename_i o ho
    unfold wpOp
    simp only [ho]
    have hw := wantS_ok (ops := d.ops) (o := o) ht
    have cur : ∀ s', s'.bl = s.bl → Sat ρ β s' w → Cur d ρ β0 s00 w0 ds tm s' a w := fun s' e hs' => ⟨⟨β, ht, hs', hx.trans (ext_kn e β w)⟩, hds, hst⟩
    have pass : ∀ s', s'.bl = s.bl → Sat ρ β s' w → (tm1, s1) = (putS tm o.dst undefS, s') → K (a.put o.dst undef) w := fun s' e hs' he => by
      cases he
      exact hK _ _ ⟨⟨β, putS_den ht o.dst undefS, hs', hx.trans (ext_kn e β w)⟩, by rw [put_defers]; exact hds, hst⟩
    cases hwd : wantS d.ops tm o with
    | unk => rw [hwd] at h; cases h
    | no =>
      rw [hwd] at h hw
      simp only at h hw
      rw [hw]
      simp only [Bool.false_eq_true, if_false]
      cases h
      exact pass s rfl hs rfl
    | yes =>
      rw [hwd] at h hw
      simp only at h hw
      rw [hw]
      simp only [if_true]
      exact .inl (doT_ok hd (cur s rfl hs) h hK)
    | on e want =>
      rw [hwd] at h hw
      simp only at h hw
      cases want
      · simp only [Bool.false_eq_true, if_false] at h
        obtain ⟨s2, e2, hs2, ⟨hne, h⟩ | ⟨h0, h⟩⟩ := fork_ok hs h
        · have : Region.wanted o (yielded d.ops a.tmps) = false := by rw [hw]; simpa using hne
          rw [this]
          simp only [Bool.false_eq_true, if_false]
          simp only [T.sel, Option.some.injEq] at h
          exact pass s2 e2 hs2 h.symm
        · have : Region.wanted o (yielded d.ops a.tmps) = true := by rw [hw]; simpa using h0
          rw [this]
          simp only [if_true]
          exact .inl (doT_ok hd (cur s2 e2 hs2) h hK)
      · simp only [if_true] at h
        obtain ⟨s2, e2, hs2, ⟨hne, h⟩ | ⟨h0, h⟩⟩ := fork_ok hs h
        · have : Region.wanted o (yielded d.ops a.tmps) = true := by rw [hw]; simpa using hne
          rw [this]
          simp only [if_true]
          exact .inl (doT_ok hd (cur s2 e2 hs2) h hK)
        · have : Region.wanted o (yielded d.ops a.tmps) = false := by rw [hw]; simpa using h0
          rw [this]
          simp only [Bool.false_eq_true, if_false]
          simp only [T.sel, Option.some.injEq] at h
          exact pass s2 e2 hs2 h.symm

theorem Cur.rekn {kn : List (E × Bool)} {tm : List SV} {s : St} {a : Act} {w : World} (hk : ∀ e b, (e, b) ∈ kn → (e.ev ρ != 0) = b) (h : Cur d ρ β0 s00 w0 ds tm s a w) : Cur (d.kn kn) ρ β0 s00 w0 ds tm ⟨s.bl, kn⟩ a w := by
  obtain ⟨⟨β, h1, h2, h3⟩, h4, h5⟩ := h
  exact ⟨⟨β, h1, ⟨h2.blk, h2.inj, hk, h2.ro⟩, h3.trans (ext_kn (s := s) (s1 := ⟨s.bl, kn⟩) rfl β w)⟩, h4, ⟨h5.blk, h5.inj, hk, h5.ro⟩⟩

theorem lin_ok (hcl : closedT d.ops.size d.ops = true) (hns : Region.noSelect d.ops = true) {Q : Exit → Act → World → Prop} (hQp : ∀ c a w, ¬ Q (.panic c) a w) {tm' : List SV} {s' : St}
    (hQ : ∀ a' w' β', a'.tmps = (SV.denL ρ β' tm').toArray → a'.defers = ds → Sat ρ β' s' w' → Ext s00 s' β0 β' w0 w' → Q .normal a' w') : ∀ (gas : Nat) {kn : List (E × Bool)} {fuel li : Nat} {tm : List SV} {bl : List SBlk} {a : Act} {w : World},
    DOk (d.kn kn) ρ β0 s00 → Cur (d.kn kn) ρ β0 s00 w0 ds tm ⟨bl, kn⟩ a w → ((d.kn kn).lin (tableOf d.ops) gas fuel li tm bl).sel ρ = some (tm', s') →
    wpAnyH d.cx.P .any d.ops Q (fun w => Sat ρ β0 ⟨d.s0.bl, []⟩ w) fuel (liOf d.ops.size li) a w
  | 0, kn, fuel, li, tm, bl, a, w, hd, hc, h => by cases h
  | gas + 1, kn, 0, li, tm, bl, a, w, hd, hc, h => by
    simp only [D.lin] at h
    split at h
    · rename_i hr
      cases h
      obtain ⟨⟨β, h1, h2, h3⟩, h4, h5⟩ := hc
      exact ⟨(ready_eq hcl _).trans hr, hQ _ _ β h1 h4 h2 h3⟩
    · cases h
  | gas + 1, kn, fuel + 1, li, tm, bl, a, w, hd, hc, h => by
    have hS : ∀ w', Sat ρ β0 (d.kn kn).s0 w' → Sat ρ β0 ⟨d.s0.bl, []⟩ w' := fun w' h' => ⟨h'.blk, h'.inj, (fun e b hm => by cases hm), h'.ro⟩
    have hS' : ∀ w', Sat ρ β0 ⟨d.s0.bl, []⟩ w' → Sat ρ β0 (d.kn kn).s0 w' := fun w' h' => ⟨h'.blk, h'.inj, hd.kn, h'.ro⟩
    simp only [D.lin] at h
    split at h
    · rename_i hr
      cases h
      obtain ⟨⟨β, h1, h2, h3⟩, h4, h5⟩ := hc
      exact wpAnyH_done ((ready_eq hcl _).trans hr) (hQ _ _ β h1 h4 h2 h3) _
    · rename_i i rest hr
      split at h
      · rename_i k v hk
        obtain ⟨hmem, htk, hklt⟩ := takeOneM_ok (d := d.kn kn) hk
        obtain ⟨⟨β, ht, hs, hx⟩, hds, hst⟩ := hc
        obtain ⟨o, ho, hfree, hy⟩ := take_ok hd ht hx hst htk
        have hy' : YieldsIf d.cx.P d.ops (fun w => Sat ρ β0 ⟨d.s0.bl, []⟩ w) o (v.den ρ β) a := by
          rcases hy with ⟨h1, h2⟩ | h1
          · exact .inl ⟨h1, fun w' hw' => h2 w' (hS' w' hw')⟩
          · exact .inr h1
        refine wpAnyH_take ho hns hfree (by rw [ready_eq hcl, hr]; simpa using hmem) (fun c a w h => absurd h (hQp c _ w)) hy' (hS _ hst) ?_
        have hli : (liOf d.ops.size li).setIfInBounds k true = liOf d.ops.size (li ||| (1 <<< k)) := liOf_set hklt
        show wpAnyH d.cx.P .any d.ops Q _ fuel ((liOf d.ops.size li).setIfInBounds k true) _ _
        rw [hli]
        obtain ⟨v1, s1, hv1, hbl, hs1, h1⟩ := SV.share_ok (cx := (d.kn kn).cx) hd.hρ v hs h
        rw [← hv1 β]
        have hdst : dstOf d.ops k = o.dst := by
          have : d.ops[k]? = some o := ho
          simp [dstOf, this]
        have hd1 : DOk (d.kn s1.kn) ρ β0 s00 := DOk.kn' (d := d.kn kn) hd hs1.kn
        refine lin_ok hcl hns hQp hQ gas (kn := s1.kn) hd1 ?_ h1
        refine ⟨⟨β, ?_, ⟨hs.blk, hs.inj, hs1.kn, hs.ro⟩, hx.trans (ext_kn (s := ⟨bl, kn⟩) (s1 := ⟨bl, s1.kn⟩) rfl β w)⟩, by rw [put_defers]; exact hds, ⟨hst.blk, hst.inj, hs1.kn, hst.ro⟩⟩
        have : dstOf (d.kn kn).ops k = o.dst := hdst
        rw [this]
        exact putS_den ht _ _
      · split at h
        · obtain ⟨⟨tm1, s1⟩, h1, h2⟩ := T.sel_bind_some h
          have hrd := (ready_eq hcl li).trans hr
          refine wpAnyH_all hrd (by simp) fun k hk => ?_
          have hki : k = i := by simpa using hk
          subst hki
          have hklt : k < d.ops.size := by
            have hk2 : k ∈ Region.ready .any d.ops (liOf d.ops.size li) := by rw [hrd]; simp
            simp only [Region.ready, List.mem_filter, List.mem_range] at hk2
            exact hk2.1
          refine stepT_ok (d := d.kn kn) hd hc h1 fun a' w' hc' => ⟨hS _ hc'.st, ?_⟩
          rw [liOf_set hklt]
          obtain ⟨β, _, hs', _⟩ := hc'.ex
          exact lin_ok hcl hns hQp hQ gas (DOk.kn' (d := d.kn kn) hd hs'.kn) (Cur.rekn (d := d.kn kn) (kn := s1.kn) hs'.kn hc') h2
        · split at h
          · rename_i tm2 s2 hl
            cases h
            refine wpAnyH_swap hS _ (layer_ok (d := d.kn kn) hd hcl hns hQp (fun a' w' s'' e hc' => ?_) (fuel + 1) hl _ (List.mem_singleton.2 rfl) _ _ hc)
            obtain ⟨⟨β, g1, g2, g3⟩, g4, _⟩ := hc'
            exact hQ _ _ β g1 g4 ⟨fun j b hj => g2.blk j b (by rw [e]; exact hj), fun i j hi hj => g2.inj i j (by simpa [live, e] using hi) (by simpa [live, e] using hj), hd.kn, g2.ro.less fun j hj => by simpa [live, e] using hj⟩ (ext_bl' g3 e)
          · rename_i e hl
            simp only [T.sel] at h
            split at h
            · rename_i hne
              have hk1 : ∀ e' b, (e', b) ∈ (e, true) :: kn → (e'.ev ρ != 0) = b := by
                intro e' b hm
                rcases List.mem_cons.1 hm with hm | hm
                · cases hm; simpa using hne
                · exact hd.kn _ _ hm
              exact lin_ok hcl hns hQp hQ gas (DOk.kn' (d := d.kn kn) hd hk1) (Cur.rekn (d := d.kn kn) hk1 hc) h
            · rename_i hne
              have hk1 : ∀ e' b, (e', b) ∈ (e, false) :: kn → (e'.ev ρ != 0) = b := by
                intro e' b hm
                rcases List.mem_cons.1 hm with hm | hm
                · cases hm; simpa using hne
                · exact hd.kn _ _ hm
              exact lin_ok hcl hns hQp hQ gas (DOk.kn' (d := d.kn kn) hd hk1) (Cur.rekn (d := d.kn kn) hk1 hc) h
          · cases h

end

/-! ### tables of regions, reckoned ahead -/

def regs : Code → List (Nat × Array Oper)
  | .region id ops true => [(id, ops)]
  | .seq x y => regs x ++ regs y
  | .cond _ x y => regs x ++ regs y
  | .block _ c => regs c
  | .scope c => regs c
  | .loop c => regs c
  | _ => []

abbrev RT := Nat → Option (List Row)
def RtOk (rt : RT) (c : Code) : Prop := ∀ id ops, (id, ops) ∈ regs c → ∀ t, rt id = some t → t = tableOf ops ∧ Region.noSelect ops = true ∧ closedT ops.size ops = true

def Row.beq (a b : Row) : Bool := Nat.beq a.need b.need && Nat.beq a.conf b.conf
def rowsBeq : List Row → List Row → Bool
  | [], [] => true
  | a :: l, b :: m => a.beq b && rowsBeq l m
  | _, _ => false
theorem rows_of_beq : ∀ {l m : List Row}, rowsBeq l m = true → l = m
  | [], [], _ => rfl
  | a :: l, b :: m, h => by
    simp only [rowsBeq, Bool.and_eq_true, Row.beq] at h
    obtain ⟨a1, a2⟩ := a
    obtain ⟨b1, b2⟩ := b
    rw [rows_of_beq h.2]
    simp only at h
    rw [Nat.eq_of_beq_eq_true h.1.1, Nat.eq_of_beq_eq_true h.1.2]
  | [], _ :: _, h => by cases h
  | _ :: _, [], h => by cases h

def rtChk (rt : RT) (c : Code) : Bool := (regs c).all fun p => match rt p.1 with
  | some t => rowsBeq t (tableOf p.2) && Region.noSelect p.2 && closedT p.2.size p.2
  | none => true
theorem rtChk_ok {rt : RT} {c : Code} (h : rtChk rt c = true) : RtOk rt c := by
  intro id ops hm t ht
  have := List.all_eq_true.1 h _ hm
  simp only [ht, Bool.and_eq_true] at this
  exact ⟨rows_of_beq this.1.1, this.1.2, this.2⟩

def tblOf (rt : RT) (id : Nat) (ops : Array Oper) : Option (List Row) :=
  match rt id with
  | some t => some t
  | none => if Region.noSelect ops && closedT ops.size ops then some (tableOf ops) else none
theorem tblOf_ok {rt : RT} {id : Nat} {ops : Array Oper} (h : ∀ t, rt id = some t → t = tableOf ops ∧ Region.noSelect ops = true ∧ closedT ops.size ops = true) {t : List Row} (ht : tblOf rt id ops = some t) :
    t = tableOf ops ∧ Region.noSelect ops = true ∧ closedT ops.size ops = true := by
  unfold tblOf at ht
  split at ht
  · rename_i u hu; cases ht; exact h _ hu
  · split at ht
    · rename_i hc; cases ht; simp only [Bool.and_eq_true] at hc; exact ⟨rfl, hc.1, hc.2⟩
    · cases ht

end Go.Eng
end

/-! A symbolic executor, part J: drawn regions, code, functions. -/
section
set_option linter.unusedVariables false
set_option linter.unusedSimpArgs false
namespace Go.Eng

/-! ### a region that draws -/

def maskBl : List SBlk → List SBlk → List SBlk
  | [], _ => []
  | b :: l, c :: m => (if b.beq c then b else .gone) :: maskBl l m
  | _ :: l, [] => .gone :: maskBl l []

theorem maskBl_ok : ∀ (l m : List SBlk), (maskBl l m).length = l.length ∧ ∀ (j : Nat) (b : SBlk), (maskBl l m)[j]? = some b → b = SBlk.gone ∨ l[j]? = some b
  | [], _ => ⟨rfl, fun j b h => by simp [maskBl] at h⟩
  | x :: l, c :: m => by
    obtain ⟨h1, h2⟩ := maskBl_ok l m
    refine ⟨by simp [maskBl, h1], fun j b h => ?_⟩
    cases j with
    | zero =>
      simp only [maskBl, List.getElem?_cons_zero, Option.some.injEq] at h
      split at h
      · exact .inr (by simp [h])
      · exact .inl h.symm
    | succ j => simpa using h2 j b (by simpa [maskBl] using h)
  | x :: l, [] => by
    obtain ⟨h1, h2⟩ := maskBl_ok l []
    refine ⟨by simp [maskBl, h1], fun j b h => ?_⟩
    cases j with
    | zero => simp [maskBl] at h; exact .inl h.symm
    | succ j => simpa using h2 j b (by simpa [maskBl] using h)

def hasCall (ops : Array Oper) : Bool := ops.toList.any fun o => match o.op with
  | .call c => (match c.callee with
    | .builtin _ => false
    | _ => true)
  | _ => false

def hasLoad (ops : Array Oper) : Bool := ops.toList.any fun o => match o.op with
  | .load _ _ => true
  | _ => false

/-- all orders, where of the blocks of the beginning only those that are in m, too, are known to stay -/
def tryT (cx : Cx) (cf : CF) (ex : XF) (tbl : List Row) (ops : Array Oper) (tm : List SV) (s : St) (b0 : List SBlk) : RR :=
  let s0 : St := { bl := b0, kn := s.kn }
  if s0.sc s.bl.length then
    D.lin { cx, cf, ex, ops, s0, n0 := s.bl.length } tbl (40 + tbl.length) tbl.length 0 tm (s.bl ++ List.replicate (allocsTo ops ops.size) .gone)
  else .bad 61

/-- the blocks that a frame names itself -/
def dirs : List SV → List Nat
  | [] => []
  | .ptr j _ :: l => j :: dirs l
  | .slice j _ _ _ :: l => j :: dirs l
  | .sl (.own j) _ _ _ _ :: l => j :: dirs l
  | .ep (.own j) _ _ _ :: l => j :: dirs l
  | .cp j _ _ _ _ :: l => j :: dirs l
  | _ :: l => dirs l
def keepJ (js : List Nat) : Nat → List SBlk → List SBlk
  | _, [] => []
  | i, b :: l => (if js.contains i then b else .gone) :: keepJ js (i + 1) l
theorem keepJ_ok (js : List Nat) : ∀ (i : Nat) (l : List SBlk), (keepJ js i l).length = l.length ∧ ∀ (j : Nat) (b : SBlk), (keepJ js i l)[j]? = some b → b = SBlk.gone ∨ l[j]? = some b
  | i, [] => ⟨rfl, fun j b h => by simp [keepJ] at h⟩
  | i, x :: l => by
    obtain ⟨h1, h2⟩ := keepJ_ok js (i + 1) l
    refine ⟨by simp [keepJ, h1], fun j b h => ?_⟩
    cases j with
    | zero =>
      simp only [keepJ, List.getElem?_cons_zero, Option.some.injEq] at h
      split at h
      · exact .inr (by simp [h])
      · exact .inl h.symm
    | succ j => simpa using h2 j b (by simpa [keepJ] using h)

/-- something has changed that was held to stay -/
def T.torn {α : Type} : T α → Bool
  | .leaf _ => false
  | .br _ t f => t.torn || f.torn
  | .bad n => Nat.beq n 57 || Nat.beq n 50 || Nat.beq n 64
  | .new _ _ t => t.torn

/-- the names that stand ahead of all else in a tree -/
def peel {α : Type} : T α → List (Nat × E)
  | .new i e t => (i, e) :: peel t
  | _ => []

/-- they are given ahead -/
def defs {α : Type} (cx : Cx) : List (Nat × E) → St → (St → T α) → T α
  | [], s, k => k s
  | (i, e) :: l, s, k => defn cx i e s fun s => defs cx l s k
theorem defs_ok {cx : Cx} {ρ : Env} (hρ : EnvOk cx ρ) {β : Bt} {w : World} {α : Type} {k : St → T α} {r : α} : ∀ (l : List (Nat × E)) {s : St}, Sat ρ β s w → (defs cx l s k).sel ρ = some r →
    ∃ s1, s1.bl = s.bl ∧ Sat ρ β s1 w ∧ (k s1).sel ρ = some r
  | [], s, h, hr => ⟨s, rfl, h, hr⟩
  | (i, e) :: l, s, h, hr => by
    obtain ⟨s1, h1, h2, h3⟩ := defn_ok hρ h hr
    obtain ⟨s2, g1, g2, g3⟩ := defs_ok hρ l h2 h3
    exact ⟨s2, g1.trans h1, g2, g3⟩

/-- what changes is found by a run in the text's order -/
def drawF (cx : Cx) (cf : CF) (ex : XF) (tbl : List Row) (ops : Array Oper) (tm : List SV) : Nat → St → RR
  | 0, _ => .bad 60
  | n + 1, s => match runOps cx cf ex ops ops.toList tm s with
    | .bad k => .bad k
    | .br e _ _ => .br e (drawF cx cf ex tbl ops tm n { s with kn := (e, true) :: s.kn }) (drawF cx cf ex tbl ops tm n { s with kn := (e, false) :: s.kn })
    | .new i e t => defs cx ((i, e) :: peel t) s fun s => drawF cx cf ex tbl ops tm n s
    | .leaf r => tryT cx cf ex tbl ops tm s (maskBl s.bl r.2.bl)

def drawS (cx : Cx) (cf : CF) (ex : XF) (rt : RT) (id : Nat) (ops : Array Oper) (tm : List SV) (s : St) : RR :=
  match tblOf rt id ops with
  | none => .bad 61
  | some tbl =>
    let r := tryT cx cf ex tbl ops tm s (if hasCall ops then keepJ (dirs tm) 0 s.bl else s.bl)
    match r.torn with
    | false => r
    | true => drawF cx cf ex tbl ops tm 12 s

theorem Sat.drew {ρ : Env} {β : Bt} {s : St} {w : World} (h : Sat ρ β s w) : Sat ρ β s w.drew := ⟨h.blk, h.inj, h.kn, h.ro⟩
theorem Ext.ofDrew {s s' : St} {β β' : Bt} {w w' : World} (h : Ext s s' β β' w.drew w') : Ext s s' β β' w w' :=
  ⟨h.ag, h.old, h.fresh, h.size, h.fr, h.len, h.os, h.tape, h.output⟩

theorem ext_bl {s s1 s2 : St} {β β' : Bt} {w w' : World} (h : Ext s s1 β β' w w') (e : s2.bl = s1.bl) : Ext s s2 β β' w w' := h.trans (ext_kn e β' w')

theorem Sat.bl {ρ : Env} {β : Bt} {s s1 : St} {w : World} (h : Sat ρ β s w) (e : s1.bl = s.bl) (hk : ∀ e b, (e, b) ∈ s1.kn → (e.ev ρ != 0) = b) : Sat ρ β s1 w :=
  h.mask (fun j b hj => .inr (by rw [← e]; exact hj)) hk

section
variable {cx : Cx} {ρ : Env} {cf : CF} {ex : XF}

theorem tryT_ok (hcx : CxOk cx) (hcf : CallOk cx cf) (hex : XOk cx ex) (hρ : EnvOk cx ρ) (id : Nat) (ops : Array Oper) {tbl : List Row} (htbl : tbl = tableOf ops ∧ Region.noSelect ops = true ∧ closedT ops.size ops = true)
    {tm tm' : List SV} {s s' : St} {b0 : List SBlk} (hb : b0.length = s.bl.length ∧ ∀ (j : Nat) (b : SBlk), b0[j]? = some b → b = SBlk.gone ∨ s.bl[j]? = some b) {β : Bt} {w : World} {a : Act} {Q : Exit → Act → World → Prop}
    (ht : a.tmps = (SV.denL ρ β tm).toArray) (hs : Sat ρ β s w) (hx : (tryT cx cf ex tbl ops tm s b0).sel ρ = some (tm', s'))
    (hQ : ∀ a' w', Beh ρ β s w a.defers tm' s' a' w' → Q .normal a' w') : (Code.region id ops true).wp cx.P Q a w := by
  obtain ⟨rfl, hns, hcl⟩ := htbl
  unfold tryT at hx
  simp only at hx
  split at hx
  · rename_i hc
    let d : D := { cx, cf, ex, ops, s0 := { bl := b0, kn := s.kn }, n0 := s.bl.length }
    have hs0 : Sat ρ β d.s0 w := hs.mask hb.2 hs.kn
    have hd : DOk d ρ β s := ⟨hcx, hcf, hex, hρ, rfl, hc, Nat.le_of_eq hb.1, hs.kn, hs0.inj⟩
    have hres : Sat ρ β { s with bl := s.bl ++ List.replicate (allocsTo ops ops.size) .gone } w.drew := by
      refine hs.drew.mask (fun j b hj => ?_) hs.kn
      simp only [List.getElem?_append] at hj
      split at hj
      · exact .inr hj
      · rw [List.getElem?_replicate] at hj
        split at hj <;> simp at hj
        exact .inl hj.symm
    have hlv : ∀ j, live β { s with bl := s.bl ++ List.replicate (allocsTo ops ops.size) .gone } j → live β s j := by
      rintro j ⟨b, hj, ho⟩
      simp only [List.getElem?_append] at hj
      split at hj
      · exact ⟨b, hj, ho⟩
      · rw [List.getElem?_replicate] at hj
        split at hj <;> simp at hj
        subst hj
        cases ho
    have hext : Ext s { s with bl := s.bl ++ List.replicate (allocsTo ops ops.size) .gone } β β w w.drew :=
      ⟨fun _ _ => rfl, fun j _ hl => hlv j hl, fun j hj hl => absurd (live_lt (hlv j hl)) (by omega), Nat.le_refl _, fun _ _ _ => rfl, by simp, rfl, rfl, rfl⟩
    have hcur : Cur (d.kn s.kn) ρ β s w a.defers tm ⟨s.bl ++ List.replicate (allocsTo ops ops.size) .gone, s.kn⟩ a w.drew :=
      ⟨⟨β, ht, hres, hext⟩, rfl, hs0.drew⟩
    refine Code.wp_mono (Q := fun e a' w' => e = .normal ∧ Beh ρ β s w a.defers tm' s' a' w') (fun e a' w' ⟨he, hb⟩ => by subst he; exact hQ a' w' hb) ?_
    refine wp_region_held (S := fun w => Sat ρ β ⟨b0, []⟩ w) hcx.mixed ?_
    rw [← liOf_zero]
    have hlen : (tableOf ops).length = ops.size := by
      have : ∀ (all l : List Base) (k : Nat), (rowsOf all l k).length = l.length := by
        intro all l
        induction l with
        | nil => intro k; rfl
        | cons b l ih => intro k; simp [rowsOf, ih]
      simp [tableOf, this]
    have hd' : DOk (d.kn s.kn) ρ β s := hd
    rw [hlen] at hx
    exact lin_ok (d := d) hcl hns (fun c a w h => by cases h.1) (fun a' w' β' h1 h2 h3 h4 => ⟨rfl, β', h1, h2, h3, h4⟩) (40 + ops.size) hd' hcur hx
  · cases hx

theorem drawF_ok (hcx : CxOk cx) (hcf : CallOk cx cf) (hex : XOk cx ex) (hρ : EnvOk cx ρ) (id : Nat) (ops : Array Oper) {tbl : List Row} (htbl : tbl = tableOf ops ∧ Region.noSelect ops = true ∧ closedT ops.size ops = true)
    {tm tm' : List SV} : ∀ (n : Nat) {s s' : St} {β : Bt} {w : World} {a : Act} {Q : Exit → Act → World → Prop},
    a.tmps = (SV.denL ρ β tm).toArray → Sat ρ β s w → (drawF cx cf ex tbl ops tm n s).sel ρ = some (tm', s') →
    (∀ a' w', Beh ρ β s w a.defers tm' s' a' w' → Q .normal a' w') → (Code.region id ops true).wp cx.P Q a w
  | 0, s, s', β, w, a, Q, ht, hs, h, hQ => by cases h
  | n + 1, s, s', β, w, a, Q, ht, hs, h, hQ => by
    simp only [drawF] at h
    split at h
    · cases h
    · rename_i e _ _ _
      simp only [T.sel] at h
      split at h
      · rename_i hne
        refine drawF_ok hcx hcf hex hρ id ops htbl n (s := { s with kn := (e, true) :: s.kn }) ht (hs.kn_cons (by simpa using hne)) h fun a' w' hb => hQ a' w' ?_
        exact hb.of (ext_kn (s := s) (s1 := { s with kn := (e, true) :: s.kn }) rfl β w)
      · rename_i hne
        refine drawF_ok hcx hcf hex hρ id ops htbl n (s := { s with kn := (e, false) :: s.kn }) ht (hs.kn_cons (by simpa using hne)) h fun a' w' hb => hQ a' w' ?_
        exact hb.of (ext_kn (s := s) (s1 := { s with kn := (e, false) :: s.kn }) rfl β w)
    · obtain ⟨s1, e1, hs1, h⟩ := defs_ok hρ _ hs h
      refine drawF_ok hcx hcf hex hρ id ops htbl n ht hs1 h fun a' w' hb => hQ a' w' ?_
      exact hb.of (ext_kn e1 β w)
    · exact tryT_ok hcx hcf hex hρ id ops htbl (maskBl_ok _ _) ht hs h hQ

theorem drawS_ok (hcx : CxOk cx) (hcf : CallOk cx cf) (hex : XOk cx ex) (hρ : EnvOk cx ρ) (rt : RT) (id : Nat) (ops : Array Oper) (hrt : ∀ t, rt id = some t → t = tableOf ops ∧ Region.noSelect ops = true ∧ closedT ops.size ops = true)
    {tm tm' : List SV} {s s' : St} {β : Bt} {w : World} {a : Act} {Q : Exit → Act → World → Prop}
    (ht : a.tmps = (SV.denL ρ β tm).toArray) (hs : Sat ρ β s w) (h : (drawS cx cf ex rt id ops tm s).sel ρ = some (tm', s'))
    (hQ : ∀ a' w', Beh ρ β s w a.defers tm' s' a' w' → Q .normal a' w') : (Code.region id ops true).wp cx.P Q a w := by
  unfold drawS at h
  split at h
  · cases h
  · rename_i tbl htb
    have htbl := tblOf_ok hrt htb
    simp only at h
    split at h
    · refine tryT_ok hcx hcf hex hρ id ops htbl ?_ ht hs h hQ
      split
      · exact keepJ_ok _ _ _
      · exact ⟨rfl, fun j b h => .inr h⟩
    · exact drawF_ok hcx hcf hex hρ id ops htbl 12 ht hs h hQ

end

/-! ### code -/

inductive Ex where
  | normal
  | exit (id : Nat)
  | ret

def Ex.to : Ex → Exit
  | .normal => .normal
  | .exit id => .exit id
  | .ret => .ret

abbrev RC := T (Ex × List SV × St)

def loopS (body : List SV → St → RC) : Nat → List SV → St → RC
  | 0, _, _ => .bad 70
  | n + 1, tm, s => (body tm s).bind fun r => match r.1 with
    | .normal => loopS body n r.2.1 r.2.2
    | e => .leaf (e, r.2)

def execCode (cx : Cx) (cf : CF) (ex : XF) (rt : RT) (m : Nat) : Code → List SV → St → RC
  | .skip, tm, s => .leaf (.normal, tm, s)
  | .label _, tm, s => .leaf (.normal, tm, s)
  | .exit id, tm, s => .leaf (.exit id, tm, s)
  | .ret, tm, s => .leaf (.ret, tm, s)
  | .region _ ops false, tm, s => (runOps cx cf ex ops ops.toList tm s).bind fun r => .leaf (.normal, r)
  | .region id ops true, tm, s => (drawS cx cf ex rt id ops tm s).bind fun r => .leaf (.normal, r)
  | .seq x y, tm, s => (execCode cx cf ex rt m x tm s).bind fun r => match r.1 with
    | .normal => execCode cx cf ex rt m y r.2.1 r.2.2
    | e => .leaf (e, r.2)
  | .cond c x y, tm, s => match evO tm c with
    | .bool e => fork s e (fun s => execCode cx cf ex rt m x tm s) (fun s => execCode cx cf ex rt m y tm s)
    | _ => .bad 71
  | .block id c, tm, s => (execCode cx cf ex rt m c tm s).bind fun r => match r.1 with
    | .exit id' => if id' = id then .leaf (.normal, r.2) else .leaf (.exit id', r.2)
    | e => .leaf (e, r.2)
  | .scope c, tm, s => execCode cx cf ex rt m c tm s
  | .loop c, tm, s => loopS (execCode cx cf ex rt m c) m tm s
  | .rangeFunc _ _ _ _, _, _ => .bad 72
  | .goto _, _, _ => .bad 73
  | .refuse _, _, _ => .bad 74

section
variable {cx : Cx} {ρ : Env} {cf : CF} {ex : XF} {m : Nat}

def CodeOk (cx : Cx) (ρ : Env) (body : List SV → St → RC) (c : Code) : Prop :=
  ∀ (tm tm' : List SV) (s s' : St) (x : Ex) (β : Bt) (w : World) (a : Act) (Q : Exit → Act → World → Prop),
    a.tmps = (SV.denL ρ β tm).toArray → Sat ρ β s w → (body tm s).sel ρ = some (x, tm', s') →
    (∀ a' w', Beh ρ β s w a.defers tm' s' a' w' → Q x.to a' w') → c.wp cx.P Q a w

theorem loopS_ok {body : List SV → St → RC} {c : Code} (hb : CodeOk cx ρ body c) : ∀ (n : Nat) {tm tm' : List SV} {s s' : St} {x : Ex} {β : Bt} {w : World} {a : Act} {Q : Exit → Act → World → Prop},
    a.tmps = (SV.denL ρ β tm).toArray → Sat ρ β s w → (loopS body n tm s).sel ρ = some (x, tm', s') →
    (∀ a' w', Beh ρ β s w a.defers tm' s' a' w' → Q x.to a' w') → Code.rounds cx.P c Q n a w
  | 0, tm, tm', s, s', x, β, w, a, Q, ht, hs, h, hQ => by cases h
  | n + 1, tm, tm', s, s', x, β, w, a, Q, ht, hs, h, hQ => by
    simp only [loopS] at h
    obtain ⟨⟨x1, tm1, s1⟩, h1, h2⟩ := T.sel_bind_some h
    rw [rounds_succ]
    refine hb _ _ _ _ _ _ _ _ _ ht hs h1 ?_
    rintro a' w' ⟨β', ht', hd', hs', hx'⟩
    cases x1 with
    | normal =>
      refine loopS_ok hb n ht' hs' h2 fun a2 w2 hb2 => hQ a2 w2 ?_
      rw [hd'] at hb2
      exact hb2.of hx'
    | exit id => cases h2; exact hQ _ _ ⟨β', ht', hd', hs', hx'⟩
    | ret => cases h2; exact hQ _ _ ⟨β', ht', hd', hs', hx'⟩

theorem execCode_ok {rt : RT} (hcx : CxOk cx) (hcf : CallOk cx cf) (hex : XOk cx ex) (hρ : EnvOk cx ρ) (c : Code) (hrt : RtOk rt c) : CodeOk cx ρ (execCode cx cf ex rt m c) c := by
  induction c with
  | skip => intro tm tm' s s' x β w a Q ht hs h hQ; cases h; exact wp_skip (hQ _ _ ⟨β, ht, rfl, hs, Ext.refl _ _ _⟩)
  | label l => intro tm tm' s s' x β w a Q ht hs h hQ; cases h; exact wp_label (hQ _ _ ⟨β, ht, rfl, hs, Ext.refl _ _ _⟩)
  | exit id => intro tm tm' s s' x β w a Q ht hs h hQ; cases h; exact wp_exit (hQ _ _ ⟨β, ht, rfl, hs, Ext.refl _ _ _⟩)
  | ret => intro tm tm' s s' x β w a Q ht hs h hQ; cases h; exact wp_ret (hQ _ _ ⟨β, ht, rfl, hs, Ext.refl _ _ _⟩)
  | region id ops dr =>
    intro tm tm' s s' x β w a Q ht hs h hQ
    cases dr with
    | false =>
      simp only [execCode] at h
      obtain ⟨⟨tm1, s1⟩, h1, h2⟩ := T.sel_bind_some h
      cases h2
      exact wp_region_list (runOps_ok hcx hcf hex hρ ops ops.toList ht hs h1 hQ)
    | true =>
      simp only [execCode] at h
      obtain ⟨⟨tm1, s1⟩, h1, h2⟩ := T.sel_bind_some h
      cases h2
      exact drawS_ok hcx hcf hex hρ rt id ops (fun t h => hrt id ops (by simp [regs]) t h) ht hs h1 hQ
  | seq c1 c2 ih1 ih2 =>
    intro tm tm' s s' x β w a Q ht hs h hQ
    simp only [execCode] at h
    obtain ⟨⟨x1, tm1, s1⟩, h1, h2⟩ := T.sel_bind_some h
    have hr1 : RtOk rt c1 := fun i o hm => hrt i o (by simp [regs, hm])
    have hr2 : RtOk rt c2 := fun i o hm => hrt i o (by simp [regs, hm])
    refine wp_seq (ih1 hr1 _ _ _ _ _ _ _ _ _ ht hs h1 ?_)
    rintro a' w' ⟨β', ht', hd', hs', hx'⟩
    cases x1 with
    | normal =>
      refine ih2 hr2 _ _ _ _ _ _ _ _ _ ht' hs' h2 fun a2 w2 hb2 => hQ a2 w2 ?_
      rw [hd'] at hb2
      exact hb2.of hx'
    | exit id => cases h2; exact hQ _ _ ⟨β', ht', hd', hs', hx'⟩
    | ret => cases h2; exact hQ _ _ ⟨β', ht', hd', hs', hx'⟩
  | cond c c1 c2 ih1 ih2 =>
    intro tm tm' s s' x β w a Q ht hs h hQ
    simp only [execCode] at h
    split at h
    · rename_i e he
      have hr1 : RtOk rt c1 := fun i o hm => hrt i o (by simp [regs, hm])
      have hr2 : RtOk rt c2 := fun i o hm => hrt i o (by simp [regs, hm])
      have hc : a.eval c = .bool (e.ev ρ != 0) := by rw [evO_den ht, he]; rfl
      obtain ⟨s1, e1, hs1, ⟨hne, h⟩ | ⟨h0, h⟩⟩ := fork_ok hs h
      · refine wp_cond_true (by rw [hc]; simp [hne]) (ih1 hr1 _ _ _ _ _ _ _ _ _ ht hs1 h fun a2 w2 hb2 => hQ a2 w2 ?_)
        exact hb2.of (ext_kn e1 β w)
      · refine wp_cond_false (by rw [hc]; simp [h0]) (ih2 hr2 _ _ _ _ _ _ _ _ _ ht hs1 h fun a2 w2 hb2 => hQ a2 w2 ?_)
        exact hb2.of (ext_kn e1 β w)
    · cases h
  | block id c ih =>
    intro tm tm' s s' x β w a Q ht hs h hQ
    simp only [execCode] at h
    obtain ⟨⟨x1, tm1, s1⟩, h1, h2⟩ := T.sel_bind_some h
    refine wp_block (ih (fun i o hm => hrt i o (by simpa [regs] using hm)) _ _ _ _ _ _ _ _ _ ht hs h1 ?_)
    rintro a' w' ⟨β', ht', hd', hs', hx'⟩
    cases x1 with
    | normal => cases h2; exact hQ _ _ ⟨β', ht', hd', hs', hx'⟩
    | ret => cases h2; exact hQ _ _ ⟨β', ht', hd', hs', hx'⟩
    | exit id' =>
      simp only at h2
      simp only [Ex.to, Exit.inBlock]
      split at h2
      · rename_i hid; cases h2; rw [if_pos hid]; exact hQ _ _ ⟨β', ht', hd', hs', hx'⟩
      · rename_i hid; cases h2; rw [if_neg hid]; exact hQ _ _ ⟨β', ht', hd', hs', hx'⟩
  | scope c ih =>
    intro tm tm' s s' x β w a Q ht hs h hQ
    simp only [execCode] at h
    refine wp_scope_straight (ih (fun i o hm => hrt i o (by simpa [regs] using hm)) _ _ _ _ _ _ _ _ _ ht hs h fun a' w' hb => ?_)
    have := hQ a' w' hb
    cases x <;> exact this
  | loop c ih =>
    intro tm tm' s s' x β w a Q ht hs h hQ
    simp only [execCode] at h
    exact wp_loop_rounds m (loopS_ok (ih (fun i o hm => hrt i o (by simpa [regs] using hm))) m ht hs h hQ)
  | rangeFunc _ _ _ _ => intro tm tm' s s' x β w a Q ht hs h hQ; cases h
  | goto _ => intro tm tm' s s' x β w a Q ht hs h hQ; cases h
  | refuse _ => intro tm tm' s s' x β w a Q ht hs h hQ; cases h

end
end Go.Eng
end

/-! A symbolic executor, part K: functions. -/
section
set_option linter.unusedVariables false
set_option linter.unusedSimpArgs false
namespace Go.Eng

/-! ### results -/

def resL (cx : Cx) (tm : List SV) (s : St) : List ResultVar → Option (List SV)
  | [] => some []
  | .tmp t :: l => match resL cx tm s l with
    | some vs => some (tm.getD t undefS :: vs)
    | none => none
  | .cell a t :: l => match loadS cx t (tm.getD a undefS) s, resL cx tm s l with
    | some v, some vs => some (v :: vs)
    | _, _ => none

def resS (cx : Cx) (fn : Func) (tm : List SV) (s : St) : Option SV :=
  match resL cx tm s fn.results.toList with
  | some [v] => some v
  | some vs => some (.tup vs)
  | none => none

def rv (tmps : Array Value) : ResultVar → Sem Value
  | .tmp t => pure (tmps.getD t undef)
  | .cell a t => do loadVar t (← asAddr (tmps.getD a undef))

theorem results_rv (fn : Func) (tmps : Array Value) : results fn tmps = (do
    let vs ← fn.results.mapM (rv tmps)
    pure (if h : vs.size = 1 then vs[0] else .tuple vs)) := by
  have e : (fun (x : ResultVar) => (match x with
      | .tmp t => pure (tmps.getD t undef)
      | .cell a t => do loadVar t (← asAddr (tmps.getD a undef)) : Sem Value)) = rv tmps := by
    funext x; cases x <;> rfl
  rw [← e]
  rfl

theorem resL_ok {cx : Cx} {ρ : Env} {β : Bt} {s : St} {w : World} (hs : Sat ρ β s w) (tm : List SV) : ∀ (l : List ResultVar) {vs : List SV}, resL cx tm s l = some vs →
    (l.mapM (rv (SV.denL ρ β tm).toArray)).run cx.P w = .ok (SV.denL ρ β vs) w
  | [], vs, h => by cases h; rfl
  | .tmp t :: l, vs, h => by
    simp only [resL] at h
    split at h <;> cases h
    rename_i us hu
    have ih := resL_ok hs tm l hu
    simp only [List.mapM_cons, Sem.run_bind, rv, Sem.run_pure, Result.andThen_ok, denL_getD, ih, SV.denL]
  | .cell a t :: l, vs, h => by
    simp only [resL] at h
    split at h <;> cases h
    rename_i v us hv hu
    have ih := resL_ok hs tm l hu
    have hl := loadS_ok hs hv
    have hl2 : ((do loadVar t (← asAddr ((tm.getD a undefS).den ρ β))) : Sem Value).run cx.P w = .ok (v.den ρ β) w := by
      unfold loadS at hv
      split at hv
      · rename_i j off hj
        rw [hj] at hl ⊢
        simp only [Instr.loadAt, SV.den, Instr.sureAddr, asAddr] at hl ⊢
        exact hl
      · cases hv
    rw [List.mapM_cons, Sem.run_bind]
    have e : rv (SV.denL ρ β tm).toArray (.cell a t) = (do loadVar t (← asAddr ((tm.getD a undefS).den ρ β)) : Sem Value) := by
      simp only [rv, denL_getD]
    rw [e, hl2, Result.andThen_ok, Sem.run_bind, ih, Result.andThen_ok]
    rfl

theorem resS_ok {cx : Cx} {ρ : Env} {β : Bt} {s : St} {w : World} (hs : Sat ρ β s w) {fn : Func} {tm : List SV} {tmps : Array Value} (ht : tmps = (SV.denL ρ β tm).toArray) {v : SV} (h : resS cx fn tm s = some v) :
    (results fn tmps).run cx.P w = .ok (v.den ρ β) w := by
  subst ht
  unfold resS at h
  rw [results_rv, Array.mapM_eq_mapM_toList]
  split at h
  · rename_i u hu
    cases h
    have := resL_ok hs tm _ hu
    simp only [Sem.run_bind, Sem.run_map]
    rw [this]
    simp [SV.denL]
  · rename_i vs hvs hn
    cases h
    have := resL_ok hs tm _ hn
    simp only [Sem.run_bind, Sem.run_map]
    rw [this]
    simp only [Result.andThen_ok, Sem.run_pure, SV.den]
    congr 1
    split
    · rename_i hsz
      have : vs.length = 1 := by simpa using hsz
      obtain ⟨u, rfl⟩ := List.length_eq_one_iff.1 this
      exact absurd rfl (hvs u)
    · rfl
  · cases h

/-! ### what is no more needed is dropped -/

def Bs.names (n : Nat) : Bs → List Nat
  | .own j => if n ≤ j then [j] else []
  | .inp _ => []

mutual
def SV.names (n : Nat) : SV → List Nat
  | .sl b _ _ _ _ => b.names n
  | .ep b _ _ _ => b.names n
  | .cp j _ _ _ _ => if n ≤ j then [j] else []
  | .wild j => if n ≤ j then [j] else []
  | .ptr j _ => if n ≤ j then [j] else []
  | .slice j _ _ _ => if n ≤ j then [j] else []
  | .func _ a c => SV.namesL n a ++ SV.namesL n c
  | .iface _ x => x.names n
  | .agg l => SV.namesL n l
  | .tup l => SV.namesL n l
  | _ => []
def SV.namesL (n : Nat) : List SV → List Nat
  | [] => []
  | x :: l => x.names n ++ SV.namesL n l
end

def blkNames (n : Nat) : Option SBlk → List Nat
  | some (.cells l _ _) => SV.namesL n l
  | _ => []

def reach (n : Nat) (bl : List SBlk) : Nat → List Nat → List Nat → List Nat
  | 0, _, seen => seen
  | _ + 1, [], seen => seen
  | f + 1, j :: todo, seen => if seen.contains j then reach n bl f todo seen else reach n bl f (blkNames n bl[j]? ++ todo) (j :: seen)

def dropTail : List SBlk → List SBlk
  | [] => []
  | b :: l => match dropTail l, b with
    | [], .gone => []
    | l', b => b :: l'

def keepBl (seen : List Nat) (n : Nat) : Nat → List SBlk → List SBlk
  | _, [] => []
  | i, b :: l => (if i < n || seen.contains i then b else .gone) :: keepBl seen n (i + 1) l

def gcS (n : Nat) (v : SV) (s : St) : St :=
  if v.sc n && (s.bl.take n).all (·.sc n) then { s with bl := s.bl.take n }
  else
    let seen := reach n s.bl 200 (v.names n ++ (s.bl.take n).flatMap fun b => blkNames n (some b)) []
    let kept := keepBl seen n 0 s.bl
    { s with bl := kept.take n ++ dropTail (kept.drop n) }

theorem keepBl_get (seen : List Nat) (n : Nat) : ∀ (l : List SBlk) (i j : Nat) (b : SBlk), (keepBl seen n i l)[j]? = some b → b = SBlk.gone ∨ l[j]? = some b
  | [], i, j, b, h => by simp [keepBl] at h
  | x :: l, i, 0, b, h => by
    simp only [keepBl, List.getElem?_cons_zero, Option.some.injEq] at h
    split at h
    · exact .inr (by simp [h])
    · exact .inl h.symm
  | x :: l, i, j + 1, b, h => by simpa using keepBl_get seen n l (i + 1) j b (by simpa [keepBl] using h)
theorem keepBl_len (seen : List Nat) (n : Nat) : ∀ (l : List SBlk) (i : Nat), (keepBl seen n i l).length = l.length
  | [], i => rfl
  | x :: l, i => by simp [keepBl, keepBl_len seen n l]

theorem dropTail_get : ∀ (l : List SBlk) (j : Nat) (b : SBlk), (dropTail l)[j]? = some b → l[j]? = some b
  | [], j, b, h => by simp [dropTail] at h
  | x :: l, j, b, h => by
    simp only [dropTail] at h
    split at h
    · simp at h
    · cases j with
      | zero => simpa using h
      | succ j => simpa using dropTail_get l j b (by simpa using h)

theorem gcS_get (n : Nat) (v : SV) (s : St) : (∀ (j : Nat) (b : SBlk), (gcS n v s).bl[j]? = some b → b = SBlk.gone ∨ s.bl[j]? = some b) ∧ (n ≤ s.bl.length → n ≤ (gcS n v s).bl.length) ∧ (gcS n v s).kn = s.kn := by
  unfold gcS
  split
  · refine ⟨fun j b h => ?_, fun h => by simp; omega, rfl⟩
    simp only [List.getElem?_take] at h
    split at h
    · exact .inr h
    · cases h
  · refine ⟨fun j b h => ?_, fun h => by simp [keepBl_len]; omega, rfl⟩
    simp only [List.getElem?_append] at h
    split at h
    · simp only [List.getElem?_take] at h
      split at h
      · exact keepBl_get _ _ _ _ _ _ h
      · cases h
    · rename_i hge
      have h2 := dropTail_get _ _ _ h
      rw [List.getElem?_drop] at h2
      simp only [List.length_take, keepBl_len] at hge h2
      rcases Nat.lt_or_ge s.bl.length n with hn | hn
      · have := (List.getElem?_eq_some_iff.1 h2).1
        rw [keepBl_len] at this
        omega
      · rw [show n + (j - min n s.bl.length) = j by omega] at h2
        exact keepBl_get _ _ _ _ _ _ h2

theorem ext_gc {s s1 : St} {β β' : Bt} {w w' : World} (h : Ext s s1 β β' w w') (v : SV) : Ext s (gcS s.bl.length v s1) β β' w w' := by
  obtain ⟨h1, h2, _⟩ := gcS_get s.bl.length v s1
  have hl : ∀ j, live β' (gcS s.bl.length v s1) j → live β' s1 j := by
    rintro j ⟨b, hj, ho⟩
    rcases h1 j _ hj with rfl | h
    · cases ho
    · exact ⟨b, h, ho⟩
  exact ⟨h.ag, fun j hj hh => h.old j hj (hl j hh), fun j hj hh => h.fresh j hj (hl j hh), h.size, h.fr, h2 h.len, h.os, h.tape, h.output⟩

/-! ### functions -/

abbrev SM := FuncId → List SV → St → Option R

/-- what is told of functions beforehand -/
def SmOk (cx : Cx) (sm : SM) : Prop :=
  ∀ (ρ : Env) (β : Bt) (s s' : St) (w : World) (f : FuncId) (args : List SV) (r : R) (v : SV), EnvOk cx ρ → Sat ρ β s w → sm f args s = some r → r.sel ρ = some (v, s') →
    Calls cx.P f (SV.denL ρ β args).toArray w fun e w' => ∃ β', e = .returned (v.den ρ β') ∧ Sat ρ β' s' w' ∧ Ext s s' β β' w w'

def frameS (n : Nat) (args : List SV) : List SV := args ++ List.replicate (n - args.length) undefS

abbrev RTS := FuncId → RT
def RtsOk (P : Program) (rts : RTS) : Prop := ∀ f fn c, P.funcs[f]? = some fn → fn.body = some c → RtOk (rts f) c
theorem rtsOk_none (P : Program) : RtsOk P (fun _ _ => none) := fun _ _ _ _ _ _ _ _ _ h => by cases h

def execFn (cx : Cx) (rts : RTS) (sm : SM) (ex : XF) (m : Nat) : Nat → CF
  | 0, f, args, s => match sm f args s with
    | some r => r
    | none => .bad 80
  | n + 1, f, args, s => match sm f args s with
    | some r => r
    | none => match cx.fn f with
      | none => .bad 81
      | some fn => match fn.body with
        | none => .bad 82
        | some c => (execCode cx (execFn cx rts sm ex m n) ex (rts f) m c (frameS fn.ntmps args) s).bind fun r => match r.1 with
          | .exit _ => .bad 83
          | _ => match resS cx fn r.2.1 r.2.2 with
            | some v => .leaf (v, gcS s.bl.length v r.2.2)
            | none => .bad 84

theorem execFn_ok {cx : Cx} {rts : RTS} {sm : SM} {ex : XF} {m : Nat} (hcx : CxOk cx) (hrts : RtsOk cx.P rts) (hsm : SmOk cx sm) (hex : XOk cx ex) : ∀ n, CallOk cx (execFn cx rts sm ex m n)
  | 0 => by
    intro ρ β s s' w f args v hρ hs h
    simp only [execFn] at h
    split at h
    · rename_i r hr
      exact hsm ρ β s s' w f args r v hρ hs hr h
    · cases h
  | n + 1 => by
    intro ρ β s s' w f args v hρ hs h
    simp only [execFn] at h
    split at h
    · rename_i r hr
      exact hsm ρ β s s' w f args r v hρ hs hr h
    · split at h
      · cases h
      · rename_i fn hfn
        split at h
        · cases h
        · rename_i c hc
          obtain ⟨⟨x, tm1, s1⟩, h1, h2⟩ := T.sel_bind_some h
          refine calls_of_wp (cx.fnOk _ _ hfn) hc ?_
          refine execCode_ok hcx (execFn_ok hcx hrts hsm hex n) hex hρ c (hrts f fn c (cx.fnOk _ _ hfn) hc) (frameS fn.ntmps args) tm1 s s1 x β w _ _ ?_ hs h1 ?_
          · simp only [frameS, denL_append]
            apply Array.ext'
            simp [denL_map, den_undef]
          · rintro a' w' ⟨β', ht, hd, hs', hx⟩
            have key : ∀ (v : SV) (s' : St), (match resS cx fn tm1 s1 with
                | some v => T.leaf (v, gcS s.bl.length v s1)
                | none => .bad 84).sel ρ = some (v, s') → a'.defers = [] ∧ ∃ V, (results fn a'.tmps).run cx.P w' = .ok V w' ∧
                  ∃ β', Ending.returned V = .returned (v.den ρ β') ∧ Sat ρ β' s' w' ∧ Ext s s' β β' w w' := by
              intro v s' h
              split at h
              · rename_i u hu
                cases h
                obtain ⟨g1, _, g3⟩ := gcS_get s.bl.length v s1
                exact ⟨hd, _, resS_ok hs' ht hu, β', rfl, hs'.mask g1 (by rw [g3]; exact hs'.kn), ext_gc hx v⟩
              · cases h
            cases x with
            | exit id => cases h2
            | normal => exact key v s' h2
            | ret => exact key v s' h2

end Go.Eng
end

/-! A symbolic executor, part TA: environments that agree; trees with loops, what they select. -/
section
set_option linter.unusedVariables false
set_option linter.unusedSimpArgs false
namespace Go.Eng

/-! ### environments that agree below a number -/

structure Agn (n : Nat) (ρ ρ' : Env) : Prop where
  i : ∀ j, j < n → ρ'.i j = ρ.i j
  f : ρ'.f = ρ.f
  v : ρ'.v = ρ.v
  ro : ρ'.ro = ρ.ro

theorem Agn.refl (n : Nat) (ρ : Env) : Agn n ρ ρ := ⟨fun _ _ => rfl, rfl, rfl, rfl⟩
theorem Agn.trans {n : Nat} {ρ ρ1 ρ2 : Env} (h : Agn n ρ ρ1) (k : Agn n ρ1 ρ2) : Agn n ρ ρ2 :=
  ⟨fun j hj => (k.i j hj).trans (h.i j hj), k.f.trans h.f, k.v.trans h.v, k.ro.trans h.ro⟩
theorem Agn.mono {n m : Nat} {ρ ρ' : Env} (h : Agn n ρ ρ') (hm : m ≤ n) : Agn m ρ ρ' := ⟨fun j hj => h.i j (by omega), h.f, h.v, h.ro⟩
theorem Agn.symm {n : Nat} {ρ ρ' : Env} (h : Agn n ρ ρ') : Agn n ρ' ρ := ⟨fun j hj => (h.i j hj).symm, h.f.symm, h.v.symm, h.ro.symm⟩

/-- all variables are below n -/
def E.vb (n : Nat) : E → Bool
  | .c _ => true
  | .v i => Nat.blt i n
  | .b _ _ x y => x.vb n && y.vb n
  | .w _ x => x.vb n
  | .nt x => x.vb n
  | .ite t x y => t.vb n && x.vb n && y.vb n
  | .f _ x y z => x.vb n && y.vb n && z.vb n
  | .cl i _ _ => Nat.blt i n
theorem E.vb_ev {ρ ρ' : Env} {n : Nat} (ha : Agn n ρ ρ') : ∀ (e : E), e.vb n = true → e.ev ρ' = e.ev ρ := by
  intro e
  induction e with
  | c m => intro _; rfl
  | v i => intro h; exact ha.i i (by simpa [E.vb] using h)
  | b o k x y hx hy => intro h; simp only [E.vb, Bool.and_eq_true] at h; simp only [E.ev, hx h.1, hy h.2]
  | w k x hx => intro h; simp only [E.ev, hx h]
  | nt x hx => intro h; simp only [E.ev, hx h]
  | ite t x y ht hx hy => intro h; simp only [E.vb, Bool.and_eq_true] at h; simp only [E.ev, ht h.1.1, hx h.1.2, hy h.2]
  | f m x y z hx hy hz => intro h; simp only [E.vb, Bool.and_eq_true] at h; simp only [E.ev, hx h.1.1, hy h.1.2, hz h.2, ha.f]
  | cl i l h => intro h; simp only [E.ev, ha.i i (by simpa [E.vb] using h)]
theorem E.vb_mono {n m : Nat} (hm : n ≤ m) : ∀ (e : E), e.vb n = true → e.vb m = true := by
  intro e
  induction e with
  | c _ => intro _; rfl
  | v i => intro h; simp only [E.vb, Nat.blt_eq] at *; omega
  | b o k x y hx hy => intro h; simp only [E.vb, Bool.and_eq_true] at *; exact ⟨hx h.1, hy h.2⟩
  | w k x hx => intro h; exact hx h
  | nt x hx => intro h; exact hx h
  | ite t x y ht hx hy => intro h; simp only [E.vb, Bool.and_eq_true] at *; exact ⟨⟨ht h.1.1, hx h.1.2⟩, hy h.2⟩
  | f m x y z hx hy hz => intro h; simp only [E.vb, Bool.and_eq_true] at *; exact ⟨⟨hx h.1.1, hy h.1.2⟩, hz h.2⟩
  | cl i l h => intro h; simp only [E.vb, Nat.blt_eq] at *; omega

def optVb (n : Nat) : Option E → Bool
  | none => true
  | some e => e.vb n
mutual
def SV.vb (n : Nat) : SV → Bool
  | .int _ e => e.vb n
  | .bool e => e.vb n
  | .func _ a c => SV.vbL n a && SV.vbL n c
  | .iface _ x => x.vb n
  | .agg l => SV.vbL n l
  | .tup l => SV.vbL n l
  | .str e => e.vb n
  | .sl _ _ o l c => o.vb n && l.vb n && optVb n c
  | .ep _ _ i _ => i.vb n
  | .cp _ _ _ _ i => i.vb n
  | _ => true
def SV.vbL (n : Nat) : List SV → Bool
  | [] => true
  | x :: l => x.vb n && SV.vbL n l
end
mutual
theorem SV.vb_den {ρ ρ' : Env} {n : Nat} (ha : Agn n ρ ρ') (β : Bt) : ∀ (x : SV), x.vb n = true → x.den ρ' β = x.den ρ β
  | .int k e, h => by simp only [SV.den, E.vb_ev ha e h]
  | .bool e, h => by simp only [SV.den, E.vb_ev ha e h]
  | .func fn a c, h => by simp only [SV.vb, Bool.and_eq_true] at h; simp only [SV.den, SV.vbL_den ha β a h.1, SV.vbL_den ha β c h.2]
  | .iface t x, h => by simp only [SV.vb] at h; simp only [SV.den, SV.vb_den ha β x h]
  | .agg l, h => by simp only [SV.vb] at h; simp only [SV.den, SV.vbL_den ha β l h]
  | .tup l, h => by simp only [SV.vb] at h; simp only [SV.den, SV.vbL_den ha β l h]
  | .any i, _ => by simp only [SV.den, ha.v]
  | .str e, h => by simp only [SV.den, E.vb_ev ha e h]
  | .sl (.own j) z o l none, h => by simp only [SV.vb, Bool.and_eq_true] at h; simp only [SV.den, E.vb_ev ha o h.1.1, E.vb_ev ha l h.1.2]
  | .sl (.own j) z o l (some c), h => by simp only [SV.vb, Bool.and_eq_true, optVb] at h; simp only [SV.den, E.vb_ev ha o h.1.1, E.vb_ev ha l h.1.2, E.vb_ev ha c h.2]
  | .sl (.inp j) z o l none, h => by simp only [SV.vb, Bool.and_eq_true] at h; simp only [SV.den, E.vb_ev ha o h.1.1, E.vb_ev ha l h.1.2, ha.ro]
  | .sl (.inp j) z o l (some c), h => by simp only [SV.vb, Bool.and_eq_true, optVb] at h; simp only [SV.den, E.vb_ev ha o h.1.1, E.vb_ev ha l h.1.2, E.vb_ev ha c h.2, ha.ro]
  | .ep (.own j) z i f, h => by simp only [SV.vb] at h; simp only [SV.den, E.vb_ev ha i h]
  | .ep (.inp j) z i f, h => by simp only [SV.vb] at h; simp only [SV.den, E.vb_ev ha i h, ha.ro]
  | .cp j b z l i, h => by simp only [SV.vb] at h; simp only [SV.den, E.vb_ev ha i h]
  | .ptr _ _, _ | .lit _, _ | .slice _ _ _ _, _ | .wild _, _ => rfl
theorem SV.vbL_den {ρ ρ' : Env} {n : Nat} (ha : Agn n ρ ρ') (β : Bt) : ∀ (l : List SV), SV.vbL n l = true → SV.denL ρ' β l = SV.denL ρ β l
  | [], _ => rfl
  | x :: l, h => by simp only [SV.vbL, Bool.and_eq_true] at h; simp only [SV.denL, SV.vb_den ha β x h.1, SV.vbL_den ha β l h.2]
end

def SBlk.vb (n : Nat) : SBlk → Bool
  | .gone => true
  | .cells l _ _ => SV.vbL n l
  | .arr _ _ q m => q.vb n && m.vb n
theorem SBlk.vb_ok {ρ ρ' : Env} {n : Nat} (ha : Agn n ρ ρ') {β : Bt} {q : Nat} {b : SBlk} {o : Option Obj} (hb : b.vb n = true) (h : blkOk ρ β q b o) : blkOk ρ' β q b o := by
  cases b with
  | gone => trivial
  | cells l e op => simp only [SBlk.vb] at hb; simp only [blkOk, SV.vbL_den ha β l hb] at h ⊢; exact h
  | arr cks e c m => simp only [SBlk.vb, Bool.and_eq_true] at hb; simp only [blkOk, E.vb_ev ha c hb.1, E.vb_ev ha m hb.2] at h ⊢; exact h

def blVb (n : Nat) (l : List SBlk) : Bool := l.all (·.vb n)
def knVb (n : Nat) (l : List (E × Bool)) : Bool := l.all (·.1.vb n)

theorem Sat.agn {ρ ρ' : Env} {n : Nat} (ha : Agn n ρ ρ') {β : Bt} {s : St} {w : World} (hb : blVb n s.bl = true) (hk : knVb n s.kn = true) (h : Sat ρ β s w) : Sat ρ' β s w :=
  ⟨fun j b hj => SBlk.vb_ok ha (List.all_eq_true.1 hb b (List.mem_of_getElem? hj)) (h.blk j b hj), h.inj,
   fun e b hm => by
    have := List.all_eq_true.1 hk _ hm
    rw [E.vb_ev ha e this]
    exact h.kn e b hm, fun k a i x h1 h2 => by rw [ha.ro] at h1 h2; exact h.ro k a i x h1 h2⟩

def Cx.okB (cx : Cx) (n : Nat) : Bool := Nat.ble cx.Γ.length n && cx.ins.all fun d => d.c.vb n && d.n.vb n && d.cap.vb n
theorem EnvOk.agn {cx : Cx} {ρ ρ' : Env} {n : Nat} (hn : cx.okB n = true) (hρ : EnvOk cx ρ) (ha : Agn n ρ ρ') : EnvOk cx ρ' := by
  unfold Cx.okB at hn
  simp only [Bool.and_eq_true] at hn
  have hl := Nat.le_of_ble_eq_true hn.1
  refine ⟨fun i p h => ?_, fun n p x y z h => ?_, fun i => ?_, ?_, fun k d hd => ?_⟩
  · rw [ha.i i (Nat.lt_of_lt_of_le (List.getElem?_eq_some_iff.1 h).1 hl)]; exact hρ.hi i p h
  · rw [ha.f]; exact hρ.hf n p x y z h
  · rw [ha.v]; exact hρ.hv i
  · rw [ha.f]; exact hρ.hF
  · have hv := List.all_eq_true.1 hn.2 d (List.mem_of_getElem? hd)
    simp only [Bool.and_eq_true] at hv
    rw [ha.ro, E.vb_ev ha _ hv.1.1, E.vb_ev ha _ hv.1.2, E.vb_ev ha _ hv.2]
    exact hρ.hro k d hd

/-! ### trees with loops -/

/-- a loop's names: the first one, their bounds, what they begin as; the name of the way out -/
structure Lp where
  base : Nat
  bds : List (Option (Int × Int))
  init : List E
  xid : Nat
  deriving Inhabited

inductive TB where
  | back (l : List E)
  | exit (n : Nat)
  | br (e : E) (t f : TB)
  | bad (n : Nat)
  | new (i : Nat) (e : E) (t : TB)
  | loop (L : Lp) (body rest : TB)

inductive TT (α : Type) where
  | leaf (a : α)
  | br (e : E) (t f : TT α)
  | bad (n : Nat)
  | new (i : Nat) (e : E) (t : TT α)
  | loop (L : Lp) (body : TB) (rest : TT α)

def Lp.vals (L : Lp) (ρ : Env) : List Int := (List.range L.bds.length).map fun k => ρ.i (L.base + k)
def inBd : List (Option (Int × Int)) → List Int → Prop
  | [], [] => True
  | p :: l, x :: m => inIv x p ∧ inBd l m
  | _, _ => False
theorem inBd_get : ∀ {l : List (Option (Int × Int))} {m : List Int}, inBd l m → l.length = m.length ∧ ∀ (k : Nat) p x, l[k]? = some p → m[k]? = some x → inIv x p
  | [], [], _ => ⟨rfl, fun k p x h => by simp at h⟩
  | p :: l, x :: m, h => by
    obtain ⟨h1, h2⟩ := inBd_get h.2
    refine ⟨by simp [h1], fun k q y hq hy => ?_⟩
    cases k with
    | zero => simp at hq hy; subst hq; subst hy; exact h.1
    | succ k => exact h2 k q y (by simpa using hq) (by simpa using hy)
  | [], _ :: _, h => by cases h
  | _ :: _, [], h => by cases h

/-- the rounds from a head on to the way out -/
inductive Chain (sb : Env → Option (List Int ⊕ Nat)) (L : Lp) (ρ : Env) : List Int → Prop where
  | last {n : Nat} : sb ρ = some (.inr n) → ρ.i L.xid = n → Chain sb L ρ (L.vals ρ)
  | step {σ' : List Int} (ρ' : Env) : Agn L.base ρ ρ' → sb ρ' = some (.inl σ') → Chain sb L ρ σ' → Chain sb L ρ (L.vals ρ')

open Classical in
noncomputable def TB.sel : TB → Env → Option (List Int ⊕ Nat)
  | .back l, ρ => some (.inl (l.map (E.ev ρ)))
  | .exit n, _ => some (.inr n)
  | .br e t f, ρ => if e.ev ρ ≠ 0 then t.sel ρ else f.sel ρ
  | .bad _, _ => none
  | .new i e t, ρ => if ρ.i i = e.ev ρ then t.sel ρ else none
  | .loop L body rest, ρ => if Chain (fun ρ' => body.sel ρ') L ρ (L.init.map (E.ev ρ)) then rest.sel ρ else none

open Classical in
noncomputable def TT.sel {α : Type} : TT α → Env → Option α
  | .leaf a, _ => some a
  | .br e t f, ρ => if e.ev ρ ≠ 0 then t.sel ρ else f.sel ρ
  | .bad _, _ => none
  | .new i e t, ρ => if ρ.i i = e.ev ρ then t.sel ρ else none
  | .loop L body rest, ρ => if Chain (fun ρ' => body.sel ρ') L ρ (L.init.map (E.ev ρ)) then rest.sel ρ else none

def TT.bind {α γ : Type} : TT α → (α → TT γ) → TT γ
  | .leaf a, f => f a
  | .br e t u, f => .br e (t.bind f) (u.bind f)
  | .bad n, _ => .bad n
  | .new i e t, f => .new i e (t.bind f)
  | .loop L b r, f => .loop L b (r.bind f)

theorem TT.sel_bind {α γ : Type} (ρ : Env) (t : TT α) (f : α → TT γ) : (t.bind f).sel ρ = (t.sel ρ).bind fun a => (f a).sel ρ := by
  induction t with
  | leaf a => rfl
  | br e t u ht hu => simp only [TT.bind, TT.sel]; split <;> assumption
  | bad n => rfl
  | new i e t ht => simp only [TT.bind, TT.sel]; split <;> first | assumption | rfl
  | loop L b r hr => simp only [TT.bind, TT.sel]; split <;> first | assumption | rfl
theorem TT.sel_bind_some {α γ : Type} {ρ : Env} {t : TT α} {f : α → TT γ} {c : γ} (h : (t.bind f).sel ρ = some c) : ∃ a, t.sel ρ = some a ∧ (f a).sel ρ = some c := by
  rw [TT.sel_bind] at h
  exact Option.bind_eq_some_iff.1 h

def T.lift {α : Type} : T α → TT α
  | .leaf a => .leaf a
  | .br e t f => .br e t.lift f.lift
  | .bad n => .bad n
  | .new i e t => .new i e t.lift
theorem T.lift_sel {α : Type} (ρ : Env) : ∀ (t : T α), t.lift.sel ρ = t.sel ρ
  | .leaf a => rfl
  | .br e t f => by simp only [T.lift, TT.sel, T.sel, T.lift_sel ρ t, T.lift_sel ρ f]
  | .bad n => rfl
  | .new i e t => by simp only [T.lift, TT.sel, T.sel, T.lift_sel ρ t]

/-- the greatest name that a tree gives, or n -/
def TT.top {α : Type} : TT α → Nat → Nat
  | .leaf _, n => n
  | .br _ t f, n => f.top (t.top n)
  | .bad _, n => n
  | .new i _ t, n => t.top (Nat.max n i)
  | .loop L _ r, n => r.top (Nat.max n L.xid)

/-- a condition under which two things may go on -/
def forkT {α : Type} (s : St) (e : E) (t f : St → TT α) : TT α :=
  match e with
  | .c n => if n ≠ 0 then t s else f s
  | e =>
    match knows s e with
    | some true => t s
    | some false => f s
    | none => .br e (t { s with kn := (e, true) :: s.kn }) (f { s with kn := (e, false) :: s.kn })

theorem forkT_ok {ρ : Env} {β : Bt} {s : St} {w : World} (h : Sat ρ β s w) {α : Type} {e : E} {t f : St → TT α} {r : α} (hr : (forkT s e t f).sel ρ = some r) :
    ∃ s1, s1.bl = s.bl ∧ Sat ρ β s1 w ∧ ((e.ev ρ ≠ 0 ∧ (t s1).sel ρ = some r) ∨ (e.ev ρ = 0 ∧ (f s1).sel ρ = some r)) := by
  unfold forkT at hr
  split at hr
  · rename_i n
    split at hr
    · exact ⟨s, rfl, h, .inl ⟨by assumption, hr⟩⟩
    · rename_i hn
      exact ⟨s, rfl, h, .inr ⟨by simpa [E.ev] using hn, hr⟩⟩
  · split at hr
    · rename_i hk
      have := knows_ok h hk
      exact ⟨s, rfl, h, .inl ⟨by simpa using this, hr⟩⟩
    · rename_i hk
      have := knows_ok h hk
      exact ⟨s, rfl, h, .inr ⟨by simpa using this, hr⟩⟩
    · simp only [TT.sel] at hr
      split at hr
      · rename_i hne
        exact ⟨{ s with kn := (e, true) :: s.kn }, rfl, h.kn_cons (by simpa using hne), .inl ⟨hne, hr⟩⟩
      · rename_i hne
        exact ⟨{ s with kn := (e, false) :: s.kn }, rfl, h.kn_cons (by simpa using hne), .inr ⟨by simpa using hne, hr⟩⟩

end Go.Eng
end

/-! A symbolic executor, part TB: a loop's head; what comes to it is held against it. -/
section
set_option linter.unusedVariables false
set_option linter.unusedSimpArgs false
set_option linter.unusedSectionVars false
namespace Go.Eng

/-! ### what comes to a head -/

/-- what a block of the head stands for -/
inductive Tgt where
  | idx (j : Nat)
  | nil
  | conc (j : Nat) (q n : E) (c : Option Nat)
  | val (x : SV)

structure Ab where
  base : Nat
  bds : List (Option (Int × Int))
  es : List E
  mp : List (Nat × Tgt)

def lookT : List (Nat × Tgt) → Nat → Tgt
  | [], j => .idx j
  | (i, t) :: l, j => if i == j then t else lookT l j

def bdEq (p : Option (Int × Int)) (l h : Int) : Bool := match p with
  | some p => p.1 == l && p.2 == h
  | none => false

def Ab.ckE (a : Ab) (eH e : E) : Bool :=
  match eH with
  | .cl i l h => (match Nat.ble a.base i with
    | true => (match a.es[i - a.base]?, a.bds[i - a.base]? with
      | some x, some p => x.beq e && bdEq p l h
      | _, _ => false)
    | false => eH.beq e)
  | .v i => (match Nat.ble a.base i with
    | true => (match a.es[i - a.base]? with
      | some x => x.beq e
      | none => false)
    | false => eH.beq e)
  | eH => eH.beq e && eH.vb a.base

def Ab.ckO (a : Ab) : Option E → Option E → Bool
  | none, none => true
  | some x, some y => a.ckE x y
  | _, _ => false

def Tgt.isIdx (t : Tgt) (j : Nat) : Bool := match t with
  | .idx i => i == j
  | _ => false

def Ab.ckB (a : Ab) : Bs → Bs → Bool
  | .own i, .own j => (lookT a.mp i).isIdx j
  | .inp i, .inp j => i == j
  | _, _ => false

mutual
def Ab.ck (a : Ab) : SV → SV → Bool
  | .wild i, y => (match lookT a.mp i with
    | .val x => x.beq y
    | .idx j => (match y with
      | .wild k => k == j
      | _ => false)
    | _ => false)
  | .int k e, .int k' e' => decide (k = k') && a.ckE e e'
  | .bool e, .bool e' => a.ckE e e'
  | .ptr i o, .ptr j o' => (lookT a.mp i).isIdx j && o == o'
  | .lit v, .lit v' => vbeq v v'
  | .any i, .any j => i == j
  | .slice i o l c, .slice j o' l' c' => (lookT a.mp i).isIdx j && o == o' && l == l' && decide (c = c')
  | .func f x c, .func f' x' c' => Fn.beq f f' && a.ckL x x' && a.ckL c c'
  | .iface t x, .iface t' x' => t == t' && a.ck x x'
  | .agg l, .agg l' => a.ckL l l'
  | .tup l, .tup l' => a.ckL l l'
  | .str e, .str e' => a.ckE e e'
  | .sl (.own i) z o l q, y => (match lookT a.mp i, y with
    | .nil, .lit (.slice none 0 0) => a.ckE l (.c 0) && (match q with
      | none => true
      | _ => false)
    | .conc j _ n c, .slice j' 0 m c' => j == j' && isZero o && a.ckE l n && n.beq (.c m) && decide (c = c') && (match q with
      | none => true
      | _ => false)
    | .idx j, .sl (.own j') z' o' l' q' => j == j' && z == z' && a.ckE o o' && a.ckE l l' && a.ckO q q'
    | _, _ => false)
  | .sl (.inp i) z o l q, .sl (.inp j) z' o' l' q' => i == j && z == z' && a.ckE o o' && a.ckE l l' && a.ckO q q'
  | .ep b z i f, .ep b' z' i' f' => a.ckB b b' && z == z' && a.ckE i i' && f == f'
  | .cp i b z l e, .cp j b' z' l' e' => (lookT a.mp i).isIdx j && b == b' && z == z' && l == l' && a.ckE e e'
  | _, _ => false
def Ab.ckL (a : Ab) : List SV → List SV → Bool
  | [], [] => true
  | x :: l, y :: m => a.ck x y && a.ckL l m
  | _, _ => false
end

/-- what the head's blocks are: their place, their room, what is held -/
noncomputable def Ab.β (a : Ab) (ρ : Env) (β : Bt) : Bt := fun i => match lookT a.mp i with
  | .idx j => β j
  | .nil => (0, 0, .nilIface)
  | .conc j _ _ c => ((β j).1, c.getD (β j).2.1 + 1, .nilIface)
  | .val x => (0, 0, x.den ρ β)

section
variable {a : Ab} {ρ ρ' : Env} {β : Bt} (hag : Agn a.base ρ ρ') (hv : (List.range a.bds.length).map (fun k => ρ'.i (a.base + k)) = a.es.map (E.ev ρ)) (hb : inBd a.bds (a.es.map (E.ev ρ)))
include hag hv hb

theorem Ab.name {k : Nat} {x : E} (hx : a.es[k]? = some x) : ρ'.i (a.base + k) = x.ev ρ := by
  have hl := (inBd_get hb).1
  have hk : k < a.bds.length := by
    have := (List.getElem?_eq_some_iff.1 hx).1
    simp at hl; omega
  have h1 : ((List.range a.bds.length).map (fun k => ρ'.i (a.base + k)))[k]? = some (ρ'.i (a.base + k)) := by simp [hk]
  rw [hv, List.getElem?_map, hx] at h1
  exact (Option.some.inj h1).symm

theorem Ab.ckE_ok {eH e : E} (h : a.ckE eH e = true) : eH.ev ρ' = e.ev ρ := by
  unfold Ab.ckE at h
  split at h
  · rename_i i l h'
    split at h
    · rename_i hi
      have hi := Nat.le_of_ble_eq_true hi
      split at h
      · rename_i x p hx hp
        simp only [Bool.and_eq_true] at h
        have := E.eq_of_beq h.1
        subst this
        have hn := Ab.name hag hv hb hx
        rw [show a.base + (i - a.base) = i by omega] at hn
        have hin := (inBd_get hb).2 (i - a.base) p (x.ev ρ) hp (by rw [List.getElem?_map, hx]; rfl)
        unfold bdEq at h
        split at h
        · rename_i q
          simp only [Bool.and_eq_true, beq_iff_eq] at h
          obtain ⟨rfl, rfl⟩ := h.2
          simp only [E.ev, hn]
          exact clampZ_in hin.1 hin.2
        · simp at h
      · cases h
    · rename_i hi
      have := E.eq_of_beq h
      subst this
      have : i < a.base := by
        rcases Nat.lt_or_ge i a.base with h1 | h1
        · exact h1
        · rw [Nat.ble_eq_true_of_le h1] at hi; cases hi
      simp only [E.ev, hag.i i this]
  · rename_i i
    split at h
    · rename_i hi
      have hi := Nat.le_of_ble_eq_true hi
      split at h
      · rename_i x hx
        have := E.eq_of_beq h
        subst this
        have hn := Ab.name hag hv hb hx
        rw [show a.base + (i - a.base) = i by omega] at hn
        exact hn
      · cases h
    · rename_i hi
      have := E.eq_of_beq h
      subst this
      have : i < a.base := by
        rcases Nat.lt_or_ge i a.base with h1 | h1
        · exact h1
        · rw [Nat.ble_eq_true_of_le h1] at hi; cases hi
      simp only [E.ev, hag.i i this]
  · simp only [Bool.and_eq_true] at h
    have := E.eq_of_beq h.1
    subst this
    exact E.vb_ev hag _ h.2

omit hag hv hb in
theorem Ab.isIdx_ok {i j : Nat} (h : (lookT a.mp i).isIdx j = true) : a.β ρ β i = β j := by
  unfold Tgt.isIdx at h
  unfold Ab.β
  split at h
  · rename_i k hk
    rw [hk]; simp at h; subst h; rfl
  · cases h

mutual
theorem Ab.ck_ok : ∀ (x y : SV), a.ck x y = true → x.den ρ' (a.β ρ β) = y.den ρ β
  | .wild i, y, h => by
    simp only [Ab.ck] at h
    split at h
    · rename_i x hx
      have := SV.eq_of_beq _ _ h
      subst this
      simp only [SV.den, Ab.β, hx]
    · rename_i j hj
      split at h
      · rename_i k
        simp at h
        subst h
        simp only [SV.den, Ab.β, hj]
      · cases h
    · cases h
  | .int k e, y, h => by
    cases y <;> simp only [Ab.ck] at h <;> try (cases h; done)
    simp only [Bool.and_eq_true, decide_eq_true_eq] at h
    simp only [SV.den, h.1, Ab.ckE_ok hag hv hb h.2]
  | .bool e, y, h => by
    cases y <;> simp only [Ab.ck] at h <;> try (cases h; done)
    simp only [SV.den, Ab.ckE_ok hag hv hb h]
  | .ptr i o, y, h => by
    cases y <;> simp only [Ab.ck] at h <;> try (cases h; done)
    simp only [Bool.and_eq_true, beq_iff_eq] at h
    simp only [SV.den, Ab.isIdx_ok h.1, h.2]
  | .lit v, y, h => by
    cases y <;> simp only [Ab.ck] at h <;> try (cases h; done)
    simp only [SV.den, vbeq_eq h]
  | .any i, y, h => by
    cases y <;> simp only [Ab.ck] at h <;> try (cases h; done)
    simp only [beq_iff_eq] at h
    simp only [SV.den, h, hag.v]
  | .slice i o l c, y, h => by
    cases y <;> simp only [Ab.ck] at h <;> try (cases h; done)
    simp only [Bool.and_eq_true, beq_iff_eq, decide_eq_true_eq] at h
    simp only [SV.den, Ab.isIdx_ok h.1.1.1, h.1.1.2, h.1.2, h.2]
  | .func f x c, y, h => by
    cases y <;> simp only [Ab.ck] at h <;> try (cases h; done)
    simp only [Bool.and_eq_true] at h
    simp only [SV.den, Fn.eq_of_beq h.1.1, Ab.ckL_ok _ _ h.1.2, Ab.ckL_ok _ _ h.2]
  | .iface t x, y, h => by
    cases y <;> simp only [Ab.ck] at h <;> try (cases h; done)
    simp only [Bool.and_eq_true, beq_iff_eq] at h
    simp only [SV.den, h.1, Ab.ck_ok _ _ h.2]
  | .agg l, y, h => by
    cases y <;> simp only [Ab.ck] at h <;> try (cases h; done)
    simp only [SV.den, Ab.ckL_ok _ _ h]
  | .tup l, y, h => by
    cases y <;> simp only [Ab.ck] at h <;> try (cases h; done)
    simp only [SV.den, Ab.ckL_ok _ _ h]
  | .str e, y, h => by
    cases y <;> simp only [Ab.ck] at h <;> try (cases h; done)
    simp only [SV.den, Ab.ckE_ok hag hv hb h]
  | .sl (.own i) z o l q, y, h => by
    simp only [Ab.ck] at h
    split at h
    · rename_i ht
      cases q with
      | some _ => simp at h
      | none =>
        simp only [Bool.and_true] at h
        have := Ab.ckE_ok hag hv hb h
        simp only [SV.den, Ab.β, ht, this, E.ev]
        rfl
    · rename_i j q0 n c m c' ht
      cases q with
      | some _ => simp at h
      | none =>
        simp only [Bool.and_true, Bool.and_eq_true, beq_iff_eq, decide_eq_true_eq] at h
        obtain ⟨⟨⟨⟨rfl, ho⟩, hl⟩, hn⟩, rfl⟩ := h
        have hl := Ab.ckE_ok hag hv hb hl
        have hn := E.eq_of_beq hn
        subst hn
        have ho := isZero_ok ho
        subst ho
        simp only [SV.den, Ab.β, ht, hl, E.ev]
        simp
    · rename_i j j' z' o' l' q' ht
      simp only [Bool.and_eq_true, beq_iff_eq] at h
      obtain ⟨⟨⟨⟨rfl, rfl⟩, ho⟩, hl⟩, hq⟩ := h
      have ho := Ab.ckE_ok hag hv hb ho
      have hl := Ab.ckE_ok hag hv hb hl
      cases q <;> cases q' <;> simp only [Ab.ckO] at hq <;> try (cases hq; done)
      · simp only [SV.den, Ab.β, ht, ho, hl]
      · have hq := Ab.ckE_ok hag hv hb hq
        simp only [SV.den, Ab.β, ht, ho, hl, hq]
    · cases h
  | .sl (.inp i) z o l q, y, h => by
    cases y with
    | sl b z' o' l' q' =>
      cases b with
      | own j => simp only [Ab.ck] at h; cases h
      | inp j =>
        simp only [Ab.ck, Bool.and_eq_true, beq_iff_eq] at h
        obtain ⟨⟨⟨⟨rfl, rfl⟩, ho⟩, hl⟩, hq⟩ := h
        have ho := Ab.ckE_ok hag hv hb ho
        have hl := Ab.ckE_ok hag hv hb hl
        cases q <;> cases q' <;> simp only [Ab.ckO] at hq <;> try (cases hq; done)
        · simp only [SV.den, ho, hl, hag.ro]
        · have hq := Ab.ckE_ok hag hv hb hq
          simp only [SV.den, ho, hl, hq, hag.ro]
    | _ => simp only [Ab.ck] at h; cases h
  | .ep b z i f, y, h => by
    cases y with
    | ep b' z' i' f' =>
      simp only [Ab.ck, Bool.and_eq_true, beq_iff_eq] at h
      obtain ⟨⟨⟨hb', rfl⟩, hi⟩, rfl⟩ := h
      have hi := Ab.ckE_ok hag hv hb hi
      cases b <;> cases b' <;> simp only [Ab.ckB] at hb' <;> try (cases hb'; done)
      · simp only [SV.den, hi, Ab.isIdx_ok hb']
      · simp only [beq_iff_eq] at hb'
        simp only [SV.den, hi, hb', hag.ro]
    | _ => simp only [Ab.ck] at h; cases h
  | .cp i b z l e, y, h => by
    cases y <;> simp only [Ab.ck] at h <;> try (cases h; done)
    simp only [Bool.and_eq_true, beq_iff_eq] at h
    obtain ⟨⟨⟨⟨h1, rfl⟩, rfl⟩, rfl⟩, h2⟩ := h
    simp only [SV.den, Ab.isIdx_ok h1, Ab.ckE_ok hag hv hb h2]
theorem Ab.ckL_ok : ∀ (x y : List SV), a.ckL x y = true → SV.denL ρ' (a.β ρ β) x = SV.denL ρ β y
  | [], y, h => by cases y <;> simp only [Ab.ckL] at h <;> first | rfl | cases h
  | x :: l, y, h => by
    cases y <;> simp only [Ab.ckL] at h <;> try (cases h; done)
    simp only [Bool.and_eq_true] at h
    simp only [SV.denL, Ab.ck_ok _ _ h.1, Ab.ckL_ok _ _ h.2]
end

end

/-! ### blocks -/

def Ab.ckBl (cx : Cx) (a : Ab) (s : St) (i : Nat) : SBlk → Bool
  | .gone => true
  | .cells l e o => (match lookT a.mp i with
    | .idx j => (match s.bl[j]? with
      | some (.cells l' e' o') => a.ckL l l' && e == e' && decide (o = o')
      | _ => false)
    | _ => false)
  | .arr k e q n => (match lookT a.mp i with
    | .idx j => (match s.bl[j]? with
      | some (.arr k' e' q' n') => decide (k = k') && e == e' && a.ckE q q' && a.ckE n n'
      | _ => false)
    | .nil => a.ckE n (.c 0)
    | .conc j q' n' c => (match s.bl[j]?, n' with
      | some (.cells l e' o), .c m => a.ckE q q' && a.ckE n n' && e == e' && decide (0 ≤ m) && decide (m.toNat * k.length ≤ l.length) && capOk c o l.length k.length && decide (0 < k.length) &&
          (match chunkP cx k k.length m.toNat (l.take (m.toNat * k.length)) with
          | some es => (listE es).beq q'
          | none => false)
      | _, _ => false)
    | .val _ => false)

def Ab.ckBls (cx : Cx) (a : Ab) (s : St) : Nat → List SBlk → Bool
  | _, [] => true
  | i, b :: l => a.ckBl cx s i b && a.ckBls cx s (i + 1) l

def tgtOf (a : Ab) (i : Nat) : List Nat := match lookT a.mp i with
  | .idx j => [j]
  | .conc j _ _ _ => [j]
  | _ => []
/-- the blocks that the live ones of a head stand for -/
def tgts (a : Ab) : Nat → List SBlk → List Nat
  | _, [] => []
  | i, .gone :: l => tgts a (i + 1) l
  | i, _ :: l => tgtOf a i ++ tgts a (i + 1) l
def nodupB : List Nat → Bool
  | [] => true
  | x :: l => !l.contains x && nodupB l

theorem Ab.ckBls_get {cx : Cx} {a : Ab} {s : St} : ∀ {l : List SBlk} {i k : Nat} {b : SBlk}, a.ckBls cx s i l = true → l[k]? = some b → a.ckBl cx s (i + k) b = true
  | [], i, k, b, _, hk => by simp at hk
  | x :: l, i, 0, b, h, hk => by
    simp only [Ab.ckBls, Bool.and_eq_true] at h
    simp at hk; subst hk; exact h.1
  | x :: l, i, k + 1, b, h, hk => by
    simp only [Ab.ckBls, Bool.and_eq_true] at h
    have := Ab.ckBls_get h.2 (k := k) (by simpa using hk)
    rwa [show i + 1 + k = i + (k + 1) by omega] at this

theorem tgts_mem {a : Ab} : ∀ {l : List SBlk} {i k : Nat} {b : SBlk} {j : Nat}, l[k]? = some b → b ≠ .gone → j ∈ tgtOf a (i + k) → j ∈ tgts a i l
  | [], i, k, b, j, hk, _, _ => by simp at hk
  | x :: l, i, 0, b, j, hk, hb, hj => by
    simp at hk; subst hk
    cases x <;> first | exact absurd rfl hb | (simp only [tgts, List.mem_append]; exact .inl hj)
  | x :: l, i, k + 1, b, j, hk, hb, hj => by
    have := tgts_mem (i := i + 1) (k := k) (l := l) (by simpa using hk) hb (by rwa [show i + 1 + k = i + (k + 1) by omega])
    cases x <;> simp only [tgts] <;> first | exact this | exact List.mem_append.2 (.inr this)

theorem nodup_app {l m : List Nat} (h : nodupB (l ++ m) = true) : nodupB m = true ∧ ∀ x ∈ l, x ∉ m := by
  induction l with
  | nil => exact ⟨h, fun x hx => by cases hx⟩
  | cons y l ih =>
    simp only [List.cons_append, nodupB, Bool.and_eq_true] at h
    obtain ⟨h1, h2⟩ := ih h.2
    refine ⟨h1, fun x hx => ?_⟩
    rcases List.mem_cons.1 hx with rfl | hx
    · intro hm
      have := h.1
      simp [hm] at this
    · exact h2 x hx

theorem tgts_inj {a : Ab} : ∀ {l : List SBlk} {i : Nat}, nodupB (tgts a i l) = true → ∀ {k k' : Nat} {b b' : SBlk} {j : Nat}, l[k]? = some b → l[k']? = some b' → b ≠ .gone → b' ≠ .gone → j ∈ tgtOf a (i + k) → j ∈ tgtOf a (i + k') → k = k'
  | [], i, _, k, k', b, b', j, hk, _, _, _, _, _ => by simp at hk
  | x :: l, i, h, 0, 0, b, b', j, _, _, _, _, _, _ => rfl
  | x :: l, i, h, k + 1, k' + 1, b, b', j, hk, hk', hb, hb', hj, hj' => by
    have hn : nodupB (tgts a (i + 1) l) = true := by
      cases x <;> simp only [tgts] at h <;> first | exact h | exact (nodup_app h).1
    have := tgts_inj hn (k := k) (k' := k') (b := b) (b' := b') (j := j) (by simpa using hk) (by simpa using hk') hb hb' (by rwa [show i + 1 + k = i + (k + 1) by omega]) (by rwa [show i + 1 + k' = i + (k' + 1) by omega])
    omega
  | x :: l, i, h, 0, k' + 1, b, b', j, hk, hk', hb, hb', hj, hj' => by
    simp at hk; subst hk
    have hm := tgts_mem (a := a) (i := i + 1) (k := k') (l := l) (b := b') (j := j) (by simpa using hk') hb' (by rwa [show i + 1 + k' = i + (k' + 1) by omega])
    have h2 : j ∉ tgts a (i + 1) l := by
      cases x with
      | gone => exact absurd rfl hb
      | cells _ _ _ => simp only [tgts] at h; exact (nodup_app h).2 j hj
      | arr _ _ _ _ => simp only [tgts] at h; exact (nodup_app h).2 j hj
    exact absurd hm h2
  | x :: l, i, h, k + 1, 0, b, b', j, hk, hk', hb, hb', hj, hj' => by
    simp at hk'; subst hk'
    have hm := tgts_mem (a := a) (i := i + 1) (k := k) (l := l) (b := b) (j := j) (by simpa using hk) hb (by rwa [show i + 1 + k = i + (k + 1) by omega])
    have h2 : j ∉ tgts a (i + 1) l := by
      cases x with
      | gone => exact absurd rfl hb'
      | cells _ _ _ => simp only [tgts] at h; exact (nodup_app h).2 j hj'
      | arr _ _ _ _ => simp only [tgts] at h; exact (nodup_app h).2 j hj'
    exact absurd hm h2

/-- what comes to the head is what the head tells -/
def Ab.check (cx : Cx) (a : Ab) (n0 : Nat) (tmH : List SV) (blH : List SBlk) (tm : List SV) (s : St) : Bool :=
  a.ckL tmH tm && a.ckBls cx s 0 blH && nodupB (tgts a 0 blH) && a.mp.all (fun p => Nat.ble n0 p.1) && Nat.ble n0 blH.length

theorem lookT_lt {n0 : Nat} : ∀ {mp : List (Nat × Tgt)} {j : Nat}, mp.all (fun p => Nat.ble n0 p.1) = true → j < n0 → lookT mp j = .idx j
  | [], _, _, _ => rfl
  | (i, t) :: l, j, h, hj => by
    simp only [List.all_cons, Bool.and_eq_true] at h
    have := Nat.le_of_ble_eq_true h.1
    simp only [lookT]
    rw [if_neg (by simp; omega)]
    exact lookT_lt h.2 hj

theorem check_ok {cx : Cx} {a : Ab} {tmH tm : List SV} {s0 s sH : St} {ρ : Env} (hρ : EnvOk cx ρ) {β0 β : Bt} {w0 w : World} (h : a.check cx s0.bl.length tmH sH.bl tm s = true) (hs : Sat ρ β s w) (hx : Ext s0 s β0 β w0 w) (hb : inBd a.bds (a.es.map (E.ev ρ))) :
    Ext s0 sH β0 (a.β ρ β) w0 w ∧ ∀ ρ', Agn a.base ρ ρ' → (List.range a.bds.length).map (fun k => ρ'.i (a.base + k)) = a.es.map (E.ev ρ) → (∀ e b, (e, b) ∈ sH.kn → (e.ev ρ' != 0) = b) →
      SV.denL ρ' (a.β ρ β) tmH = SV.denL ρ β tm ∧ Sat ρ' (a.β ρ β) sH w := by
  unfold Ab.check at h
  simp only [Bool.and_eq_true] at h
  obtain ⟨⟨⟨⟨hL, hB⟩, hN⟩, hM⟩, hlen⟩ := h
  have hlen := Nat.le_of_ble_eq_true hlen
  -- a live block of the head stands for a live block
  have hlv : ∀ i, live (a.β ρ β) sH i → ∃ j, j ∈ tgtOf a i ∧ live β s j ∧ (a.β ρ β i).1 = (β j).1 ∧ (i < s0.bl.length → j = i) := by
    rintro i ⟨b, hbi, ho⟩
    have hck := Ab.ckBls_get hB hbi
    rw [Nat.zero_add] at hck
    have hid : i < s0.bl.length → lookT a.mp i = .idx i := lookT_lt hM
    cases b with
    | gone => cases ho
    | cells l e o =>
      simp only [Ab.ckBl] at hck
      split at hck
      · rename_i j hj
        split at hck
        · rename_i l' e' o' hsj
          refine ⟨j, by simp [tgtOf, hj], ⟨_, hsj, rfl⟩, by simp [Ab.β, hj], fun hi => ?_⟩
          rw [hid hi] at hj; cases hj; rfl
        · cases hck
      · cases hck
    | arr k e q n =>
      simp only [Ab.ckBl] at hck
      split at hck
      · rename_i j hj
        split at hck
        · rename_i k' e' q' n' hsj
          have hbe : a.β ρ β i = β j := by simp [Ab.β, hj]
          refine ⟨j, by simp [tgtOf, hj], ⟨_, hsj, ?_⟩, by rw [hbe], fun hi => ?_⟩
          · simp only [SBlk.occ] at ho ⊢
            rw [hbe] at ho; exact ho
          · rw [hid hi] at hj; cases hj; rfl
        · cases hck
      · rename_i hj
        simp [SBlk.occ, Ab.β, hj] at ho
      · rename_i j q' n' c hj
        split at hck
        · rename_i l e' o m hsj
          refine ⟨j, by simp [tgtOf, hj], ⟨_, hsj, rfl⟩, by simp [Ab.β, hj], fun hi => ?_⟩
          rw [hid hi] at hj; cases hj
        · cases hck
      · cases hck
  have hext : Ext s0 sH β0 (a.β ρ β) w0 w := by
    refine ⟨fun j hj => ?_, fun j hj hl => ?_, fun j hj hl => ?_, hx.size, hx.fr, hlen, hx.os, hx.tape, hx.output⟩
    · have : a.β ρ β j = β j := by simp [Ab.β, lookT_lt hM hj]
      rw [this]; exact hx.ag j hj
    · obtain ⟨j', _, h2, _, h4⟩ := hlv j hl
      have := h4 hj
      subst this
      exact hx.old _ hj h2
    · obtain ⟨j', _, h2, h3, _⟩ := hlv j hl
      rw [h3]
      rcases Nat.lt_or_ge j' s0.bl.length with h5 | h5
      · exact .inr ⟨j', hx.old j' h5 h2, by rw [hx.ag j' h5]⟩
      · exact hx.fresh j' h5 h2
  refine ⟨hext, fun ρ' hag hv hk => ⟨Ab.ckL_ok hag hv hb _ _ hL, ?_, ?_, hk, ?_⟩⟩
  · intro i b hbi
    have hck := Ab.ckBls_get hB hbi
    rw [Nat.zero_add] at hck
    cases b with
    | gone => trivial
    | cells l e o =>
      simp only [Ab.ckBl] at hck
      split at hck
      · rename_i j hj
        split at hck
        · rename_i l' e' o' hsj
          simp only [Bool.and_eq_true, beq_iff_eq, decide_eq_true_eq] at hck
          obtain ⟨⟨hl, rfl⟩, rfl⟩ := hck
          have hbe : a.β ρ β i = β j := by simp [Ab.β, hj]
          rw [hbe]
          have := hs.blk j _ hsj
          simp only [blkOk] at this ⊢
          rw [Ab.ckL_ok hag hv hb _ _ hl]
          exact this
        · cases hck
      · cases hck
    | arr k e q n =>
      simp only [Ab.ckBl] at hck
      split at hck
      · rename_i j hj
        split at hck
        · rename_i k' e' q' n' hsj
          simp only [Bool.and_eq_true, beq_iff_eq, decide_eq_true_eq] at hck
          obtain ⟨⟨⟨rfl, rfl⟩, hq⟩, hn⟩ := hck
          have hbe : a.β ρ β i = β j := by simp [Ab.β, hj]
          rw [hbe]
          have := hs.blk j _ hsj
          simp only [blkOk] at this ⊢
          rw [Ab.ckE_ok hag hv hb hq, Ab.ckE_ok hag hv hb hn]
          exact this
        · cases hck
      · rename_i hj
        have := Ab.ckE_ok hag hv hb hck
        left
        refine ⟨by simp [Ab.β, hj], by rw [this]; rfl⟩
      · rename_i j q' n' c hj
        split at hck
        · rename_i l e' o m hsj
          simp only [Bool.and_eq_true, beq_iff_eq, decide_eq_true_eq] at hck
          obtain ⟨⟨⟨⟨⟨⟨⟨hq, hn⟩, rfl⟩, hm0⟩, hml⟩, hcap⟩, hk0⟩, hch⟩ := hck
          split at hch
          · rename_i es hes
            have hqe := E.eq_of_beq hch
            subst hqe
            obtain ⟨g1, g2⟩ := chunkP_ok hρ β m.toNat hes (by simp; omega)
            have hd := g2 0 (fun i => rdZ ((listE es).ev ρ) i) (fun i _ => by rw [Nat.zero_add, listE_ev hρ])
            obtain ⟨tl, hheap, htl, hcp⟩ := hs.blk j _ hsj
            have hbe : a.β ρ β i = ((β j).1, c.getD (β j).2.1 + 1, .nilIface) := by simp [Ab.β, hj]
            rw [hbe]
            right
            have hqv := Ab.ckE_ok hag hv hb hq
            have hnv := Ab.ckE_ok hag hv hb hn
            simp only [E.ev] at hnv
            rw [hqv, hnv]
            have hrow : rowV k ((listE es).ev ρ) m.toNat ++ (SV.denL ρ β (l.drop (m.toNat * k.length)) ++ tl) = SV.denL ρ β l ++ tl := by
              unfold rowV
              rw [← hd, ← List.append_assoc, ← denL_append, List.take_append_drop]
            refine ⟨SV.denL ρ β (l.drop (m.toNat * k.length)) ++ tl, by simp, by rw [hrow]; exact hheap, ?_⟩
            rw [hrow]
            simp only [Nat.add_sub_cancel]
            unfold capOk at hcap
            split at hcap
            · simp only [Bool.and_eq_true, decide_eq_true_eq] at hcap
              rw [htl rfl]
              simp only [List.append_nil, denL_length, Option.getD_some]
              exact ⟨hcap.1, by unfold maxLen; omega⟩
            · simp only [decide_eq_true_eq] at hcap
              subst hcap
              exact hcp _ rfl
            · cases hcap
          · cases hch
        · cases hck
      · cases hck
  · intro i j hi hj he
    obtain ⟨i', t1, l1, a1, _⟩ := hlv i hi
    obtain ⟨j', t2, l2, a2, _⟩ := hlv j hj
    have hij : i' = j' := hs.inj i' j' l1 l2 (by rw [← a1, ← a2]; exact he)
    subst hij
    obtain ⟨bi, hbi, hoi⟩ := hi
    obtain ⟨bj, hbj, hoj⟩ := hj
    exact tgts_inj hN (k := i) (k' := j) hbi hbj (by rintro rfl; cases hoi) (by rintro rfl; cases hoj) (by rwa [Nat.zero_add]) (by rwa [Nat.zero_add])
  · intro k ad i x h1 h2
    rw [hag.ro] at h1 h2
    obtain ⟨h3, h4⟩ := hs.ro k ad i x h1 h2
    refine ⟨h3, fun j hj => ?_⟩
    obtain ⟨j', _, l1, a1, _⟩ := hlv j hj
    rw [a1]
    exact h4 j' l1

end Go.Eng
end

/-! A symbolic executor, part TC: a loop's head is made; what it stands for is found (nothing here is trusted: part TB checks). -/
section
set_option linter.unusedVariables false
set_option linter.unusedSimpArgs false
set_option linter.unusedSectionVars false
namespace Go.Eng

/-- how a place of the entry is told at the head -/
inductive Mk where
  | num (lo hi : Int)
  | code
  | wild
  | arr (cks : List CK) (el : TypeId)
  | move
  deriving Inhabited

abbrev Marks := List (List Nat × Mk)

def keyEq : List Nat → List Nat → Bool
  | [], [] => true
  | a :: l, b :: m => Nat.beq a b && keyEq l m
  | _, _ => false
def findMk : Marks → List Nat → Option Mk
  | [], _ => none
  | (k, m) :: l, κ => if keyEq k κ then some m else findMk l κ

structure HS where
  nx : Nat
  bds : List (Option (Int × Int))
  bl : List SBlk
  mv : List (Nat × Nat)
  gn : List Nat

def mvOf : List (Nat × Nat) → Nat → Nat
  | [], j => j
  | (a, b) :: l, j => if Nat.beq a j then b else mvOf l j

def hdE (mk : Marks) (κ : List Nat) (e : E) (h : HS) : E × HS :=
  match findMk mk κ with
  | some (.num lo hi) => (.cl h.nx lo hi, { h with nx := h.nx + 1, bds := some (lo, hi) :: h.bds })
  | some .code => (.v h.nx, { h with nx := h.nx + 1, bds := none :: h.bds })
  | _ => (e, h)

def goneOf : SV → List Nat
  | .sl (.own j) _ _ _ _ => [j]
  | .slice j _ _ _ => [j]
  | _ => []

mutual
def hdSV (mk : Marks) (κ : List Nat) (x : SV) (h : HS) : SV × HS :=
  match findMk mk κ with
  | some .wild => (.wild h.bl.length, { h with bl := h.bl ++ [.gone] })
  | some (.arr cks el) =>
    let n : E := .cl (h.nx + 1) 0 1000000
    (.sl (.own h.bl.length) cks.length (.c 0) n none, { h with nx := h.nx + 2, bds := some (0, 1000000) :: none :: h.bds, bl := h.bl ++ [.arr cks el (.v h.nx) n], gn := goneOf x ++ h.gn })
  | some (.num lo hi) => (match x with
    | .int k _ => (.int k (.cl h.nx lo hi), { h with nx := h.nx + 1, bds := some (lo, hi) :: h.bds })
    | .bool _ => (.bool (.cl h.nx 0 1), { h with nx := h.nx + 1, bds := some (0, 1) :: h.bds })
    | x => (x, h))
  | some .code => (match x with
    | .str _ => (.str (.v h.nx), { h with nx := h.nx + 1, bds := none :: h.bds })
    | .lit _ => (.str (.v h.nx), { h with nx := h.nx + 1, bds := none :: h.bds })
    | x => (x, h))
  | _ => (match x with
    | .ptr j o => (.ptr (mvOf h.mv j) o, h)
    | .slice j o l c => (.slice (mvOf h.mv j) o l c, h)
    | .sl b z o l c =>
      let r := hdE mk (κ ++ [0]) o h
      let r2 := hdE mk (κ ++ [1]) l r.2
      (.sl (match b with | .own j => .own (mvOf h.mv j) | b => b) z r.1 r2.1 c, r2.2)
    | .func f a c =>
      let r := hdL mk (κ ++ [0]) 0 a h
      let r2 := hdL mk (κ ++ [1]) 0 c r.2
      (.func f r.1 r2.1, r2.2)
    | .iface t x => let r := hdSV mk (κ ++ [0]) x h; (.iface t r.1, r.2)
    | .agg l => let r := hdL mk κ 0 l h; (.agg r.1, r.2)
    | .tup l => let r := hdL mk κ 0 l h; (.tup r.1, r.2)
    | x => (x, h))
def hdL (mk : Marks) (κ : List Nat) (i : Nat) (l : List SV) (h : HS) : List SV × HS :=
  match l with
  | [] => ([], h)
  | x :: l =>
    let r := hdSV mk (κ ++ [i]) x h
    let r2 := hdL mk κ (i + 1) l r.2
    (r.1 :: r2.1, r2.2)
end

def hdBl (mk : Marks) : Nat → List SBlk → HS → HS
  | _, [], h => h
  | j, b :: l, h => hdBl mk (j + 1) l (match b with
    | .gone => h
    | .cells L e o =>
      let r := hdL mk [1, j] 0 L h
      { r.2 with bl := r.2.bl.set (mvOf h.mv j) (.cells r.1 e o) }
    | .arr k e q n =>
      let r := hdE mk [1, j, 0] q h
      let r2 := hdE mk [1, j, 1] n r.2
      { r2.2 with bl := r2.2.bl.set (mvOf h.mv j) (.arr k e r.1 r2.1) })

mutual
def getSV : SV → List Nat → Option SV
  | x, [] => some x
  | .func _ a _, 0 :: i :: κ => getL a i κ
  | .func _ _ c, 1 :: i :: κ => getL c i κ
  | .iface _ x, 0 :: κ => getSV x κ
  | .agg l, i :: κ => getL l i κ
  | .tup l, i :: κ => getL l i κ
  | _, _ => none
def getL : List SV → Nat → List Nat → Option SV
  | [], _, _ => none
  | x :: _, 0, κ => getSV x κ
  | _ :: l, i + 1, κ => getL l i κ
end
def getK (tm : List SV) (s : St) (κ : List Nat) : Option SV :=
  match κ with
  | 0 :: i :: κ => getL tm i κ
  | 1 :: j :: i :: κ => match s.bl[j]? with
    | some (.cells l _ _) => getL l i κ
    | _ => none
  | _ => none

def movesOf (tm : List SV) (s : St) : Marks → List Nat → List Nat
  | [], acc => acc.reverse
  | (κ, .move) :: l, acc => movesOf tm s l (match getK tm s κ with
    | some (.ptr j _) => if acc.contains j then acc else j :: acc
    | _ => acc)
  | _ :: l, acc => movesOf tm s l acc

def setGone : List Nat → List SBlk → List SBlk
  | [], l => l
  | j :: js, l => setGone js (l.set j .gone)

def zipN : List Nat → Nat → List (Nat × Nat)
  | [], _ => []
  | j :: l, n => (j, n) :: zipN l (n + 1)

structure Hd where
  tm : List SV
  bl : List SBlk
  bds : List (Option (Int × Int))
  mv : List (Nat × Nat)

def mkHead (mk : Marks) (base : Nat) (tm : List SV) (s : St) : Hd :=
  let js := movesOf tm s mk []
  let n := s.bl.length
  let mv := zipN js n
  let r := hdL mk [0] 0 tm ⟨base, [], s.bl ++ List.replicate js.length .gone, mv, js⟩
  let h := hdBl mk 0 s.bl r.2
  ⟨r.1, setGone h.gn h.bl, h.bds.reverse, mv⟩

/-! ### what the head stands for -/

structure US where
  es : List (Nat × E)
  mp : List (Nat × Tgt)
  mks : Marks
  todo : List (Nat × Nat)

structure UC where
  cx : Cx
  base : Nat
  n0 : Nat
  hd : Hd
  s : St

def lookN2 : List (Nat × E) → Nat → Option E
  | [], _ => none
  | (i, e) :: l, j => if Nat.beq i j then some e else lookN2 l j
def hasT : List (Nat × Tgt) → Nat → Bool
  | [], _ => false
  | (i, _) :: l, j => Nat.beq i j || hasT l j

def addMk (κ : List Nat) (m : Mk) (u : US) : US := { u with mks := (κ, m) :: u.mks }

def UC.uE (c : UC) (κ : List Nat) (d : Mk) (eH e : E) (u : US) : US :=
  let name (i : Nat) : US := match lookN2 u.es (i - c.base) with
    | some _ => u
    | none => { u with es := (i - c.base, e) :: u.es }
  match eH with
  | .cl i _ _ => if Nat.ble c.base i then name i else if eH.beq e then u else addMk κ d u
  | .v i => if Nat.ble c.base i then name i else if eH.beq e then u else addMk κ d u
  | eH => if eH.beq e then u else addMk κ d u

/-- the make of a row's parts, off what lies there -/
def arrOf (cx : Cx) (s : St) : SV → Option (List CK × TypeId)
  | .sl (.own j) _ _ _ _ => match s.bl[j]? with
    | some (.arr k e _ _) => some (k, e)
    | _ => none
  | .slice j _ _ _ => match s.bl[j]? with
    | some (.cells _ e _) => (cksOf cx 6 e).map fun k => (k, e)
    | _ => none
  | _ => none
def markArr (cx : Cx) (s : St) (κ : List Nat) (x y : SV) (u : US) : US :=
  match arrOf cx s y with
  | some (k, e) => addMk κ (.arr k e) u
  | none => match arrOf cx s x with
    | some (k, e) => addMk κ (.arr k e) u
    | none => addMk κ .wild u

def kindMk (k : IntKind) : Mk := .num (klo k) (khi k)

mutual
def UC.uSV (c : UC) (κ : List Nat) (x y : SV) (u : US) : US :=
  match x, y with
  | .wild i, y => if hasT u.mp i || Nat.blt i c.n0 then u else { u with mp := (i, .val y) :: u.mp }
  | .int k e, .int k' e' => if k = k' then c.uE κ (kindMk k) e e' u else addMk κ .wild u
  | .bool e, .bool e' => c.uE κ (.num 0 1) e e' u
  | .str e, .str e' => c.uE κ .code e e' u
  | .lit (.string a), .lit (.string b) => if decide (a = b) then u else addMk κ .code u
  | .lit (.string _), .str _ => addMk κ .code u
  | .str e, .lit (.string b) => c.uE κ .code e (strLit b) u
  | .ptr i o, .ptr j o' =>
    if !(Nat.beq o o') then addMk κ .wild u
    else if Nat.beq i j && Nat.blt i c.n0 then { u with todo := (i, j) :: u.todo }
    else if Nat.ble c.n0 i then (if hasT u.mp i then u else { u with mp := (i, .idx j) :: u.mp, todo := (i, j) :: u.todo })
    else addMk κ .move u
  | .slice i o l q, .slice j o' l' q' => if Nat.beq i j && Nat.beq o o' && Nat.beq l l' && decide (q = q') then { u with todo := (i, j) :: u.todo } else markArr c.cx c.s κ x y u
  | .lit (.slice none a b), .lit (.slice none a' b') => if Nat.beq a a' && Nat.beq b b' then u else addMk κ .wild u
  | .lit (.slice none _ _), .slice _ _ _ _ => markArr c.cx c.s κ x y u
  | .lit (.slice none _ _), .sl _ _ _ _ _ => markArr c.cx c.s κ x y u
  | .slice _ _ _ _, .sl _ _ _ _ _ => markArr c.cx c.s κ x y u
  | .sl (.own i) z o l _, .lit (.slice none 0 0) => (match c.hd.bl[i]? with
    | some (.arr _ _ q n) => c.uE κ .wild q (.c 0) (c.uE κ .wild n (.c 0) (c.uE κ .wild l (.c 0) { u with mp := (i, .nil) :: u.mp }))
    | _ => addMk κ .wild u)
  | .sl (.own i) z o l _, .slice j 0 m cp => (match c.hd.bl[i]?, c.s.bl[j]? with
    | some (.arr k _ q n), some (.cells L _ _) => (match chunkP c.cx k k.length m (L.take (m * k.length)) with
      | some es => c.uE κ .wild q (listE es) (c.uE κ .wild n (.c m) (c.uE κ .wild l (.c m) { u with mp := (i, .conc j (listE es) (.c m) cp) :: u.mp }))
      | none => addMk κ .wild u)
    | _, _ => addMk κ .wild u)
  | .sl (.own i) z o l q, .sl (.own j) z' o' l' q' =>
    if Nat.beq i j || Nat.ble c.n0 i then
      let u := c.uE (κ ++ [0]) (.num 0 1000000) o o' (c.uE (κ ++ [1]) (.num 0 1000000) l l' u)
      let u := if Nat.blt i c.n0 || hasT u.mp i then u else { u with mp := (i, .idx j) :: u.mp }
      { u with todo := (i, j) :: u.todo }
    else markArr c.cx c.s κ x y u
  | .sl (.inp i) z o l q, .sl (.inp j) z' o' l' q' => if Nat.beq i j then c.uE (κ ++ [0]) (.num 0 1000000) o o' (c.uE (κ ++ [1]) (.num 0 1000000) l l' u) else addMk κ .wild u
  | .func f a q, .func f' a' q' => if Fn.beq f f' && Nat.beq a.length a'.length && Nat.beq q.length q'.length then c.uL (κ ++ [1]) 0 q q' (c.uL (κ ++ [0]) 0 a a' u) else addMk κ .wild u
  | .iface t x, .iface t' y => if Nat.beq t t' then c.uSV (κ ++ [0]) x y u else addMk κ .wild u
  | .agg l, .agg m => if Nat.beq l.length m.length then c.uL κ 0 l m u else addMk κ .wild u
  | .tup l, .tup m => if Nat.beq l.length m.length then c.uL κ 0 l m u else addMk κ .wild u
  | x, y => if x.beq y then u else addMk κ .wild u
def UC.uL (c : UC) (κ : List Nat) (i : Nat) (x y : List SV) (u : US) : US :=
  match x, y with
  | x :: l, y :: m => c.uL κ (i + 1) l m (c.uSV (κ ++ [i]) x y u)
  | _, _ => u
end

/-- the entry's number of a head's block -/
def backMv : List (Nat × Nat) → Nat → Nat
  | [], j => j
  | (a, b) :: l, j => if Nat.beq b j then a else backMv l j

def UC.uBl (c : UC) (i j : Nat) (u : US) : US :=
  match c.hd.bl[i]?, c.s.bl[j]? with
  | some (.cells l _ _), some (.cells m _ _) => c.uL [1, backMv c.hd.mv i] 0 l m u
  | some (.arr _ _ q n), some (.arr _ _ q' n') => c.uE [1, backMv c.hd.mv i, 0] .code q q' (c.uE [1, backMv c.hd.mv i, 1] (.num 0 1000000) n n' u)
  | _, _ => u

def UC.uAll (c : UC) : Nat → List (Nat × Nat) → US → US
  | 0, _, u => u
  | f + 1, done, u => match u.todo with
    | [] => u
    | p :: l => if done.any (fun q => Nat.beq q.1 p.1 && Nat.beq q.2 p.2) then c.uAll f done { u with todo := l } else c.uAll f (p :: done) (c.uBl p.1 p.2 { u with todo := l })

def restB : Nat → List SBlk → List (Nat × Nat)
  | _, [] => []
  | i, .gone :: l => restB (i + 1) l
  | i, _ :: l => (i, i) :: restB (i + 1) l

def unify (cx : Cx) (base : Nat) (n0 : Nat) (hd : Hd) (tm : List SV) (s : St) : US :=
  let c : UC := ⟨cx, base, n0, hd, s⟩
  let u := c.uL [0] 0 hd.tm tm ⟨[], [], [], []⟩
  let u := c.uAll 200 [] u
  c.uAll 200 [] { u with todo := (restB 0 hd.bl).filter fun p => Nat.blt p.1 n0 }

def abOf (base : Nat) (hd : Hd) (u : US) : Ab :=
  ⟨base, hd.bds, (List.range hd.bds.length).map fun k => (lookN2 u.es k).getD (.c 0), u.mp⟩

/-! ### what must be told anew -/

def TT.nleaves : TT (Ex × List SV × St) → List (List SV × St)
  | .leaf (.normal, r) => [r]
  | .leaf _ => []
  | .br _ t f => t.nleaves ++ f.nleaves
  | .bad _ => []
  | .new _ _ t => t.nleaves
  | .loop _ _ r => r.nleaves

/-- a number that is counted up or down: bounds that it will not reach -/
def countMk (k : IntKind) (e0 : E) (i : Nat) (e : E) : Option Mk :=
  let big : Int := match k with
    | .i64 => 4611686018427387904
    | .u64 => 4611686018427387904
    | .i32 => 1073741824
    | .u32 => 1073741824
    | .i16 => 16384
    | .u16 => 16384
    | _ => 64
  let go (n : Int) : Mk := if 0 < n then .num (match e0 with | .c a => a | _ => (if k.signed then -big else 0)) big else .num (if k.signed then -big else 0) (match e0 with | .c a => a | _ => big)
  match e with
  | .w k' (.b .padd _ (.cl j _ _) (.c n)) => if k' = k && Nat.beq i j then some (go n) else none
  | .w k' (.b .psub _ (.cl j _ _) (.c n)) => if k' = k && Nat.beq i j then some (go (-n)) else none
  | _ => none

def refine1 (cx : Cx) (tm : List SV) (s : St) (hd : Hd) (base : Nat) (u : US) : Marks → Marks
  | [] => []
  | (κ, .num lo hi) :: l =>
    let r := refine1 cx tm s hd base u l
    match getK tm s κ with
    | some (.int k e0) => if lo == klo k && hi == khi k then
        -- the name that it has at the head
        (match (match κ with
          | 0 :: i :: κ' => getL hd.tm i κ'
          | 1 :: j :: i :: κ' => (match hd.bl[mvOf hd.mv j]? with
            | some (.cells L _ _) => getL L i κ'
            | _ => none)
          | _ => none) with
        | some (.int _ (.cl i _ _)) => (match lookN2 u.es (i - base) with
          | some e => (match countMk k e0 i e with
            | some m => (κ, m) :: r
            | none => r)
          | none => r)
        | _ => r) else r
    | _ => r
  | _ :: l => refine1 cx tm s hd base u l

def addAll : Marks → Marks → Marks
  | [], mk => mk
  | (κ, m) :: l, mk => addAll l (match findMk mk κ with
    | some _ => mk
    | none => (κ, m) :: mk)

def inferL (cx : Cx) (run : List SV → St → TT (Ex × List SV × St)) (base : Nat) (tm : List SV) (s : St) : Nat → Bool → Marks → Marks
  | 0, _, mk => mk
  | n + 1, done, mk =>
    let hd := mkHead mk base tm s
    let t := run hd.tm ⟨hd.bl, (.b .eq .i64 (.cl (base + hd.bds.length) 0 0) (.cl (base + hd.bds.length) 0 0), true) :: s.kn⟩
    let us := t.nleaves.map fun r => unify cx base s.bl.length hd r.1 r.2
    let news := (unify cx base s.bl.length hd tm s).mks ++ us.flatMap (·.mks)
    match news with
    | [] => if done then mk else
      let fine := us.flatMap fun u => refine1 cx tm s hd base u mk
      (match fine with
      | [] => mk
      | _ => inferL cx run base tm s n true (fine ++ mk))
    | _ => inferL cx run base tm s n done (addAll news mk)

end Go.Eng
end

/-! A symbolic executor, part TD: operations, regions, code and functions with loops whose rounds are not known. -/
section
set_option linter.unusedVariables false
set_option linter.unusedSimpArgs false
set_option linter.unusedSectionVars false
namespace Go.Eng

/-! ### calls -/

abbrev RT2 := TT (SV × St)
abbrev CFT := FuncId → List SV → St → RT2

def CallOkT (cx : Cx) (cf : CFT) : Prop :=
  ∀ (ρ : Env) (β : Bt) (s s' : St) (w : World) (f : FuncId) (args : List SV) (v : SV), EnvOk cx ρ → Sat ρ β s w → (cf f args s).sel ρ = some (v, s') →
    Calls cx.P f (SV.denL ρ β args).toArray w fun e w' => ∃ β', e = .returned (v.den ρ β') ∧ Sat ρ β' s' w' ∧ Ext s s' β β' w w'

def callST (cx : Cx) (cf : CFT) (ex : XF) (f : FuncId) (args : List SV) (s : St) : RT2 :=
  match ex f args with
  | some v => .leaf (v, s)
  | none => if hasBody cx f then cf f args s else .bad 30

def opCT (cx : Cx) (cf : CFT) (ex : XF) (tm : List SV) (s : St) (o : Oper) : RT2 :=
  match o.op with
  | .call c => match c.callee with
    | .value f => match evO tm f with
      | .func (.func fid) first cap => callST cx cf ex fid (first ++ c.args.toList.map (evO tm) ++ cap) s
      | _ => .bad 31
    | .invoke x name => match evO tm x with
      | .iface t v => match methodS cx t v name with
        | some (fid, rv) => callST cx cf ex fid (rv :: c.args.toList.map (evO tm)) s
        | none => .bad 32
      | _ => .bad 33
    | .builtin _ => (opS cx tm s o).lift
  | _ => (opS cx tm s o).lift

section
variable {cx : Cx} {ρ : Env} {β : Bt} {s s' : St} {w : World} {tm : List SV} {a : Act} {o : Oper} {r : SV} {cf : CFT} {ex : XF}

theorem callST_ok (hcx : CxOk cx) (hcf : CallOkT cx cf) (hex : XOk cx ex) (hρ : EnvOk cx ρ) (hs : Sat ρ β s w) {f : FuncId} {args : List SV} (h : (callST cx cf ex f args s).sel ρ = some (r, s'))
    (hrun : (execOp a.eval o).run cx.P w = (callFunc f (SV.denL ρ β args).toArray).run cx.P w) (hch : chg o.op = true) : OpGood cx.P o a w (Post cx ρ β s s' w o r) := by
  unfold callST at h
  split at h
  · rename_i v hv
    cases h
    have := hex ρ β w f args _ hρ hv
    exact (Res.good (.inl (hrun.trans this))) ⟨β, rfl, hs, Ext.refl _ _ _, fun h' => Bool.noConfusion (hch.symm.trans h')⟩
  · split at h
    · rename_i hb
      unfold hasBody at hb
      split at hb
      · rename_i fn hfn
        intro K Q hk
        unfold Oper.wp
        rw [hrun]
        have hcall : (callFunc f (SV.denL ρ β args).toArray).run cx.P w = .ok (.enter f (SV.denL ρ β args).toArray) w := by
          have hfn := cx.fnOk _ _ hfn
          have hn := hcx.nogo f fn hfn
          obtain ⟨bd, hbd⟩ := Option.isSome_iff_exists.1 hb
          simp only [callFunc, Sem.run_bind, run_program, Result.andThen_ok, hfn, hn, hbd]
          simp
        rw [hcall, Oper.upon_enter]
        refine (hcf ρ β s s' w f args r hρ hs h).mono ?_
        rintro e w' ⟨β', rfl, h1, h2⟩
        exact hk _ _ ⟨β', rfl, h1, h2, fun h' => Bool.noConfusion (hch.symm.trans h')⟩
      · cases hb
    · cases h

theorem opCT_ok (hcx : CxOk cx) (hcf : CallOkT cx cf) (hex : XOk cx ex) (hρ : EnvOk cx ρ) (ht : a.tmps = (SV.denL ρ β tm).toArray) (hs : Sat ρ β s w) (h : (opCT cx cf ex tm s o).sel ρ = some (r, s')) :
    OpGood cx.P o a w (Post cx ρ β s s' w o r) := by
  unfold opCT at h
  split at h
  · rename_i c hc
    split at h
    · rename_i f hf
      split at h
      · rename_i fid first cap hv
        refine callST_ok hcx hcf hex hρ hs h ?_ (by rw [hc]; rfl)
        obtain ⟨callee, args, ats⟩ := c
        simp only at hf
        subst hf
        simp only [execOp, hc, resolve, evO_den ht f, hv, SV.den, Deferred.ofValue, Sem.run_bind, Sem.run_pure, Result.andThen_ok, invoke, ops_map tm ht]
        congr 2
        apply Array.ext'
        simp
      · cases h
    · rename_i x name hf
      split at h
      · rename_i t v hv
        split at h
        · rename_i fid rv hm
          refine callST_ok hcx hcf hex hρ hs h ?_ (by rw [hc]; rfl)
          obtain ⟨callee, args, ats⟩ := c
          simp only at hf
          subst hf
          have hmm := methodS_ok hm ρ β w (cx.P.types.size + Made.depth - 1)
          have hdep : 0 < Made.depth := by decide
          rw [show cx.P.types.size + Made.depth - 1 + 1 = cx.P.types.size + Made.depth from by omega] at hmm
          simp only [execOp, hc, resolve, evO_den ht x, hv, SV.den, Sem.run_bind, Sem.run_pure, Result.andThen_ok, invoke, ops_map tm ht]
          simp only [callMethod, Array.getElem?_append, List.size_toArray, List.length_cons, List.length_nil]
          simp only [Nat.zero_add, Nat.zero_lt_one, if_true, List.getElem?_toArray, List.getElem?_cons_zero, Sem.run_bind, run_program, Result.andThen_ok, hmm]
          congr 2
          apply Array.ext'
          simp [SV.denL]
          rw [List.take_of_length_le (by simp)]
        · cases h
      · cases h
    · rw [T.lift_sel] at h
      exact (opS_ok hρ ht hs h).good
  · rw [T.lift_sel] at h
    exact (opS_ok hρ ht hs h).good

end

/-! ### regions in the text's order -/

abbrev RRT := TT (List SV × St)

def runOpsT (cx : Cx) (cf : CFT) (ex : XF) (ops : Array Oper) : List Oper → List SV → St → RRT
  | [], tm, s => .leaf (tm, s)
  | o :: rest, tm, s =>
    let go (s : St) : RRT := (opCT cx cf ex tm s o).bind fun r =>
      if !chg o.op || SV.scL s.bl.length tm then runOpsT cx cf ex ops rest (putS tm o.dst r.1) r.2 else .bad 40
    let pass (s : St) : RRT := runOpsT cx cf ex ops rest (putS tm o.dst undefS) s
    match wantS ops tm o with
    | .yes => go s
    | .no => pass s
    | .on e want => if want then forkT s e go pass else forkT s e pass go
    | .unk => .bad 41

section
variable {cx : Cx} {ρ : Env} {cf : CFT} {ex : XF}

theorem runOpsT_ok (hcx : CxOk cx) (hcf : CallOkT cx cf) (hex : XOk cx ex) (hρ : EnvOk cx ρ) (ops : Array Oper) : ∀ (l : List Oper) {tm tm' : List SV} {s s' : St} {β : Bt} {w : World} {a : Act} {Q : Exit → Act → World → Prop},
    a.tmps = (SV.denL ρ β tm).toArray → Sat ρ β s w → (runOpsT cx cf ex ops l tm s).sel ρ = some (tm', s') →
    (∀ a' w', Beh ρ β s w a.defers tm' s' a' w' → Q .normal a' w') → wpList cx.P ops Q l a w
  | [], tm, tm', s, s', β, w, a, Q, ht, hs, h, hQ => by
    cases h
    exact hQ _ _ ⟨β, ht, rfl, hs, Ext.refl _ _ _⟩
  | o :: rest, tm, tm', s, s', β, w, a, Q, ht, hs, h, hQ => by
    have ih := fun {tm s β w a Q} => runOpsT_ok hcx hcf hex hρ ops rest (tm := tm) (tm' := tm') (s := s) (s' := s') (β := β) (w := w) (a := a) (Q := Q)
    have hw := wantS_ok (ops := ops) (o := o) ht
    have go : ∀ s1, s1.bl = s.bl → Sat ρ β s1 w → Region.wanted o (yielded ops a.tmps) = true →
        ((opCT cx cf ex tm s1 o).bind fun r => if !chg o.op || SV.scL s1.bl.length tm then runOpsT cx cf ex ops rest (putS tm o.dst r.1) r.2 else .bad 40).sel ρ = some (tm', s') → wpList cx.P ops Q (o :: rest) a w := by
      intro s1 e1 hs1 hwant h
      obtain ⟨⟨r, s2⟩, h1, h2⟩ := TT.sel_bind_some h
      simp only [wpList, hwant, if_true]
      refine .inl (opCT_ok hcx hcf hex hρ ht hs1 h1 _ _ ?_)
      rintro V w' ⟨β', rfl, hs2, hx2, hch⟩
      split at h2
      · rename_i hc
        have htm : (SV.denL ρ β tm) = SV.denL ρ β' tm := by
          simp only [Bool.or_eq_true, Bool.not_eq_true'] at hc
          rcases hc with hc | hc
          · rw [hch hc]
          · exact (SV.denL_sc hx2.ag tm hc).symm
        rw [htm] at ht
        refine ih (putS_den ht _ _) hs2 h2 fun a' w'' hb => hQ a' w'' ?_
        rw [put_defers] at hb
        exact hb.of ((ext_kn e1 β w).trans hx2)
      · cases h2
    have pass : ∀ s1, s1.bl = s.bl → Sat ρ β s1 w → Region.wanted o (yielded ops a.tmps) = false →
        (runOpsT cx cf ex ops rest (putS tm o.dst undefS) s1).sel ρ = some (tm', s') → wpList cx.P ops Q (o :: rest) a w := by
      intro s1 e1 hs1 hwant h
      simp only [wpList, hwant, Bool.false_eq_true, if_false]
      refine ih (putS_den ht o.dst undefS) hs1 h fun a' w'' hb => hQ a' w'' ?_
      rw [put_defers] at hb
      exact hb.of (ext_kn e1 β w)
    simp only [runOpsT] at h
    cases hwd : wantS ops tm o with
    | yes => rw [hwd] at h hw; exact go s rfl hs hw h
    | no => rw [hwd] at h hw; exact pass s rfl hs hw h
    | unk => rw [hwd] at h; cases h
    | on e want =>
      rw [hwd] at h hw
      simp only at h hw
      cases want
      · simp only [Bool.false_eq_true, if_false] at h
        obtain ⟨s1, e1, hs1, ⟨hne, h⟩ | ⟨h0, h⟩⟩ := forkT_ok hs h
        · exact pass s1 e1 hs1 (by rw [hw]; simpa using hne) h
        · exact go s1 e1 hs1 (by rw [hw]; simpa using h0) h
      · simp only [if_true] at h
        obtain ⟨s1, e1, hs1, ⟨hne, h⟩ | ⟨h0, h⟩⟩ := forkT_ok hs h
        · exact go s1 e1 hs1 (by rw [hw]; simpa using hne) h
        · exact pass s1 e1 hs1 (by rw [hw]; simpa using h0) h

end

/-! ### loops -/

abbrev RCT := TT (Ex × List SV × St)

def loopU (body : List SV → St → RCT) : Nat → List SV → St → RCT
  | 0, _, _ => .bad 70
  | n + 1, tm, s => (body tm s).bind fun r => match r.1 with
    | .normal => loopU body n r.2.1 r.2.2
    | e => .leaf (e, r.2)

/-- what must hold of the numbers that come to a head -/
def bdOb (cx : Cx) : List (Option (Int × Int)) → List E → List E
  | some p :: l, e :: m => if ivIn (e.iv cx) p.1 p.2 then bdOb cx l m else leE cx (.c p.1) e :: leE cx e (.c p.2) :: bdOb cx l m
  | none :: l, _ :: m => bdOb cx l m
  | _, _ => []
theorem bdOb_ok {cx : Cx} {ρ : Env} (hρ : EnvOk cx ρ) : ∀ {l : List (Option (Int × Int))} {m : List E}, l.length = m.length → (∀ c ∈ bdOb cx l m, c.ev ρ ≠ 0) → inBd l (m.map (E.ev ρ))
  | [], [], _, _ => trivial
  | none :: l, e :: m, hl, h => ⟨trivial, bdOb_ok hρ (by simpa using hl) h⟩
  | some p :: l, e :: m, hl, h => by
    simp only [bdOb] at h
    split at h
    · rename_i hi
      exact ⟨ivIn_ok hi (E.iv_ok hρ e), bdOb_ok hρ (by simpa using hl) h⟩
    · have h1 := leE_ne hρ (h _ List.mem_cons_self)
      have h2 := leE_ne hρ (h _ (List.mem_cons_of_mem _ List.mem_cons_self))
      exact ⟨⟨h1, h2⟩, bdOb_ok hρ (by simpa using hl) fun c hc => h c (List.mem_cons_of_mem _ (List.mem_cons_of_mem _ hc))⟩
  | [], _ :: _, hl, _ => by simp at hl
  | none :: _, [], hl, _ => by simp at hl
  | some _ :: _, [], hl, _ => by simp at hl

def obTB : List E → TB → TB
  | [], t => t
  | .c n :: l, t => if n ≠ 0 then obTB l t else .bad 303
  | e :: l, t => .br e (obTB l t) (.bad 303)
theorem obTB_sel {ρ : Env} : ∀ {l : List E} {t : TB} {r : List Int ⊕ Nat}, (obTB l t).sel ρ = some r → t.sel ρ = some r ∧ ∀ c ∈ l, c.ev ρ ≠ 0
  | [], t, r, h => ⟨h, fun c hc => by cases hc⟩
  | e :: l, t, r, h => by
    have key : (∀ n, e = .c n → n ≠ 0 ∧ (obTB l t).sel ρ = some r) ∧ ((∀ n, e ≠ .c n) → e.ev ρ ≠ 0 ∧ (obTB l t).sel ρ = some r) := by
      constructor
      · rintro n rfl
        simp only [obTB] at h
        split at h
        · exact ⟨by assumption, h⟩
        · cases h
      · intro hn
        have : obTB (e :: l) t = .br e (obTB l t) (.bad 303) := by
          cases e <;> first | rfl | exact absurd rfl (hn _)
        rw [this] at h
        simp only [TB.sel] at h
        split at h
        · exact ⟨by assumption, h⟩
        · cases h
    by_cases hc : ∃ n, e = .c n
    · obtain ⟨n, rfl⟩ := hc
      obtain ⟨h1, h2⟩ := key.1 n rfl
      obtain ⟨h3, h4⟩ := obTB_sel h2
      refine ⟨h3, fun c hc => ?_⟩
      rcases List.mem_cons.1 hc with rfl | hc
      · exact h1
      · exact h4 c hc
    · obtain ⟨h1, h2⟩ := key.2 fun n hn => hc ⟨n, hn⟩
      obtain ⟨h3, h4⟩ := obTB_sel h2
      refine ⟨h3, fun c hc => ?_⟩
      rcases List.mem_cons.1 hc with rfl | hc
      · exact h1
      · exact h4 c hc

structure LC where
  cx : Cx
  base : Nat
  n0 : Nat
  hd : Hd

def LC.ab (c : LC) (tm : List SV) (s : St) : Ab := abOf c.base c.hd (unify c.cx c.base c.n0 c.hd tm s)
def LC.chk (c : LC) (a : Ab) (tm : List SV) (s : St) : Bool := a.check c.cx c.n0 c.hd.tm c.hd.bl tm s && Nat.beq a.bds.length a.es.length

/-- a round's tree: back to the head, or a way out -/
def LC.conv (c : LC) : Nat → RCT → TB × List (Ex × List SV × St)
  | k, .leaf (.normal, tm, s) => let a := c.ab tm s; (if c.chk a tm s then obTB (bdOb c.cx a.bds a.es) (.back a.es) else .bad 302, [])
  | k, .leaf r => (.exit k, [r])
  | k, .br e t f => let x := c.conv k t; let y := c.conv (k + x.2.length) f; (.br e x.1 y.1, x.2 ++ y.2)
  | _, .bad n => (.bad n, [])
  | k, .new i e t => let x := c.conv k t; (.new i e x.1, x.2)
  | k, .loop L b r => let x := c.conv k r; (.loop L b x.1, x.2)

def exTree (x : Nat) : Nat → List (Ex × List SV × St) → RCT
  | _, [] => .bad 304
  | _, [r] => .leaf r
  | i, r :: l => .br (.b .eq .i64 (.v x) (.c i)) (.leaf r) (exTree x (i + 1) l)

def mark (i : Nat) (s : St) : St := { s with kn := (.b .eq .i64 (.cl i 0 0) (.cl i 0 0), true) :: s.kn }

/-- a loop, told by a head -/
def loopT (cx : Cx) (mk0 : Option Marks) (body : List SV → St → RCT) (tm : List SV) (s : St) : RCT :=
  let base := nextN s.kn
  let mk := match mk0 with
    | some mk => mk
    | none => inferL cx body base tm s 8 false []
  let hd := mkHead mk base tm s
  let c : LC := ⟨cx, base, s.bl.length, hd⟩
  let a0 := c.ab tm s
  let t := body hd.tm (mark (base + hd.bds.length) { s with bl := hd.bl })
  let x := TT.top t (base + hd.bds.length) + 1
  let r := c.conv 0 t
  if c.chk a0 tm s && cx.okB base && knVb base s.kn then
    (bdOb cx a0.bds a0.es).foldr (fun e t => match e with
      | .c n => if n ≠ 0 then t else .bad 305
      | e => .br e t (.bad 305)) (.loop ⟨base, hd.bds, a0.es, x⟩ r.1 (exTree x 0 (r.2.map fun q => (q.1, q.2.1, mark (x + 1) q.2.2))))
  else .bad 301

section
variable {cx : Cx} {ρ : Env}

def CodeOkT (cx : Cx) (body : List SV → St → RCT) (c : Code) : Prop :=
  ∀ (ρ : Env) (tm tm' : List SV) (s s' : St) (x : Ex) (β : Bt) (w : World) (a : Act) (Q : Exit → Act → World → Prop), EnvOk cx ρ →
    a.tmps = (SV.denL ρ β tm).toArray → Sat ρ β s w → (body tm s).sel ρ = some (x, tm', s') →
    (∀ a' w', Beh ρ β s w a.defers tm' s' a' w' → Q x.to a' w') → c.wp cx.P Q a w

theorem loopU_ok {body : List SV → St → RCT} {c : Code} (hb : CodeOkT cx body c) (hρ : EnvOk cx ρ) : ∀ (n : Nat) {tm tm' : List SV} {s s' : St} {x : Ex} {β : Bt} {w : World} {a : Act} {Q : Exit → Act → World → Prop},
    a.tmps = (SV.denL ρ β tm).toArray → Sat ρ β s w → (loopU body n tm s).sel ρ = some (x, tm', s') →
    (∀ a' w', Beh ρ β s w a.defers tm' s' a' w' → Q x.to a' w') → Code.rounds cx.P c Q n a w
  | 0, tm, tm', s, s', x, β, w, a, Q, ht, hs, h, hQ => by cases h
  | n + 1, tm, tm', s, s', x, β, w, a, Q, ht, hs, h, hQ => by
    simp only [loopU] at h
    obtain ⟨⟨x1, tm1, s1⟩, h1, h2⟩ := TT.sel_bind_some h
    rw [rounds_succ]
    refine hb _ _ _ _ _ _ _ _ _ _ hρ ht hs h1 ?_
    rintro a' w' ⟨β', ht', hd', hs', hx'⟩
    cases x1 with
    | normal =>
      refine loopU_ok hb hρ n ht' hs' h2 fun a2 w2 hb2 => hQ a2 w2 ?_
      rw [hd'] at hb2
      exact hb2.of hx'
    | exit id => cases h2; exact hQ _ _ ⟨β', ht', hd', hs', hx'⟩
    | ret => cases h2; exact hQ _ _ ⟨β', ht', hd', hs', hx'⟩

theorem conv_out {c : LC} : ∀ {t : RCT} {k n : Nat}, (c.conv k t).1.sel ρ = some (.inr n) → k ≤ n ∧ ∃ r, (c.conv k t).2[n - k]? = some r ∧ t.sel ρ = some r ∧ r.1 ≠ .normal
  | .leaf (.normal, tm, s), k, n, h => by
    simp only [LC.conv] at h
    split at h
    · obtain ⟨h1, _⟩ := obTB_sel h
      cases h1
    · cases h
  | .leaf (.exit i, r), k, n, h => by
    simp only [LC.conv, TB.sel, Option.some.injEq, Sum.inr.injEq] at h
    subst h
    exact ⟨Nat.le_refl _, _, by simp [LC.conv], rfl, by simp⟩
  | .leaf (.ret, r), k, n, h => by
    simp only [LC.conv, TB.sel, Option.some.injEq, Sum.inr.injEq] at h
    subst h
    exact ⟨Nat.le_refl _, _, by simp [LC.conv], rfl, by simp⟩
  | .br e t f, k, n, h => by
    simp only [LC.conv, TB.sel] at h
    split at h
    · rename_i hc
      obtain ⟨h1, r, h2, h3, h4⟩ := conv_out h
      refine ⟨h1, r, ?_, by simp only [TT.sel]; rw [if_pos hc]; exact h3, h4⟩
      simp only [LC.conv]
      rw [List.getElem?_append_left ((List.getElem?_eq_some_iff.1 h2).1)]
      exact h2
    · rename_i hc
      obtain ⟨h1, r, h2, h3, h4⟩ := conv_out h
      refine ⟨by omega, r, ?_, by simp only [TT.sel]; rw [if_neg hc]; exact h3, h4⟩
      simp only [LC.conv]
      rw [List.getElem?_append_right (by omega), show n - k - (c.conv k t).2.length = n - (k + (c.conv k t).2.length) by omega]
      exact h2
  | .bad m, k, n, h => by cases h
  | .new i e t, k, n, h => by
    simp only [LC.conv, TB.sel] at h
    split at h
    · rename_i hc
      obtain ⟨h1, r, h2, h3, h4⟩ := conv_out h
      exact ⟨h1, r, h2, by simp only [TT.sel]; rw [if_pos hc]; exact h3, h4⟩
    · cases h
  | .loop L b t, k, n, h => by
    simp only [LC.conv, TB.sel] at h
    split at h
    · rename_i hc
      obtain ⟨h1, r, h2, h3, h4⟩ := conv_out h
      exact ⟨h1, r, h2, by simp only [TT.sel]; rw [if_pos hc]; exact h3, h4⟩
    · cases h

theorem conv_back {c : LC} (hρ : EnvOk c.cx ρ) : ∀ {t : RCT} {k : Nat} {σ : List Int}, (c.conv k t).1.sel ρ = some (.inl σ) → ∃ tm s, t.sel ρ = some (.normal, tm, s) ∧ c.chk (c.ab tm s) tm s = true ∧ σ = (c.ab tm s).es.map (E.ev ρ) ∧ inBd (c.ab tm s).bds σ
  | .leaf (.normal, tm, s), k, σ, h => by
    simp only [LC.conv] at h
    split at h
    · rename_i hc
      obtain ⟨h1, h2⟩ := obTB_sel h
      simp only [TB.sel, Option.some.injEq, Sum.inl.injEq] at h1
      refine ⟨tm, s, rfl, hc, h1.symm, ?_⟩
      rw [← h1]
      simp only [LC.chk, Bool.and_eq_true] at hc
      exact bdOb_ok hρ (Nat.eq_of_beq_eq_true hc.2) h2
    · cases h
  | .leaf (.exit i, r), k, n, h => by simp [LC.conv, TB.sel] at h
  | .leaf (.ret, r), k, n, h => by simp [LC.conv, TB.sel] at h
  | .br e t f, k, n, h => by
    simp only [LC.conv, TB.sel] at h
    split at h
    · rename_i hc
      obtain ⟨tm, s, h1, h2⟩ := conv_back hρ h
      exact ⟨tm, s, by simp only [TT.sel]; rw [if_pos hc]; exact h1, h2⟩
    · rename_i hc
      obtain ⟨tm, s, h1, h2⟩ := conv_back hρ h
      exact ⟨tm, s, by simp only [TT.sel]; rw [if_neg hc]; exact h1, h2⟩
  | .bad m, k, n, h => by cases h
  | .new i e t, k, n, h => by
    simp only [LC.conv, TB.sel] at h
    split at h
    · rename_i hc
      obtain ⟨tm, s, h1, h2⟩ := conv_back hρ h
      exact ⟨tm, s, by simp only [TT.sel]; rw [if_pos hc]; exact h1, h2⟩
    · cases h
  | .loop L b t, k, n, h => by
    simp only [LC.conv, TB.sel] at h
    split at h
    · rename_i hc
      obtain ⟨tm, s, h1, h2⟩ := conv_back hρ h
      exact ⟨tm, s, by simp only [TT.sel]; rw [if_pos hc]; exact h1, h2⟩
    · cases h

theorem exTree_sel {x : Nat} : ∀ {l : List (Ex × List SV × St)} {i k : Nat} {r q : Ex × List SV × St}, l[k]? = some q → ρ.i x = ((i + k : Nat) : Int) → (exTree x i l).sel ρ = some r → r = q
  | [], i, k, r, q, hk, _, _ => by simp at hk
  | [p], i, 0, r, q, hk, _, h => by
    simp at hk; subst hk
    simp only [exTree, TT.sel, Option.some.injEq] at h
    exact h.symm
  | [p], i, k + 1, r, q, hk, _, _ => by simp at hk
  | p :: p2 :: l, i, 0, r, q, hk, hx, h => by
    simp at hk; subst hk
    simp only [exTree, TT.sel, E.ev, BO.ev, hx, bool01] at h
    simp at h
    exact h.symm
  | p :: p2 :: l, i, k + 1, r, q, hk, hx, h => by
    simp only [exTree, TT.sel, E.ev, BO.ev, hx, bool01] at h
    have hne : ((((i + (k + 1) : Nat) : Int)) == (i : Int)) = false := by simp; omega
    rw [hne] at h
    simp only [Bool.false_eq_true, if_false, ne_eq, not_true_eq_false] at h
    exact exTree_sel (l := p2 :: l) (i := i + 1) (k := k) (by simpa using hk) (by rw [hx]; congr 1; omega) h

theorem foldr_sel {t : RCT} {r : Ex × List SV × St} : ∀ {l : List E}, (l.foldr (fun e t => match e with
      | .c n => if n ≠ 0 then t else .bad 305
      | e => .br e t (.bad 305)) t).sel ρ = some r → t.sel ρ = some r ∧ ∀ c ∈ l, c.ev ρ ≠ 0
  | [], h => ⟨h, fun c hc => by cases hc⟩
  | e :: l, h => by
    simp only [List.foldr_cons] at h
    split at h
    · rename_i n
      split at h
      · rename_i hn
        obtain ⟨h1, h2⟩ := foldr_sel h
        refine ⟨h1, fun c hc => ?_⟩
        rcases List.mem_cons.1 hc with rfl | hc
        · exact hn
        · exact h2 c hc
      · cases h
    · simp only [TT.sel] at h
      split at h
      · rename_i hn
        obtain ⟨h1, h2⟩ := foldr_sel h
        refine ⟨h1, fun c hc => ?_⟩
        rcases List.mem_cons.1 hc with rfl | hc
        · exact hn
        · exact h2 c hc
      · cases h

theorem mark_kn {ρ : Env} {i : Nat} {s : St} (h : ∀ e b, (e, b) ∈ s.kn → (e.ev ρ != 0) = b) : ∀ e b, (e, b) ∈ (mark i s).kn → (e.ev ρ != 0) = b := by
  intro e b hm
  rcases List.mem_cons.1 hm with hm | hm
  · cases hm
    simp [E.ev, BO.ev, bool01]
  · exact h e b hm

theorem loopT_ok {mk0 : Option Marks} {body : List SV → St → RCT} {c : Code} (hb : CodeOkT cx body c) (hρ : EnvOk cx ρ) {tm tm' : List SV} {s s' : St} {x : Ex} {β : Bt} {w : World} {a : Act} {Q : Exit → Act → World → Prop}
    (ht : a.tmps = (SV.denL ρ β tm).toArray) (hs : Sat ρ β s w) (h : (loopT cx mk0 body tm s).sel ρ = some (x, tm', s'))
    (hQ : ∀ a' w', Beh ρ β s w a.defers tm' s' a' w' → Q x.to a' w') : (Code.loop c).wp cx.P Q a w := by
  unfold loopT at h
  simp only at h
  generalize hmk : (match mk0 with
    | some mk => mk
    | none => inferL cx body (nextN s.kn) tm s 8 false []) = mk at h
  generalize hhd : mkHead mk (nextN s.kn) tm s = hd at h
  generalize hbase : nextN s.kn = base at h hhd
  split at h
  case isFalse => cases h
  rename_i hc
  simp only [Bool.and_eq_true] at hc
  obtain ⟨⟨hchk, hok⟩, hkn⟩ := hc
  obtain ⟨h, hbd⟩ := foldr_sel h
  have hlc : ∀ tm s', (LC.mk cx base s.bl.length hd).ab tm s' = abOf base hd (unify cx base s.bl.length hd tm s') := fun _ _ => rfl
  have hab : ∀ tm s', ((LC.mk cx base s.bl.length hd).ab tm s').base = base ∧ ((LC.mk cx base s.bl.length hd).ab tm s').bds = hd.bds := fun _ _ => ⟨rfl, rfl⟩
  have hchk0 := hchk
  simp only [LC.chk, Bool.and_eq_true] at hchk
  have hin0 := bdOb_ok hρ (Nat.eq_of_beq_eq_true hchk.2) hbd
  -- the head's state
  generalize hsH : mark (base + hd.bds.length) { s with bl := hd.bl } = sH at h
  have hsHbl : sH.bl = hd.bl := by rw [← hsH]; rfl
  have hkH : ∀ ρ', Agn base ρ ρ' → ∀ e b, (e, b) ∈ sH.kn → (e.ev ρ' != 0) = b := by
    intro ρ' hag
    rw [← hsH]
    refine mark_kn fun e b hm => ?_
    have := List.all_eq_true.1 hkn _ hm
    rw [E.vb_ev hag e this]
    exact hs.kn e b hm
  simp only [TT.sel] at h
  split at h
  case isFalse => cases h
  rename_i hch
  generalize hL : (Lp.mk base hd.bds ((LC.mk cx base s.bl.length hd).ab tm s).es (TT.top (body hd.tm sH) (base + hd.bds.length) + 1)) = L at h hch
  have hLv : ∀ ρ', L.vals ρ' = (List.range hd.bds.length).map (fun k => ρ'.i (base + k)) := by intro ρ'; rw [← hL]; rfl
  have hLb : L.bds = hd.bds := by rw [← hL]
  have hLB : L.base = base := by rw [← hL]
  -- what is kept from round to round
  let Inv : List Int → Act → World → Prop := fun σ a' w' => a'.defers = a.defers ∧ ∃ βH, Ext s sH β βH w w' ∧ ∀ ρ', Agn base ρ ρ' → L.vals ρ' = σ → a'.tmps = (SV.denL ρ' βH hd.tm).toArray ∧ Sat ρ' βH sH w'
  have hback : ∀ (ρ1 : Env), EnvOk cx ρ1 → Agn base ρ ρ1 → ∀ (tm1 : List SV) (s1 : St) (β1 : Bt) (w1 : World) (a1 : Act), (LC.mk cx base s.bl.length hd).chk ((LC.mk cx base s.bl.length hd).ab tm1 s1) tm1 s1 = true →
      inBd hd.bds (((LC.mk cx base s.bl.length hd).ab tm1 s1).es.map (E.ev ρ1)) → a1.tmps = (SV.denL ρ1 β1 tm1).toArray → a1.defers = a.defers → Sat ρ1 β1 s1 w1 → Ext s s1 β β1 w w1 →
      Inv (((LC.mk cx base s.bl.length hd).ab tm1 s1).es.map (E.ev ρ1)) a1 w1 := by
    intro ρ1 hρ1 hag1 tm1 s1 β1 w1 a1 hck hin ht1 hd1 hs1 hx1
    simp only [LC.chk, Bool.and_eq_true] at hck
    have hck2 : ((LC.mk cx base s.bl.length hd).ab tm1 s1).check cx s.bl.length hd.tm sH.bl tm1 s1 = true := by rw [hsHbl]; exact hck.1
    obtain ⟨k1, k2⟩ := check_ok hρ1 hck2 hs1 hx1 hin
    refine ⟨hd1, _, k1, fun ρ' hag hv => ?_⟩
    have hag2 : Agn base ρ1 ρ' := hag1.symm.trans hag
    obtain ⟨k3, k4⟩ := k2 ρ' hag2 ((hLv ρ').symm.trans hv) (hkH ρ' hag)
    exact ⟨by rw [ht1, ← k3], k4⟩
  have hinit : Inv (L.init.map (E.ev ρ)) a w := by
    rw [← hL]
    exact hback ρ hρ (Agn.refl _ _) tm s β w a hchk0 hin0 ht rfl hs (Ext.refl _ _ _)
  have key : ∀ σ, Chain (fun ρ' => ((LC.mk cx base s.bl.length hd).conv 0 (body hd.tm sH)).1.sel ρ') L ρ σ → ∃ n, ∀ a' w', Inv σ a' w' → Code.rounds cx.P c Q n a' w' := by
    intro σ hch
    induction hch with
    | @last n hsel hxid =>
      refine ⟨1, fun a' w' hinv => ?_⟩
      obtain ⟨hd', βH, hxH, hH⟩ := hinv
      obtain ⟨ht', hs'⟩ := hH ρ (Agn.refl _ _) rfl
      obtain ⟨_, q, hq1, hq2, hq3⟩ := conv_out hsel
      rw [Nat.sub_zero] at hq1
      have hr := exTree_sel (x := TT.top (body hd.tm sH) (base + hd.bds.length) + 1) (i := 0) (k := n) (q := (q.1, q.2.1, mark (TT.top (body hd.tm sH) (base + hd.bds.length) + 1 + 1) q.2.2)) (by rw [List.getElem?_map, hq1]; rfl) (by
        rw [Nat.zero_add, ← hxid, ← hL]) h
      cases hr
      rw [rounds_succ]
      refine hb ρ _ _ _ _ _ _ _ _ _ hρ ht' hs' hq2 ?_
      rintro a2 w2 ⟨β2, ht2, hd2, hs2, hx2⟩
      have hbeh : Beh ρ β s w a.defers q.2.1 (mark (TT.top (body hd.tm sH) (base + hd.bds.length) + 1 + 1) q.2.2) a2 w2 := by
        refine ⟨β2, ht2, hd2.trans hd', ⟨hs2.blk, hs2.inj, mark_kn hs2.kn, hs2.ro⟩, ?_⟩
        exact (hxH.trans hx2).trans (ext_kn (s := q.2.2) (s1 := mark (TT.top (body hd.tm sH) (base + hd.bds.length) + 1 + 1) q.2.2) rfl β2 w2)
      have := hQ a2 w2 hbeh
      obtain ⟨qx, qr⟩ := q
      cases qx with
      | normal => exact absurd rfl hq3
      | exit id => exact this
      | ret => exact this
    | @step σ' ρ' hag hsel _ ih =>
      obtain ⟨n, ih⟩ := ih
      refine ⟨n + 1, fun a' w' hinv => ?_⟩
      obtain ⟨hd', βH, hxH, hH⟩ := hinv
      rw [hLB] at hag
      have hρ' : EnvOk cx ρ' := EnvOk.agn hok hρ hag
      obtain ⟨ht', hs'⟩ := hH ρ' hag rfl
      obtain ⟨tm1, s1, h1, h2, h3, h4⟩ := conv_back (c := LC.mk cx base s.bl.length hd) hρ' hsel
      rw [rounds_succ]
      refine hb ρ' _ _ _ _ _ _ _ _ _ hρ' ht' hs' h1 ?_
      rintro a2 w2 ⟨β2, ht2, hd2, hs2, hx2⟩
      refine ih a2 w2 ?_
      rw [h3]
      refine hback ρ' hρ' hag tm1 s1 β2 w2 a2 h2 ?_ ht2 (hd2.trans hd') hs2 (hxH.trans hx2)
      rw [← h3]; exact h4
  have hch' : Chain (fun ρ' => ((LC.mk cx base s.bl.length hd).conv 0 (body hd.tm sH)).1.sel ρ') L ρ (L.init.map (E.ev ρ)) := by
    rw [← hL] at hch ⊢
    exact hch
  obtain ⟨n, hn⟩ := key _ hch'
  exact wp_loop_rounds n (hn a w hinit)

end

end Go.Eng
end

/-! A symbolic executor, part TE: code and functions with loops. -/
section
set_option linter.unusedVariables false
set_option linter.unusedSimpArgs false
set_option linter.unusedSectionVars false
namespace Go.Eng

inductive How where
  | auto
  | unroll (n : Nat)
  | tmpl (mk : Option Marks)

/-- round by round, as long as each round goes one way -/
def seqU (body : List SV → St → RCT) : Nat → List SV → St → Option (Ex × List SV × St)
  | 0, _, _ => none
  | n + 1, tm, s => match body tm s with
    | .leaf (.normal, tm', s') => seqU body n tm' s'
    | .leaf r => some r
    | _ => none

theorem seqU_ok {body : List SV → St → RCT} : ∀ {n : Nat} {tm : List SV} {s : St} {r : Ex × List SV × St}, seqU body n tm s = some r → loopU body n tm s = .leaf r
  | 0, _, _, _, h => by cases h
  | n + 1, tm, s, r, h => by
    simp only [seqU] at h
    split at h
    · rename_i tm' s' hb
      simp only [loopU, hb, TT.bind]
      exact seqU_ok h
    · rename_i q hq hb
      cases h
      simp only [loopU, hb, TT.bind]
      obtain ⟨x, tm', s'⟩ := r
      cases x with
      | normal => exact absurd rfl (hq tm' s')
      | exit _ => rfl
      | ret => rfl
    · cases h

def loopH (cx : Cx) (h : How) (m : Nat) (body : List SV → St → RCT) (tm : List SV) (s : St) : RCT :=
  match h with
  | .unroll n => loopU body n tm s
  | .tmpl mk => loopT cx mk body tm s
  | .auto => match seqU body m tm s with
    | some r => .leaf r
    | none => loopT cx none body tm s

/-- a loop's name: the first region of its body -/
def firstReg : Code → Option Nat
  | .region id _ _ => some id
  | .seq x y => match firstReg x with
    | some i => some i
    | none => firstReg y
  | .cond _ x y => match firstReg x with
    | some i => some i
    | none => firstReg y
  | .block _ c => firstReg c
  | .scope c => firstReg c
  | .loop c => firstReg c
  | .rangeFunc _ _ x y => match firstReg x with
    | some i => some i
    | none => firstReg y
  | _ => none

structure XP where
  cx : Cx
  cf : CF
  cfT : CFT
  ex : XF
  m : Nat

def execT (X : XP) (rt : RT) (lh : Nat → How) : Code → List SV → St → RCT
  | .skip, tm, s => .leaf (.normal, tm, s)
  | .label _, tm, s => .leaf (.normal, tm, s)
  | .exit id, tm, s => .leaf (.exit id, tm, s)
  | .ret, tm, s => .leaf (.ret, tm, s)
  | .region _ ops false, tm, s => (runOpsT X.cx X.cfT X.ex ops ops.toList tm s).bind fun r => .leaf (.normal, r)
  | .region id ops true, tm, s => (drawS X.cx X.cf X.ex rt id ops tm s).lift.bind fun r => .leaf (.normal, r)
  | .seq x y, tm, s => (execT X rt lh x tm s).bind fun r => match r.1 with
    | .normal => execT X rt lh y r.2.1 r.2.2
    | e => .leaf (e, r.2)
  | .cond c x y, tm, s => match evO tm c with
    | .bool e => forkT s e (fun s => execT X rt lh x tm s) (fun s => execT X rt lh y tm s)
    | _ => .bad 71
  | .block id c, tm, s => (execT X rt lh c tm s).bind fun r => match r.1 with
    | .exit id' => if id' = id then .leaf (.normal, r.2) else .leaf (.exit id', r.2)
    | e => .leaf (e, r.2)
  | .scope c, tm, s => execT X rt lh c tm s
  | .loop c, tm, s => loopH X.cx (match firstReg c with
    | some i => lh i
    | none => .auto) X.m (execT X rt lh c) tm s
  | .rangeFunc _ _ _ _, _, _ => .bad 72
  | .goto _, _, _ => .bad 73
  | .refuse _, _, _ => .bad 74

structure XOk2 (X : XP) : Prop where
  hcx : CxOk X.cx
  hcf : CallOk X.cx X.cf
  hcfT : CallOkT X.cx X.cfT
  hex : XOk X.cx X.ex

theorem loopH_ok {cx : Cx} {ρ : Env} {h0 : How} {m : Nat} {body : List SV → St → RCT} {c : Code} (hb : CodeOkT cx body c) (hρ : EnvOk cx ρ) {tm tm' : List SV} {s s' : St} {x : Ex} {β : Bt} {w : World} {a : Act} {Q : Exit → Act → World → Prop}
    (ht : a.tmps = (SV.denL ρ β tm).toArray) (hs : Sat ρ β s w) (h : (loopH cx h0 m body tm s).sel ρ = some (x, tm', s'))
    (hQ : ∀ a' w', Beh ρ β s w a.defers tm' s' a' w' → Q x.to a' w') : (Code.loop c).wp cx.P Q a w := by
  unfold loopH at h
  split at h
  · rename_i n
    exact wp_loop_rounds n (loopU_ok hb hρ n ht hs h hQ)
  · exact loopT_ok hb hρ ht hs h hQ
  · split at h
    · rename_i r hr
      refine wp_loop_rounds m (loopU_ok hb hρ m ht hs ?_ hQ)
      rw [seqU_ok hr]; exact h
    · exact loopT_ok hb hρ ht hs h hQ

theorem execT_ok {X : XP} {rt : RT} {lh : Nat → How} (hX : XOk2 X) (c : Code) (hrt : RtOk rt c) : CodeOkT X.cx (execT X rt lh c) c := by
  induction c with
  | skip => intro ρ tm tm' s s' x β w a Q hρ ht hs h hQ; cases h; exact wp_skip (hQ _ _ ⟨β, ht, rfl, hs, Ext.refl _ _ _⟩)
  | label l => intro ρ tm tm' s s' x β w a Q hρ ht hs h hQ; cases h; exact wp_label (hQ _ _ ⟨β, ht, rfl, hs, Ext.refl _ _ _⟩)
  | exit id => intro ρ tm tm' s s' x β w a Q hρ ht hs h hQ; cases h; exact wp_exit (hQ _ _ ⟨β, ht, rfl, hs, Ext.refl _ _ _⟩)
  | ret => intro ρ tm tm' s s' x β w a Q hρ ht hs h hQ; cases h; exact wp_ret (hQ _ _ ⟨β, ht, rfl, hs, Ext.refl _ _ _⟩)
  | region id ops dr =>
    intro ρ tm tm' s s' x β w a Q hρ ht hs h hQ
    cases dr with
    | false =>
      simp only [execT] at h
      obtain ⟨⟨tm1, s1⟩, h1, h2⟩ := TT.sel_bind_some h
      cases h2
      exact wp_region_list (runOpsT_ok hX.hcx hX.hcfT hX.hex hρ ops ops.toList ht hs h1 hQ)
    | true =>
      simp only [execT] at h
      obtain ⟨⟨tm1, s1⟩, h1, h2⟩ := TT.sel_bind_some h
      cases h2
      rw [T.lift_sel] at h1
      exact drawS_ok hX.hcx hX.hcf hX.hex hρ rt id ops (fun t h => hrt id ops (by simp [regs]) t h) ht hs h1 hQ
  | seq c1 c2 ih1 ih2 =>
    intro ρ tm tm' s s' x β w a Q hρ ht hs h hQ
    simp only [execT] at h
    obtain ⟨⟨x1, tm1, s1⟩, h1, h2⟩ := TT.sel_bind_some h
    have hr1 : RtOk rt c1 := fun i o hm => hrt i o (by simp [regs, hm])
    have hr2 : RtOk rt c2 := fun i o hm => hrt i o (by simp [regs, hm])
    refine wp_seq (ih1 hr1 _ _ _ _ _ _ _ _ _ _ hρ ht hs h1 ?_)
    rintro a' w' ⟨β', ht', hd', hs', hx'⟩
    cases x1 with
    | normal =>
      refine ih2 hr2 _ _ _ _ _ _ _ _ _ _ hρ ht' hs' h2 fun a2 w2 hb2 => hQ a2 w2 ?_
      rw [hd'] at hb2
      exact hb2.of hx'
    | exit id => cases h2; exact hQ _ _ ⟨β', ht', hd', hs', hx'⟩
    | ret => cases h2; exact hQ _ _ ⟨β', ht', hd', hs', hx'⟩
  | cond c c1 c2 ih1 ih2 =>
    intro ρ tm tm' s s' x β w a Q hρ ht hs h hQ
    simp only [execT] at h
    split at h
    · rename_i e he
      have hr1 : RtOk rt c1 := fun i o hm => hrt i o (by simp [regs, hm])
      have hr2 : RtOk rt c2 := fun i o hm => hrt i o (by simp [regs, hm])
      have hc : a.eval c = .bool (e.ev ρ != 0) := by rw [evO_den ht, he]; rfl
      obtain ⟨s1, e1, hs1, ⟨hne, h⟩ | ⟨h0, h⟩⟩ := forkT_ok hs h
      · refine wp_cond_true (by rw [hc]; simp [hne]) (ih1 hr1 _ _ _ _ _ _ _ _ _ _ hρ ht hs1 h fun a2 w2 hb2 => hQ a2 w2 ?_)
        exact hb2.of (ext_kn e1 β w)
      · refine wp_cond_false (by rw [hc]; simp [h0]) (ih2 hr2 _ _ _ _ _ _ _ _ _ _ hρ ht hs1 h fun a2 w2 hb2 => hQ a2 w2 ?_)
        exact hb2.of (ext_kn e1 β w)
    · cases h
  | block id c ih =>
    intro ρ tm tm' s s' x β w a Q hρ ht hs h hQ
    simp only [execT] at h
    obtain ⟨⟨x1, tm1, s1⟩, h1, h2⟩ := TT.sel_bind_some h
    refine wp_block (ih (fun i o hm => hrt i o (by simpa [regs] using hm)) _ _ _ _ _ _ _ _ _ _ hρ ht hs h1 ?_)
    rintro a' w' ⟨β', ht', hd', hs', hx'⟩
    cases x1 with
    | normal => cases h2; exact hQ _ _ ⟨β', ht', hd', hs', hx'⟩
    | ret => cases h2; exact hQ _ _ ⟨β', ht', hd', hs', hx'⟩
    | exit id' =>
      simp only at h2
      simp only [Ex.to, Exit.inBlock]
      split at h2
      · rename_i hid; cases h2; rw [if_pos hid]; exact hQ _ _ ⟨β', ht', hd', hs', hx'⟩
      · rename_i hid; cases h2; rw [if_neg hid]; exact hQ _ _ ⟨β', ht', hd', hs', hx'⟩
  | scope c ih =>
    intro ρ tm tm' s s' x β w a Q hρ ht hs h hQ
    simp only [execT] at h
    refine wp_scope_straight (ih (fun i o hm => hrt i o (by simpa [regs] using hm)) _ _ _ _ _ _ _ _ _ _ hρ ht hs h fun a' w' hb => ?_)
    have := hQ a' w' hb
    cases x <;> exact this
  | loop c ih =>
    intro ρ tm tm' s s' x β w a Q hρ ht hs h hQ
    simp only [execT] at h
    exact loopH_ok (ih (fun i o hm => hrt i o (by simpa [regs] using hm))) hρ ht hs h hQ
  | rangeFunc _ _ _ _ => intro ρ tm tm' s s' x β w a Q hρ ht hs h hQ; cases h
  | goto _ => intro ρ tm tm' s s' x β w a Q hρ ht hs h hQ; cases h
  | refuse _ => intro ρ tm tm' s s' x β w a Q hρ ht hs h hQ; cases h

/-! ### functions -/

abbrev LHS := FuncId → Nat → How

def execFnT (cx : Cx) (rts : RTS) (sm : SM) (ex : XF) (lhs : LHS) (cf : CF) (m : Nat) : Nat → CFT
  | 0, f, args, s => match sm f args s with
    | some r => r.lift
    | none => .bad 80
  | n + 1, f, args, s => match sm f args s with
    | some r => r.lift
    | none => match cx.fn f with
      | none => .bad 81
      | some fn => match fn.body with
        | none => .bad 82
        | some c => (execT ⟨cx, cf, execFnT cx rts sm ex lhs cf m n, ex, m⟩ (rts f) (lhs f) c (frameS fn.ntmps args) s).bind fun r => match r.1 with
          | .exit _ => .bad 83
          | _ => match resS cx fn r.2.1 r.2.2 with
            | some v => .leaf (v, gcS s.bl.length v r.2.2)
            | none => .bad 84

theorem execFnT_ok {cx : Cx} {rts : RTS} {sm : SM} {ex : XF} {lhs : LHS} {cf : CF} {m : Nat} (hcx : CxOk cx) (hrts : RtsOk cx.P rts) (hsm : SmOk cx sm) (hex : XOk cx ex) (hcf : CallOk cx cf) : ∀ n, CallOkT cx (execFnT cx rts sm ex lhs cf m n)
  | 0 => by
    intro ρ β s s' w f args v hρ hs h
    simp only [execFnT] at h
    split at h
    · rename_i r hr
      rw [T.lift_sel] at h
      exact hsm ρ β s s' w f args r v hρ hs hr h
    · cases h
  | n + 1 => by
    intro ρ β s s' w f args v hρ hs h
    simp only [execFnT] at h
    split at h
    · rename_i r hr
      rw [T.lift_sel] at h
      exact hsm ρ β s s' w f args r v hρ hs hr h
    · split at h
      · cases h
      · rename_i fn hfn
        split at h
        · cases h
        · rename_i c hc
          obtain ⟨⟨x, tm1, s1⟩, h1, h2⟩ := TT.sel_bind_some h
          refine calls_of_wp (cx.fnOk _ _ hfn) hc ?_
          refine execT_ok (X := ⟨cx, cf, execFnT cx rts sm ex lhs cf m n, ex, m⟩) ⟨hcx, hcf, execFnT_ok hcx hrts hsm hex hcf n, hex⟩ c (hrts f fn c (cx.fnOk _ _ hfn) hc) ρ (frameS fn.ntmps args) tm1 s s1 x β w _ _ hρ ?_ hs h1 ?_
          · simp only [frameS, denL_append]
            apply Array.ext'
            simp [denL_map, den_undef]
          · rintro a' w' ⟨β', ht, hd, hs', hx⟩
            have key : ∀ (v : SV) (s' : St), (match resS cx fn tm1 s1 with
                | some v => TT.leaf (v, gcS s.bl.length v s1)
                | none => .bad 84).sel ρ = some (v, s') → a'.defers = [] ∧ ∃ V, (results fn a'.tmps).run cx.P w' = .ok V w' ∧
                  ∃ β', Ending.returned V = .returned (v.den ρ β') ∧ Sat ρ β' s' w' ∧ Ext s s' β β' w w' := by
              intro v s' h
              split at h
              · rename_i u hu
                cases h
                obtain ⟨g1, _, g3⟩ := gcS_get s.bl.length v s1
                exact ⟨hd, _, resS_ok hs' ht hu, β', rfl, hs'.mask g1 (by rw [g3]; exact hs'.kn), ext_gc hx v⟩
              · cases h
            cases x with
            | exit id => cases h2
            | normal => exact key v s' h2
            | ret => exact key v s' h2

end Go.Eng
end
