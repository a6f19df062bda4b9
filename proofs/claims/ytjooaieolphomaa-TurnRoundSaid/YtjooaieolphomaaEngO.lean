/-
  A symbolic executor, part O: a region's orders by masks, in layers.
-/
import Derived.Test.YtjooaieolphomaaEngI
set_option linter.unusedVariables false
set_option linter.unusedSimpArgs false
namespace Go.Eng

/-! ### sets of small numbers, as masks -/

def maskOf : List Nat → Nat
  | [] => 0
  | i :: l => (1 <<< i) ||| maskOf l

theorem maskOf_bit (j : Nat) : ∀ (l : List Nat), (maskOf l).testBit j = l.contains j
  | [] => by simp [maskOf]
  | i :: l => by
    rw [maskOf, Nat.testBit_or, maskOf_bit j l, Nat.one_shiftLeft, Nat.testBit_two_pow, List.contains_cons]
    by_cases h : i = j
    · simp [h]
    · simp [h, Ne.symm h]

def subM (a m : Nat) : Bool := Nat.land a m == a

theorem subM_ok {a m : Nat} : subM a m = true ↔ ∀ j, a.testBit j = true → m.testBit j = true := by
  unfold subM
  rw [beq_iff_eq]
  constructor
  · intro h j hj
    have : (a &&& m).testBit j = true := by
      show (Nat.land a m).testBit j = true
      rw [h]; exact hj
    rw [Nat.testBit_and, Bool.and_eq_true] at this
    exact this.2
  · intro h
    show a &&& m = a
    apply Nat.eq_of_testBit_eq
    intro j
    rw [Nat.testBit_and]
    cases hj : a.testBit j with
    | false => rfl
    | true => simp [h j hj]

/-! ### a region's table -/

structure Base where
  dst : Option Nat
  lk : Nat
  need : Nat

def needs (o : Oper) : List Nat := (o.after.toList.filter fun e => Region.binds .any e).map (·.on)
def baseOf (ops : Array Oper) (o : Oper) : Base := ⟨o.dst, maskOf (o.looksAt ops), maskOf (needs o)⟩

def apartB (x y : Base) : Bool :=
  (match x.dst with
   | some d => !y.lk.testBit d && y.dst != some d
   | none => true) &&
  (match y.dst with
   | some d => !x.lk.testBit d
   | none => true)

theorem apartB_eq (ops : Array Oper) (x y : Oper) : apartB (baseOf ops x) (baseOf ops y) = x.apart ops y := by
  unfold apartB Oper.apart baseOf
  simp only [maskOf_bit]
  rfl

/-- the operations that stand against number i's coming first -/
def confAt (i : Nat) (b : Base) : List Base → Nat → Nat
  | [], _ => 0
  | c :: l, j => if j == i || c.need.testBit i || apartB b c then confAt i b l (j + 1) else (1 <<< j) ||| confAt i b l (j + 1)

theorem confAt_bit {i : Nat} {b : Base} : ∀ {l : List Base} {k j : Nat} {c : Base}, l[j]? = some c → (confAt i b l k).testBit (k + j) = false → (k + j == i || c.need.testBit i || apartB b c) = true
  | [], k, j, c, h, _ => by simp at h
  | x :: l, k, 0, c, h, hf => by
    simp only [List.getElem?_cons_zero, Option.some.injEq] at h
    subst h
    simp only [confAt] at hf
    split at hf
    · rename_i hc; simpa using hc
    · rw [Nat.testBit_or, Nat.one_shiftLeft, Nat.testBit_two_pow] at hf
      simp at hf
  | x :: l, k, j + 1, c, h, hf => by
    have h' : l[j]? = some c := by simpa using h
    rw [show k + (j + 1) = k + 1 + j by omega] at hf ⊢
    refine confAt_bit (l := l) h' ?_
    simp only [confAt] at hf
    split at hf
    · exact hf
    · rw [Nat.testBit_or, Bool.or_eq_false_iff] at hf
      exact hf.2

structure Row where
  need : Nat
  conf : Nat

def rowsOf (all : List Base) : List Base → Nat → List Row
  | [], _ => []
  | b :: l, i => ⟨b.need, confAt i b all 0⟩ :: rowsOf all l (i + 1)

def tableOf (ops : Array Oper) : List Row :=
  let all := ops.toList.map (baseOf ops)
  rowsOf all all 0

theorem rowsOf_get (all : List Base) : ∀ (l : List Base) (k i : Nat), (rowsOf all l k)[i]? = (l[i]?).map fun b => ⟨b.need, confAt (k + i) b all 0⟩
  | [], k, i => by simp [rowsOf]
  | b :: l, k, 0 => by simp [rowsOf]
  | b :: l, k, i + 1 => by
    simp only [rowsOf, List.getElem?_cons_succ, rowsOf_get all l (k + 1) i]
    rw [show k + 1 + i = k + (i + 1) by omega]

theorem tableOf_get (ops : Array Oper) (i : Nat) : (tableOf ops)[i]? = (ops[i]?).map fun o => ⟨(baseOf ops o).need, confAt i (baseOf ops o) (ops.toList.map (baseOf ops)) 0⟩ := by
  unfold tableOf
  simp only [rowsOf_get, List.getElem?_map, Array.getElem?_toList, Nat.zero_add, Option.map_map]
  rfl

/-! ### what is listed, as a mask -/

def liOf (n : Nat) (m : Nat) : Array Bool := ((List.range n).map fun i => m.testBit i).toArray

theorem liOf_getD (n m i : Nat) (d : Bool) : (liOf n m).getD i d = if i < n then m.testBit i else d := by
  unfold liOf
  by_cases h : i < n
  · simp [Array.getD_eq_getD_getElem?, h]
  · simp [Array.getD_eq_getD_getElem?, h]

theorem liOf_zero (n : Nat) : liOf n 0 = Array.replicate n false := by
  apply Array.ext'
  simp [liOf, List.map_const']

theorem liOf_set {n m k : Nat} (hk : k < n) : (liOf n m).setIfInBounds k true = liOf n (m ||| (1 <<< k)) := by
  apply Array.ext
  · simp [liOf]
  · intro i h1 h2
    have hi : i < n := by simpa [liOf] using h2
    have hs : i < (liOf n m).size := by simpa [liOf] using hi
    rw [Array.getElem_setIfInBounds hs]
    simp only [liOf, List.getElem_toArray, List.getElem_map, List.getElem_range, Nat.testBit_or, Nat.one_shiftLeft, Nat.testBit_two_pow]
    by_cases hki : k = i <;> simp [hki]

def readyM (m : Nat) : List Row → Nat → List Nat
  | [], _ => []
  | r :: l, i => if !m.testBit i && subM r.need m then i :: readyM m l (i + 1) else readyM m l (i + 1)

theorem readyM_eq (m : Nat) : ∀ (l : List Row) (k : Nat), readyM m l k = (List.range' k l.length).filter fun i => !m.testBit i && ((l[i - k]?).map fun r => subM r.need m).getD false
  | [], k => by simp [readyM]
  | r :: l, k => by
    have hf : (List.range' (k + 1) l.length).filter (fun i => !m.testBit i && (((r :: l)[i - k]?).map fun r => subM r.need m).getD false) =
        (List.range' (k + 1) l.length).filter (fun i => !m.testBit i && ((l[i - (k + 1)]?).map fun r => subM r.need m).getD false) := by
      apply List.filter_congr
      intro i hi
      have := List.mem_range'_1.1 hi
      rw [show i - k = (i - (k + 1)) + 1 by omega, List.getElem?_cons_succ]
    rw [List.length_cons, List.range'_succ, List.filter_cons, hf, ← readyM_eq m l (k + 1)]
    simp only [readyM, Nat.sub_self, List.getElem?_cons_zero, Option.map_some, Option.getD_some]

/-- every operation waits for operations of the region alone -/
def closedT (n : Nat) (ops : Array Oper) : Bool := ops.toList.all fun o => (needs o).all fun j => decide (j < n)

theorem ready_eq {ops : Array Oper} (hc : closedT ops.size ops = true) (m : Nat) : Region.ready .any ops (liOf ops.size m) = readyM m (tableOf ops) 0 := by
  have hl : (tableOf ops).length = ops.size := by
    have : ∀ (all l : List Base) (k : Nat), (rowsOf all l k).length = l.length := by
      intro all l
      induction l with
      | nil => intro k; rfl
      | cons b l ih => intro k; simp [rowsOf, ih]
    simp [tableOf, this]
  rw [readyM_eq, hl, ← List.range_eq_range']
  unfold Region.ready
  apply List.filter_congr
  intro i hi
  have hi' : i < ops.size := by simpa using hi
  rw [liOf_getD, if_pos hi', Nat.sub_zero, tableOf_get]
  congr 1
  rw [Array.getElem?_eq_getElem hi']
  simp only [Option.map_some, Option.getD_some]
  have hcl : ∀ j ∈ needs ops[i], j < ops.size := by
    have := List.all_eq_true.1 hc ops[i] (by simp)
    intro j hj
    simpa using List.all_eq_true.1 this j hj
  generalize hX : subM (baseOf ops ops[i]).need m = X
  cases X with
  | true =>
    rw [subM_ok] at hX
    rw [Array.all_eq_true']
    intro e he
    cases hb : Region.binds .any e with
    | false => rfl
    | true =>
      have hmem : e.on ∈ needs ops[i] := by
        simp only [needs, List.mem_map, List.mem_filter]
        exact ⟨e, ⟨by simpa using he, hb⟩, rfl⟩
      have := hX e.on (by simp only [baseOf, maskOf_bit]; simpa using hmem)
      rw [liOf_getD, if_pos (hcl _ hmem), this]
      rfl
  | false =>
    cases hA : (ops[i].after.all fun e => !Region.binds .any e || (liOf ops.size m).getD e.on false) with
    | false => rfl
    | true =>
      exfalso
      rw [Array.all_eq_true'] at hA
      have : subM (baseOf ops ops[i]).need m = true := by
        rw [subM_ok]
        intro j hj
        simp only [baseOf, maskOf_bit] at hj
        have hj' : j ∈ needs ops[i] := by simpa using hj
        simp only [needs, List.mem_map, List.mem_filter] at hj'
        obtain ⟨e, ⟨he, hb⟩, rfl⟩ := hj'
        have := hA e (by simpa using he)
        rw [hb, liOf_getD, if_pos (hcl _ (by simpa using hj))] at this
        simpa using this
      rw [this] at hX
      cases hX

theorem free_of {ops : Array Oper} {m i : Nat} {r : Row} (hr : (tableOf ops)[i]? = some r) (h : subM r.conf m = true) : Region.free .any ops (liOf ops.size m) i = true := by
  rw [tableOf_get] at hr
  obtain ⟨oi, hoi, rfl⟩ := Option.map_eq_some_iff.1 hr
  simp only [Region.free, hoi]
  rw [List.all_eq_true]
  intro j hj
  have hj' : j < ops.size := by simpa using hj
  rw [liOf_getD, if_pos hj']
  rw [Array.getElem?_eq_getElem hj']
  simp only
  cases hm : m.testBit j with
  | true => simp
  | false =>
    have hcf : (confAt i (baseOf ops oi) (ops.toList.map (baseOf ops)) 0).testBit (0 + j) = false := by
      cases hb : (confAt i (baseOf ops oi) (ops.toList.map (baseOf ops)) 0).testBit (0 + j) with
      | false => rfl
      | true =>
        have := (subM_ok.1 h) (0 + j) hb
        rw [Nat.zero_add, hm] at this
        cases this
    have := confAt_bit (l := ops.toList.map (baseOf ops)) (c := baseOf ops ops[j]) (by simp [hj']) hcf
    rw [apartB_eq, Nat.zero_add] at this
    simp only [Bool.or_eq_true] at this ⊢
    rcases this with (h1 | h1) | h1
    · exact .inl (.inl h1)
    · right; left
      simp only [baseOf, maskOf_bit] at h1
      have h1' : i ∈ needs ops[j] := by simpa using h1
      simp only [needs, List.mem_map, List.mem_filter] at h1'
      obtain ⟨e, ⟨he, hb⟩, hon⟩ := h1'
      rw [Array.any_eq_true']
      exact ⟨e, by simpa using he, by simp [hb, hon]⟩
    · right; right; exact h1

/-! ### the walk in layers: what is listed alike is walked once -/

structure C where
  li : Nat
  tm : List SV
  bl : List SBlk

/-- one more, merged into those that are there; none: they do not agree -/
def addC (c : C) : List C → Option (List C)
  | [] => some [c]
  | x :: l => if c.li == x.li then (if SV.beqL c.tm x.tm && blBeq c.bl x.bl then some (x :: l) else none)
    else (addC c l).map (x :: ·)

theorem addC_ok {c : C} : ∀ {l m : List C}, addC c l = some m → c ∈ m ∧ ∀ x ∈ l, x ∈ m
  | [], m, h => by cases h; exact ⟨by simp, fun x hx => by cases hx⟩
  | y :: l, m, h => by
    simp only [addC] at h
    split at h
    · rename_i h1
      split at h <;> cases h
      rename_i h2
      simp only [Bool.and_eq_true] at h2
      refine ⟨?_, fun x hx => hx⟩
      have e1 : c.li = y.li := by simpa using h1
      have e2 := SV.eqL_of_beq _ _ h2.1
      have e3 := bl_of_beq h2.2
      obtain ⟨a1, a2, a3⟩ := c
      obtain ⟨b1, b2, b3⟩ := y
      simp only at e1 e2 e3
      subst e1; subst e2; subst e3
      simp
    · obtain ⟨m', hm, rfl⟩ := Option.map_eq_some_iff.1 h
      obtain ⟨g1, g2⟩ := addC_ok hm
      refine ⟨by simp [g1], fun x hx => ?_⟩
      rcases List.mem_cons.1 hx with rfl | hx
      · simp
      · simp [g2 x hx]

inductive LX where
  | ok (l : List C)
  | need (e : E)
  | bad (n : Nat)

def D.nextC (d : D) (c : C) : List Nat → List C → LX
  | [], acc => .ok acc
  | k :: ks, acc => match d.step k c.tm ⟨c.bl, d.s0.kn⟩ with
    | .ok tm1 s1 => match addC ⟨c.li ||| (1 <<< k), tm1, s1.bl⟩ acc with
      | some acc' => d.nextC c ks acc'
      | none => .bad 50
    | .need e => .need e
    | .bad n => .bad n

theorem nextC_ok {d : D} {c : C} : ∀ {ks : List Nat} {acc out : List C}, d.nextC c ks acc = .ok out → (∀ x ∈ acc, x ∈ out) ∧ ∀ k ∈ ks, ∃ tm1 s1, d.step k c.tm ⟨c.bl, d.s0.kn⟩ = .ok tm1 s1 ∧ (⟨c.li ||| (1 <<< k), tm1, s1.bl⟩ : C) ∈ out
  | [], acc, out, h => by cases h; exact ⟨fun x hx => hx, fun k hk => by cases hk⟩
  | k :: ks, acc, out, h => by
    simp only [D.nextC] at h
    split at h
    · rename_i tm1 s1 hst
      split at h
      · rename_i acc' ha
        obtain ⟨g1, g2⟩ := addC_ok ha
        obtain ⟨r1, r2⟩ := nextC_ok h
        refine ⟨fun x hx => r1 x (g2 x hx), fun j hj => ?_⟩
        rcases List.mem_cons.1 hj with rfl | hj
        · exact ⟨tm1, s1, hst, r1 _ g1⟩
        · exact r2 j hj
      · cases h
    · cases h
    · cases h

/-- an operation that may be taken first: its value -/
def D.takeM (d : D) (tbl : List Row) (m : Nat) (i : Nat) (tm : List SV) : Option SV :=
  match tbl[i]? with
  | none => none
  | some r =>
    if subM r.conf m then
      match d.ops[i]? with
      | none => none
      | some o =>
        match gdS d.ops tm d.s0 o with
        | .no => some undefS
        | .yes => if valOp o.op then
            match opS d.cx tm d.s0 o with
            | .leaf r => some (r.1.ren d.cx d.s0.kn)
            | _ => none
          else none
        | _ => none
    else none

def D.takeOneM (d : D) (tbl : List Row) (m : Nat) (tm : List SV) : List Nat → Option (Nat × SV)
  | [] => none
  | i :: l => match d.takeM tbl m i tm with
    | some v => some (i, v)
    | none => d.takeOneM tbl m tm l

theorem takeM_ok {d : D} {m i : Nat} {tm : List SV} {v : SV} (h : d.takeM (tableOf d.ops) m i tm = some v) : d.take (liOf d.ops.size m) i tm = some v ∧ i < d.ops.size := by
  unfold D.takeM at h
  split at h
  · cases h
  · rename_i r hr
    split at h
    · rename_i hs
      have hf := free_of hr hs
      split at h
      · cases h
      · rename_i o ho
        have hlt := (Array.getElem?_eq_some_iff.1 ho).1
        refine ⟨?_, hlt⟩
        unfold D.take
        rw [ho]
        simp only
        split at h
        · rename_i hg
          rw [hg]; simp only [hf, if_true]; exact h
        · rename_i hg
          rw [hg]
          split at h
          · rename_i hv
            split at h
            · rename_i r2 hr2
              simp only [hv, if_true, hr2, hf]
              exact h
            · cases h
          · cases h
        · cases h
    · cases h

theorem takeOneM_ok {d : D} {m : Nat} {tm : List SV} : ∀ {l : List Nat} {i : Nat} {v : SV}, d.takeOneM (tableOf d.ops) m tm l = some (i, v) → i ∈ l ∧ d.take (liOf d.ops.size m) i tm = some v ∧ i < d.ops.size
  | [], _, _, h => by cases h
  | k :: l, i, v, h => by
    simp only [D.takeOneM] at h
    split at h
    · rename_i u hu
      cases h
      exact ⟨by simp, takeM_ok hu⟩
    · obtain ⟨h1, h2⟩ := takeOneM_ok h
      exact ⟨by simp [h1], h2⟩

/-- what comes behind one -/
def D.next1 (d : D) (tbl : List Row) (c : C) (acc : List C) : LX :=
  match readyM c.li tbl 0 with
  | [] => .bad 58
  | i :: rest => match d.takeOneM tbl c.li c.tm (i :: rest) with
    | some (k, v) => match addC ⟨c.li ||| (1 <<< k), putS c.tm (dstOf d.ops k) v, c.bl⟩ acc with
      | some acc' => .ok acc'
      | none => .bad 50
    | none => d.nextC c (i :: rest) acc

def D.nextL (d : D) (tbl : List Row) : List C → List C → LX
  | [], acc => .ok acc
  | c :: cs, acc => match d.next1 tbl c acc with
    | .ok acc' => d.nextL tbl cs acc'
    | r => r

def D.layer (d : D) (tbl : List Row) : Nat → List C → X
  | 0, cs => match cs with
    | [c] => (match readyM c.li tbl 0 with
      | [] => .ok c.tm ⟨c.bl, d.s0.kn⟩
      | _ => .bad 58)
    | _ => .bad 58
  | fuel + 1, cs => match d.nextL tbl cs [] with
  | .ok l => if 40 < l.length then .bad 63 else d.layer tbl fuel l
    | .need e => .need e
    | .bad n => .bad n

section
variable {d : D} {ρ : Env} {β0 : Nat → Nat × Nat} {s00 : St} {w0 : World} {ds : List Deferred}

theorem layer_ok (hd : DOk d ρ β0 s00) (hcl : closedT d.ops.size d.ops = true) (hns : Region.noSelect d.ops = true) {Q : Exit → Act → World → Prop} (hQp : ∀ c a w, ¬ Q (.panic c) a w) {tm' : List SV} {s' : St}
    (hQ : ∀ a' w' s'', s''.bl = s'.bl → Cur d ρ β0 s00 w0 ds tm' s'' a' w' → Q .normal a' w') : ∀ (fuel : Nat) {cs : List C}, d.layer (tableOf d.ops) fuel cs = .ok tm' s' →
    ∀ c ∈ cs, ∀ (a : Act) (w : World), Cur d ρ β0 s00 w0 ds c.tm ⟨c.bl, d.s0.kn⟩ a w → wpAnyH d.cx.P .any d.ops Q (Sat ρ β0 d.s0) fuel (liOf d.ops.size c.li) a w
  | 0, cs, h, c, hc, a, w, hcur => by
    simp only [D.layer] at h
    split at h
    · rename_i c0
      split at h <;> cases h
      rename_i hr
      have : c = c0 := by simpa using hc
      subst this
      exact ⟨(ready_eq hcl _).trans hr, hQ _ _ _ rfl hcur⟩
    · cases h
  | fuel + 1, cs, h, c, hc, a, w, hcur => by
    simp only [D.layer] at h
    split at h
    · rename_i nx hnx
      split at h
      · cases h
      -- each of the layer is walked on
      have hone : ∀ (l acc out : List C), d.nextL (tableOf d.ops) l acc = .ok out → (∀ x ∈ acc, x ∈ out) ∧ ∀ c ∈ l, ∃ acc1 acc2, d.next1 (tableOf d.ops) c acc1 = .ok acc2 ∧ ∀ x ∈ acc2, x ∈ out := by
        intro l
        induction l with
        | nil => intro acc out h; cases h; exact ⟨fun x hx => hx, fun c hc => by cases hc⟩
        | cons c0 l ih =>
          intro acc out h
          simp only [D.nextL] at h
          split at h
          · rename_i acc' ha
            obtain ⟨i1, i2⟩ := ih acc' out h
            have hmono : ∀ x ∈ acc, x ∈ acc' := by
              unfold D.next1 at ha
              split at ha
              · cases ha
              · split at ha
                · split at ha <;> cases ha
                  rename_i hadd
                  exact (addC_ok hadd).2
                · exact (nextC_ok ha).1
            refine ⟨fun x hx => i1 x (hmono x hx), fun c hc => ?_⟩
            rcases List.mem_cons.1 hc with rfl | hc
            · exact ⟨acc, acc', ha, i1⟩
            · exact i2 c hc
          · rename_i hno
            exact absurd h (hno out)
      obtain ⟨_, h2⟩ := hone cs [] nx hnx
      obtain ⟨acc1, acc2, hn, hsub⟩ := h2 c hc
      unfold D.next1 at hn
      split at hn
      · cases hn
      · rename_i i rest hr
        split at hn
        · rename_i k v hk
          split at hn <;> cases hn
          rename_i hadd
          have hin := hsub _ (addC_ok hadd).1
          obtain ⟨hmem, htk, hklt⟩ := takeOneM_ok hk
          obtain ⟨⟨β, ht, hs, hx⟩, hds, hst⟩ := hcur
          obtain ⟨o, ho, hfree, hy⟩ := take_ok hd ht hx hst htk
          refine wpAnyH_take ho hns hfree (by rw [ready_eq hcl, hr]; simpa using hmem) (fun c a w h => absurd h (hQp c _ w)) hy hst ?_
          rw [liOf_set hklt]
          refine layer_ok hd hcl hns hQp hQ fuel h _ hin _ _ ⟨⟨β, ?_, hs, hx⟩, by rw [put_defers]; exact hds, hst⟩
          have : dstOf d.ops k = o.dst := by simp [dstOf, ho]
          simp only [this]
          exact putS_den ht _ _
        · refine wpAnyH_all ((ready_eq hcl _).trans hr) (by simp) fun k hk => ?_
          have hklt : k < d.ops.size := by
            have hk2 : k ∈ Region.ready .any d.ops (liOf d.ops.size c.li) := by rw [ready_eq hcl, hr]; exact hk
            simp only [Region.ready, List.mem_filter, List.mem_range] at hk2
            exact hk2.1
          obtain ⟨tm1, s1, hst1, hin⟩ := (nextC_ok hn).2 k hk
          refine step_ok hd hcur hst1 fun a' w' hc' => ⟨hc'.st, ?_⟩
          rw [liOf_set hklt]
          exact layer_ok hd hcl hns hQp hQ fuel h _ (hsub _ hin) _ _ (hc'.kn hd rfl rfl)
    · cases h
    · cases h

end
end Go.Eng
