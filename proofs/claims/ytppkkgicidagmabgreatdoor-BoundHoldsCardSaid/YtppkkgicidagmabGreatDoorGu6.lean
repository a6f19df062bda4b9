/-
  Parts of the engine, a program's symbolic run, proved sound; and of plain laws.
-/
import Derived.Test.YtppkkgicidagmabGreatDoorGu3
set_option linter.unusedVariables false
set_option linter.unusedSimpArgs false

/-!  -/
noncomputable section
namespace Go.Eng
def maskOf : List Nat → Nat
 | [] => 0
 | i :: l => (1 <<< i) ||| maskOf l
theorem qKs (j : Nat) : ∀ (l : List Nat), (maskOf l).testBit j = l.contains j
 | [] => by simp [maskOf]
 | i :: l => by
  rw [maskOf, Nat.testBit_or, qKs j l, Nat.one_shiftLeft, Nat.testBit_two_pow, List.contains_cons]
  by_cases h : i = j
  ·simp [h]
  ·simp [h, Ne.symm h]
def subM (a m : Nat) : Bool := Nat.land a m == a
theorem subM_ok {a m : Nat} : subM a m = true ↔ ∀ j, a.testBit j = true → m.testBit j = true := by
 unfold subM
 rw [beq_iff_eq]
 constructor
 ·intro h j hj
  have : (a &&& m).testBit j = true := by
   show (Nat.land a m).testBit j = true
   rw [h]; exact hj
  rw [Nat.testBit_and, Bool.and_eq_true] at this
  exact this.2
 ·intro h
  show a &&& m = a
  apply Nat.eq_of_testBit_eq
  intro j
  rw [Nat.testBit_and]
  cases hj : a.testBit j with
  | false => rfl
  | true => simp [h j hj]
structure Base where
 dst : Option Nat
 lk : Nat
 need : Nat
def needs (o : Oper) : List Nat := (o.after.toList.filter fun e => Region.binds .any e).map (·.on)
def qXy (ops : Array Oper) (o : Oper) : Base := ⟨o.dst, maskOf (o.looksAt ops), maskOf (needs o)⟩
def apartB (x y : Base) : Bool :=
 (match x.dst with
  | some d => !y.lk.testBit d && y.dst != some d
  | none => true) &&
 (match y.dst with
  | some d => !x.lk.testBit d
  | none => true)
theorem apartB_eq (ops : Array Oper) (x y : Oper) : apartB (qXy ops x) (qXy ops y) = x.apart ops y := by
 unfold apartB Oper.apart qXy
 simp only [qKs]
 rfl
def confAt (i : Nat) (b : Base) : List Base → Nat → Nat
 | [], _ => 0
 | c :: l, j => if j == i || c.need.testBit i || apartB b c then confAt i b l (j + 1) else (1 <<< j) ||| confAt i b l (j + 1)
theorem confAt_bit {i : Nat} {b : Base} : ∀ {l : List Base} {k j : Nat} {c : Base}, l[j]? = some c → (confAt i b l k).testBit (k + j) = false → (k + j == i || c.need.testBit i || apartB b c) = true
 | [], k, j, c, h, _ => by simp at h
 | x :: l, k, 0, c, h, hf => by
  simp only [List.getElem?_cons_zero, Option.some.injEq] at h
  subst h
  simp only [confAt] at hf
  split at hf
  ·rename_i hc; simpa using hc
  ·rw [Nat.testBit_or, Nat.one_shiftLeft, Nat.testBit_two_pow] at hf
   simp at hf
 | x :: l, k, j + 1, c, h, hf => by
  have h' : l[j]? = some c := by simpa using h
  rw [show k + (j + 1) = k + 1 + j by omega] at hf ⊢
  refine confAt_bit (l := l) h' ?_
  simp only [confAt] at hf
  split at hf
  ·exact hf
  ·rw [Nat.testBit_or, Bool.or_eq_false_iff] at hf
   exact hf.2
structure Row where
 need : Nat
 conf : Nat
def rowsOf (all : List Base) : List Base → Nat → List Row
 | [], _ => []
 | b :: l, i => ⟨b.need, confAt i b all 0⟩ :: rowsOf all l (i + 1)
def qQn (ops : Array Oper) : List Row :=
 let all := ops.toList.map (qXy ops)
 rowsOf all all 0
theorem rowsOf_get (all : List Base) : ∀ (l : List Base) (k i : Nat), (rowsOf all l k)[i]? = (l[i]?).map fun b => ⟨b.need, confAt (k + i) b all 0⟩
 | [], k, i => by simp [rowsOf]
 | b :: l, k, 0 => by simp [rowsOf]
 | b :: l, k, i + 1 => by
  simp only [rowsOf, List.getElem?_cons_succ, rowsOf_get all l (k + 1) i]
  rw [show k + 1 + i = k + (i + 1) by omega]
theorem tableOf_get (ops : Array Oper) (i : Nat) : (qQn ops)[i]? = (ops[i]?).map fun o => ⟨(qXy ops o).need, confAt i (qXy ops o) (ops.toList.map (qXy ops)) 0⟩ := by
 unfold qQn
 simp only [rowsOf_get, List.getElem?_map, Array.getElem?_toList, Nat.zero_add, Option.map_map]
 rfl
def liOf (n : Nat) (m : Nat) : Array Bool := ((List.range n).map fun i => m.testBit i).toArray
theorem liOf_getD (n m i : Nat) (d : Bool) : (liOf n m).getD i d = if i < n then m.testBit i else d := by
 unfold liOf
 by_cases h : i < n
 ·simp [Array.getD_eq_getD_getElem?, h]
 ·simp [Array.getD_eq_getD_getElem?, h]
theorem liOf_zero (n : Nat) : liOf n 0 = Array.replicate n false := by
 apply Array.ext'
 simp [liOf, List.map_const']
theorem liOf_set {n m k : Nat} (hk : k < n) : (liOf n m).setIfInBounds k true = liOf n (m ||| (1 <<< k)) := by
 apply Array.ext
 ·simp [liOf]
 ·intro i h1 h2
  have hi : i < n := by simpa [liOf] using h2
  have hs : i < (liOf n m).size := by simpa [liOf] using hi
  rw [Array.getElem_setIfInBounds hs]
  simp only [liOf, List.getElem_toArray, List.getElem_map, List.getElem_range, Nat.testBit_or, Nat.one_shiftLeft, Nat.testBit_two_pow]
  by_cases hki : k = i <;> simp [hki]
def qZo (m : Nat) : List Row → Nat → List Nat
 | [], _ => []
 | r :: l, i => if !m.testBit i && subM r.need m then i :: qZo m l (i + 1) else qZo m l (i + 1)
theorem readyM_eq (m : Nat) : ∀ (l : List Row) (k : Nat), qZo m l k = (List.range' k l.length).filter fun i => !m.testBit i && ((l[i - k]?).map fun r => subM r.need m).getD false
 | [], k => by simp [qZo]
 | r :: l, k => by
  have hf : (List.range' (k + 1) l.length).filter (fun i => !m.testBit i && (((r :: l)[i - k]?).map fun r => subM r.need m).getD false) =
    (List.range' (k + 1) l.length).filter (fun i => !m.testBit i && ((l[i - (k + 1)]?).map fun r => subM r.need m).getD false) := by
   apply List.filter_congr
   intro i hi
   have := List.mem_range'_1.1 hi
   rw [show i - k = (i - (k + 1)) + 1 by omega, List.getElem?_cons_succ]
  rw [List.length_cons, List.range'_succ, List.filter_cons, hf, ← readyM_eq m l (k + 1)]
  simp only [qZo, Nat.sub_self, List.getElem?_cons_zero, Option.map_some, Option.getD_some]
def qXj (n : Nat) (ops : Array Oper) : Bool := ops.toList.all fun o => (needs o).all fun j => decide (j < n)
theorem qJt {ops : Array Oper} (hc : qXj ops.size ops = true) (m : Nat) : Region.ready .any ops (liOf ops.size m) = qZo m (qQn ops) 0 := by
 have hl : (qQn ops).length = ops.size := by
  have : ∀ (all l : List Base) (k : Nat), (rowsOf all l k).length = l.length := by
   intro all l
   induction l with
   | nil => intro k; rfl
   | cons b l ih => intro k; simp [rowsOf, ih]
  simp [qQn, this]
 rw [readyM_eq, hl, ← List.range_eq_range']
 unfold Region.ready
 apply List.filter_congr
 intro i hi
 have hi' : i < ops.size := by simpa using hi
 rw [liOf_getD, if_pos hi', Nat.sub_zero, tableOf_get]
 congr 1
 rw [Array.getElem?_eq_getElem hi']
 simp only [Option.map_some, Option.getD_some]
 have hcl : ∀ j ∈ needs ops[i], j < ops.size := by
  have := List.all_eq_true.1 hc ops[i] (by simp)
  intro j hj
  simpa using List.all_eq_true.1 this j hj
 generalize hX : subM (qXy ops ops[i]).need m = X
 cases X with
 | true =>
  rw [subM_ok] at hX
  rw [Array.all_eq_true']
  intro e he
  cases hb : Region.binds .any e with
  | false => rfl
  | true =>
   have hmem : e.on ∈ needs ops[i] := by
    simp only [needs, List.mem_map, List.mem_filter]
    exact ⟨e, ⟨by simpa using he, hb⟩, rfl⟩
   have := hX e.on (by simp only [qXy, qKs]; simpa using hmem)
   rw [liOf_getD, if_pos (hcl _ hmem), this]
   rfl
 | false =>
  cases hA : (ops[i].after.all fun e => !Region.binds .any e || (liOf ops.size m).getD e.on false) with
  | false => rfl
  | true =>
   exfalso
   rw [Array.all_eq_true'] at hA
   have : subM (qXy ops ops[i]).need m = true := by
    rw [subM_ok]
    intro j hj
    simp only [qXy, qKs] at hj
    have hj' : j ∈ needs ops[i] := by simpa using hj
    simp only [needs, List.mem_map, List.mem_filter] at hj'
    obtain ⟨e, ⟨he, hb⟩, rfl⟩ := hj'
    have := hA e (by simpa using he)
    rw [hb, liOf_getD, if_pos (hcl _ (by simpa using hj))] at this
    simpa using this
   rw [this] at hX
   cases hX
theorem free_of {ops : Array Oper} {m i : Nat} {r : Row} (hr : (qQn ops)[i]? = some r) (h : subM r.conf m = true) : Region.free .any ops (liOf ops.size m) i = true := by
 rw [tableOf_get] at hr
 obtain ⟨oi, hoi, rfl⟩ := Option.map_eq_some_iff.1 hr
 simp only [Region.free, hoi]
 rw [List.all_eq_true]
 intro j hj
 have hj' : j < ops.size := by simpa using hj
 rw [liOf_getD, if_pos hj']
 rw [Array.getElem?_eq_getElem hj']
 simp only
 cases hm : m.testBit j with
 | true => simp
 | false =>
  have hcf : (confAt i (qXy ops oi) (ops.toList.map (qXy ops)) 0).testBit (0 + j) = false := by
   cases hb : (confAt i (qXy ops oi) (ops.toList.map (qXy ops)) 0).testBit (0 + j) with
   | false => rfl
   | true =>
    have := (subM_ok.1 h) (0 + j) hb
    rw [Nat.zero_add, hm] at this
    cases this
  have := confAt_bit (l := ops.toList.map (qXy ops)) (c := qXy ops ops[j]) (by simp [hj']) hcf
  rw [apartB_eq, Nat.zero_add] at this
  simp only [Bool.or_eq_true] at this ⊢
  rcases this with (h1 | h1) | h1
  ·exact .inl (.inl h1)
  ·right; left
   simp only [qXy, qKs] at h1
   have h1' : i ∈ needs ops[j] := by simpa using h1
   simp only [needs, List.mem_map, List.mem_filter] at h1'
   obtain ⟨e, ⟨he, hb⟩, hon⟩ := h1'
   rw [Array.any_eq_true']
   exact ⟨e, by simpa using he, by simp [hb, hon]⟩
  ·right; right; exact h1
structure C where
 li : Nat
 tm : List SV
 bl : List SBlk
def addC (c : C) : List C → Option (List C)
 | [] => some [c]
 | x :: l => if c.li == x.li then (if SV.beqL c.tm x.tm && blBeq c.bl x.bl then some (x :: l) else none)
  else (addC c l).map (x :: ·)
theorem addC_ok {c : C} : ∀ {l m : List C}, addC c l = some m → c ∈ m ∧ ∀ x ∈ l, x ∈ m
 | [], m, h => by cases h; exact ⟨by simp, fun x hx => by cases hx⟩
 | y :: l, m, h => by
  simp only [addC] at h
  split at h
  ·rename_i h1
   split at h <;> cases h
   rename_i h2
   simp only [Bool.and_eq_true] at h2
   refine ⟨?_, fun x hx => hx⟩
   have e1 : c.li = y.li := by simpa using h1
   have e2 := SV.eqL_of_beq _ _ h2.1
   have e3 := bl_of_beq h2.2
   obtain ⟨a1, a2, a3⟩ := c
   obtain ⟨b1, b2, b3⟩ := y
   simp only at e1 e2 e3
   subst e1; subst e2; subst e3
   simp
  ·obtain ⟨m', hm, rfl⟩ := Option.map_eq_some_iff.1 h
   obtain ⟨g1, g2⟩ := addC_ok hm
   refine ⟨by simp [g1], fun x hx => ?_⟩
   rcases List.mem_cons.1 hx with rfl | hx
   ·simp
   ·simp [g2 x hx]
inductive LX where
 | ok (l : List C)
 | need (e : E)
 | bad (n : Nat)
def D.nextC (d : D) (c : C) : List Nat → List C → LX
 | [], acc => .ok acc
 | k :: ks, acc => match d.step k c.tm ⟨c.bl, d.s0.kn⟩ with
  | .ok tm1 s1 => match addC ⟨c.li ||| (1 <<< k), tm1, s1.bl⟩ acc with
   | some acc' => d.nextC c ks acc'
   | none => .bad 50
  | .need e => .need e
  | .bad n => .bad n
theorem nextC_ok {d : D} {c : C} : ∀ {ks : List Nat} {acc out : List C}, d.nextC c ks acc = .ok out → (∀ x ∈ acc, x ∈ out) ∧ ∀ k ∈ ks, ∃ tm1 s1, d.step k c.tm ⟨c.bl, d.s0.kn⟩ = .ok tm1 s1 ∧ (⟨c.li ||| (1 <<< k), tm1, s1.bl⟩ : C) ∈ out
 | [], acc, out, h => by cases h; exact ⟨fun x hx => hx, fun k hk => by cases hk⟩
 | k :: ks, acc, out, h => by
  simp only [D.nextC] at h
  split at h
  ·rename_i tm1 s1 hst
   split at h
   ·rename_i acc' ha
    obtain ⟨g1, g2⟩ := addC_ok ha
    obtain ⟨r1, r2⟩ := nextC_ok h
    refine ⟨fun x hx => r1 x (g2 x hx), fun j hj => ?_⟩
    rcases List.mem_cons.1 hj with rfl | hj
    ·exact ⟨tm1, s1, hst, r1 _ g1⟩
    ·exact r2 j hj
   ·cases h
  ·cases h
  ·cases h
def D.takeM (d : D) (tbl : List Row) (m : Nat) (i : Nat) (tm : List SV) : Option SV :=
 match tbl[i]? with
 | none => none
 | some r =>
  if subM r.conf m then
   match d.ops[i]? with
   | none => none
   | some o =>
    match gdS d.ops tm d.s0 o with
    | .no => some qZq
    | .yes => if valOp o.op then
      match opS d.cx tm d.s0 o with
      | .leaf r => some (r.1.ren d.cx d.s0.kn)
      | _ => none
     else none
    | _ => none
  else none
def D.takeOneM (d : D) (tbl : List Row) (m : Nat) (tm : List SV) : List Nat → Option (Nat × SV)
 | [] => none
 | i :: l => match d.takeM tbl m i tm with
  | some v => some (i, v)
  | none => d.takeOneM tbl m tm l
theorem takeM_ok {d : D} {m i : Nat} {tm : List SV} {v : SV} (h : d.takeM (qQn d.ops) m i tm = some v) : d.take (liOf d.ops.size m) i tm = some v ∧ i < d.ops.size := by
 unfold D.takeM at h
 split at h
 ·cases h
 ·rename_i r hr
  split at h
  ·rename_i hs
   have hf := free_of hr hs
   split at h
   ·cases h
   ·rename_i o ho
    have hlt := (Array.getElem?_eq_some_iff.1 ho).1
    refine ⟨?_, hlt⟩
    unfold D.take
    rw [ho]
    simp only
    split at h
    ·rename_i hg
     rw [hg]; simp only [hf, if_true]; exact h
    ·rename_i hg
     rw [hg]
     split at h
     ·rename_i hv
      split at h
      ·rename_i r2 hr2
       simp only [hv, if_true, hr2, hf]
       exact h
      ·cases h
     ·cases h
    ·cases h
  ·cases h
theorem takeOneM_ok {d : D} {m : Nat} {tm : List SV} : ∀ {l : List Nat} {i : Nat} {v : SV}, d.takeOneM (qQn d.ops) m tm l = some (i, v) → i ∈ l ∧ d.take (liOf d.ops.size m) i tm = some v ∧ i < d.ops.size
 | [], _, _, h => by cases h
 | k :: l, i, v, h => by
  simp only [D.takeOneM] at h
  split at h
  ·rename_i u hu
   cases h
   exact ⟨by simp, takeM_ok hu⟩
  ·obtain ⟨h1, h2⟩ := takeOneM_ok h
   exact ⟨by simp [h1], h2⟩
def D.next1 (d : D) (tbl : List Row) (c : C) (acc : List C) : LX :=
 match qZo c.li tbl 0 with
 | [] => .bad 58
 | i :: rest => match d.takeOneM tbl c.li c.tm (i :: rest) with
  | some (k, v) => match addC ⟨c.li ||| (1 <<< k), putS c.tm (dstOf d.ops k) v, c.bl⟩ acc with
   | some acc' => .ok acc'
   | none => .bad 50
  | none => d.nextC c (i :: rest) acc
def D.nextL (d : D) (tbl : List Row) : List C → List C → LX
 | [], acc => .ok acc
 | c :: cs, acc => match d.next1 tbl c acc with
  | .ok acc' => d.nextL tbl cs acc'
  | r => r
def D.layer (d : D) (tbl : List Row) : Nat → List C → X
 | 0, cs => match cs with
  | [c] => (match qZo c.li tbl 0 with
   | [] => .ok c.tm ⟨c.bl, d.s0.kn⟩
   | _ => .bad 58)
  | _ => .bad 58
 | fuel + 1, cs => match d.nextL tbl cs [] with
 | .ok l => if 40 < l.length then .bad 63 else d.layer tbl fuel l
  | .need e => .need e
  | .bad n => .bad n
section
variable {d : D} {ρ : Env} {β0 : Bt} {s00 : St} {w0 : World} {ds : List Deferred}
theorem layer_ok (hd : DOk d ρ β0 s00) (hcl : qXj d.ops.size d.ops = true) (hns : Region.noSelect d.ops = true) {Q : Exit → Act → World → Prop} (hQp : ∀ c a w, ¬ Q (.panic c) a w) {tm' : List SV} {s' : St}
  (hQ : ∀ a' w' s'', s''.bl = s'.bl → Cur d ρ β0 s00 w0 ds tm' s'' a' w' → Q .normal a' w') : ∀ (fuel : Nat) {cs : List C}, d.layer (qQn d.ops) fuel cs = .ok tm' s' →
  ∀ c ∈ cs, ∀ (a : Act) (w : World), Cur d ρ β0 s00 w0 ds c.tm ⟨c.bl, d.s0.kn⟩ a w → wpAnyH d.cx.P .any d.ops Q (Sat ρ β0 d.s0) fuel (liOf d.ops.size c.li) a w
 | 0, cs, h, c, hc, a, w, hcur => by
  simp only [D.layer] at h
  split at h
  ·rename_i c0
   split at h <;> cases h
   rename_i hr
   have : c = c0 := by simpa using hc
   subst this
   exact ⟨(qJt hcl _).trans hr, hQ _ _ _ rfl hcur⟩
  ·cases h
 | fuel + 1, cs, h, c, hc, a, w, hcur => by
  simp only [D.layer] at h
  split at h
  ·rename_i nx hnx
   split at h
   ·cases h
   -- each of the layer is walked on
   have hone : ∀ (l acc out : List C), d.nextL (qQn d.ops) l acc = .ok out → (∀ x ∈ acc, x ∈ out) ∧ ∀ c ∈ l, ∃ acc1 acc2, d.next1 (qQn d.ops) c acc1 = .ok acc2 ∧ ∀ x ∈ acc2, x ∈ out := by
    intro l
    induction l with
    | nil => intro acc out h; cases h; exact ⟨fun x hx => hx, fun c hc => by cases hc⟩
    | cons c0 l ih =>
     intro acc out h
     simp only [D.nextL] at h
     split at h
     ·rename_i acc' ha
      obtain ⟨i1, i2⟩ := ih acc' out h
      have hmono : ∀ x ∈ acc, x ∈ acc' := by
       unfold D.next1 at ha
       split at ha
       ·cases ha
       ·split at ha
        ·split at ha <;> cases ha
         rename_i hadd
         exact (addC_ok hadd).2
        ·exact (nextC_ok ha).1
      refine ⟨fun x hx => i1 x (hmono x hx), fun c hc => ?_⟩
      rcases List.mem_cons.1 hc with rfl | hc
      ·exact ⟨acc, acc', ha, i1⟩
      ·exact i2 c hc
     ·rename_i hno
      exact absurd h (hno out)
   obtain ⟨_, h2⟩ := hone cs [] nx hnx
   obtain ⟨acc1, acc2, hn, hsub⟩ := h2 c hc
   unfold D.next1 at hn
   split at hn
   ·cases hn
   ·rename_i i rest hr
    split at hn
    ·rename_i k v hk
     split at hn <;> cases hn
     rename_i hadd
     have hin := hsub _ (addC_ok hadd).1
     obtain ⟨hmem, htk, hklt⟩ := takeOneM_ok hk
     obtain ⟨⟨β, ht, hs, hx⟩, hds, hst⟩ := hcur
     obtain ⟨o, ho, hfree, hy⟩ := take_ok hd ht hx hst htk
     refine wpAnyH_take ho hns hfree (by rw [qJt hcl, hr]; simpa using hmem) (fun c a w h => absurd h (hQp c _ w)) hy hst ?_
     rw [liOf_set hklt]
     refine layer_ok hd hcl hns hQp hQ fuel h _ hin _ _ ⟨⟨β, ?_, hs, hx⟩, by rw [qQg]; exact hds, hst⟩
     have : dstOf d.ops k = o.dst := by simp [dstOf, ho]
     simp only [this]
     exact qZj ht _ _
    ·refine wpAnyH_all ((qJt hcl _).trans hr) (by simp) fun k hk => ?_
     have hklt : k < d.ops.size := by
      have hk2 : k ∈ Region.ready .any d.ops (liOf d.ops.size c.li) := by rw [qJt hcl, hr]; exact hk
      simp only [Region.ready, List.mem_filter, List.mem_range] at hk2
      exact hk2.1
     obtain ⟨tm1, s1, hst1, hin⟩ := (nextC_ok hn).2 k hk
     refine step_ok hd hcur hst1 fun a' w' hc' => ⟨hc'.st, ?_⟩
     rw [liOf_set hklt]
     exact layer_ok hd hcl hns hQp hQ fuel h _ (hsub _ hin) _ _ (hc'.kn hd rfl rfl)
  ·cases h
  ·cases h
end
end Go.Eng
end

/-!  -/
noncomputable section
namespace Go.Eng
theorem wpAnyH_swap {P : Program} {ops : Array Oper} {Q : Exit → Act → World → Prop} {S S' : World → Prop} (h : ∀ w, S w → S' w) : ∀ (fuel : Nat) {li : Array Bool} {a : Act} {w : World},
  wpAnyH P .any ops Q S fuel li a w → wpAnyH P .any ops Q S' fuel li a w
 | 0, _, _, _, hh => hh
 | fuel + 1, _, _, _, hh => ⟨hh.1, fun i hi => wpOp_mono (fun _ _ h' => ⟨h _ h'.1, wpAnyH_swap h fuel h'.2⟩) (hh.2 i hi)⟩
def D.kn (d : D) (kn : List (E × Bool)) : D := { d with s0 := { d.s0 with kn := kn } }
theorem DOk.kn' {d : D} {ρ : Env} {β0 : Bt} {s00 : St} (hd : DOk d ρ β0 s00) {kn : List (E × Bool)} (hk : ∀ e b, (e, b) ∈ kn → (e.ev ρ != 0) = b) : DOk (d.kn kn) ρ β0 s00 :=
 ⟨hd.hcx, hd.hcf, hd.hex, hd.hρ, hd.len, hd.sc, hd.le, hk, hd.inj⟩
def D.doT (d : D) (i : Nat) (o : Oper) (tm : List SV) (s : St) : RR :=
 match o.op with
 | .alloc el => (match zeroS d.cx el with
  | some z => match z.cells with
   | some l => match reviveS s (d.n0 + qQm d.ops i) l el with
    | some s1 => if SV.avL (d.n0 + qQm d.ops i) tm && qXx d.s0.bl s1.bl then .leaf (putS tm o.dst (.ptr (d.n0 + qQm d.ops i) 0), s1) else .bad 57
    | none => .bad 54
   | none => .bad 55
  | none => .bad 55)
 | .box el x => (match (evO tm x).cells with
  | some l => match reviveS s (d.n0 + qQm d.ops i) l el with
   | some s1 => if SV.avL (d.n0 + qQm d.ops i) tm && qXx d.s0.bl s1.bl then .leaf (putS tm o.dst (.ptr (d.n0 + qQm d.ops i) 0), s1) else .bad 57
   | none => .bad 54
  | none => .bad 56)
 | .buildSlice t len parts => (match rowC d.cx t len (parts.toList.map fun p => (p.1, evO tm p.2)) with
  | some (el, l) => match reviveS s (d.n0 + qQm d.ops i) l el with
   | some s1 => if SV.avL (d.n0 + qQm d.ops i) tm && qXx d.s0.bl s1.bl then .leaf (putS tm o.dst (.slice (d.n0 + qQm d.ops i) 0 len (some len)), s1) else .bad 57
   | none => .bad 54
  | none => .bad 59)
 | _ => (opC d.cx d.cf d.ex tm s o).bind fun r => if (!chg o.op || SV.scL s.bl.length tm) && qXx d.s0.bl r.2.bl then
   SV.share d.cx r.1 r.2 fun v s2 => .leaf (putS tm o.dst v, s2) else .bad 57
def D.stepT (d : D) (i : Nat) (tm : List SV) (s : St) : RR :=
 match d.ops[i]? with
 | none => .bad 51
 | some o =>
  match wantS d.ops tm o with
  | .unk => .bad 52
  | .no => .leaf (putS tm o.dst qZq, s)
  | .yes => d.doT i o tm s
  | .on e want => if want then fork s e (fun s => d.doT i o tm s) (fun s => .leaf (putS tm o.dst qZq, s))
   else fork s e (fun s => .leaf (putS tm o.dst qZq, s)) (fun s => d.doT i o tm s)
def D.lin (d : D) (tbl : List Row) : Nat → Nat → Nat → List SV → List SBlk → RR
 | 0, _, _, _, _ => .bad 58
 | _ + 1, 0, li, tm, bl => match qZo li tbl 0 with
  | [] => .leaf (tm, ⟨bl, d.s0.kn⟩)
  | _ => .bad 58
 | gas + 1, fuel + 1, li, tm, bl => match qZo li tbl 0 with
  | [] => .leaf (tm, ⟨bl, d.s0.kn⟩)
  | i :: rest => match d.takeOneM tbl li tm (i :: rest) with
   | some (k, v) => SV.share d.cx v ⟨bl, d.s0.kn⟩ fun v s => (d.kn s.kn).lin tbl gas fuel (li ||| (1 <<< k)) (putS tm (dstOf d.ops k) v) bl
   | none => match rest with
    | [] => (d.stepT i tm ⟨bl, d.s0.kn⟩).bind fun r => (d.kn r.2.kn).lin tbl gas fuel (li ||| (1 <<< i)) r.1 r.2.bl
    | _ => match d.layer tbl (fuel + 1) [⟨li, tm, bl⟩] with
     | .ok tm' s' => .leaf (tm', ⟨s'.bl, d.s0.kn⟩)
     | .need e => .br e ((d.kn ((e, true) :: d.s0.kn)).lin tbl gas (fuel + 1) li tm bl) ((d.kn ((e, false) :: d.s0.kn)).lin tbl gas (fuel + 1) li tm bl)
     | .bad n => .bad n
theorem ext_bl' {s s1 s2 : St} {β β' : Bt} {w w' : World} (h : Ext s s1 β β' w w') (e : s1.bl = s2.bl) {kn : List (E × Bool)} : Ext s ⟨s2.bl, kn⟩ β β' w w' := h.trans (qQs (s1 := ⟨s2.bl, kn⟩) e.symm β' w')
section
variable {d : D} {ρ : Env} {β0 : Bt} {s00 : St} {w0 : World} {ds : List Deferred}
theorem doT_ok (hd : DOk d ρ β0 s00) {i : Nat} {o : Oper} {tm tm1 : List SV} {s s1 : St} {a : Act} {w : World} (hc : Cur d ρ β0 s00 w0 ds tm s a w) (h : (d.doT i o tm s).sel ρ = some (tm1, s1))
  {K : Act → World → Prop} {Q : Exit → Act → World → Prop} (hK : ∀ a' w', Cur d ρ β0 s00 w0 ds tm1 s1 a' w' → K a' w') : o.wp d.cx.P a w K Q := by
 obtain ⟨⟨β, ht, hs, hx⟩, hds, hst⟩ := hc
 -- a box
 have mk : ∀ (el : TypeId) (l : List SV), (match reviveS s (d.n0 + qQm d.ops i) l el with
   | some s1 => if SV.avL (d.n0 + qQm d.ops i) tm && qXx d.s0.bl s1.bl then (T.leaf (putS tm o.dst (.ptr (d.n0 + qQm d.ops i) 0), s1) : RR) else .bad 57
   | none => .bad 54).sel ρ = some (tm1, s1) →
   (execOp a.eval o).run d.cx.P w = .ok (.value (.pointer (some ⟨w.heap.size, 0, none⟩))) (w.alloc (.cells (SV.denL ρ β l).toArray el)) → o.wp d.cx.P a w K Q := by
  intro el l h hrun
  split at h
  ·rename_i s2 h2
   split at h <;> cases h
   rename_i hh
   simp only [Bool.and_eq_true] at hh
   obtain ⟨r1, r2, r3, _, _⟩ := reviveS_ok hs hx (by have := hd.len; omega) h2
   refine Res.wp (.inl hrun) (hK _ _ ⟨⟨_, ?_, r1, r2⟩, by rw [qQg]; exact hds, ?_⟩)
   ·have hp : Value.pointer (some ⟨w.heap.size, 0, none⟩) = (SV.ptr (d.n0 + qQm d.ops i) 0).den ρ (bset β (d.n0 + qQm d.ops i) w.heap.size) := by simp [SV.den, bset]
    rw [hp]
    refine qZj (ρ := ρ) ?_ _ _
    rw [ht, SV.denL_av r3 tm hh.1]
   ·exact qKm hd r1 hh.2 (fun j hj => r2.ag j (by rw [hd.len]; exact hj))
  ·cases h
 unfold D.doT at h
 split at h
 ·rename_i el hop
  split at h
  ·rename_i z hz
   split at h
   ·rename_i l hl
    refine mk el l h ?_
    simp only [execOp, hop]
    refine qJq ?_
    simp only [Instr.alloc, Sem.run_bind, zeroS_ok (ρ := ρ) (β := β) (w := w) hz, Result.andThen_ok]
    simp [newVar, newRow, (SV.cells_den hd.hρ β hl).1]
   ·cases h
  ·cases h
 ·rename_i el x hop
  split at h
  ·rename_i l hl
   refine mk el l h ?_
   simp only [execOp, hop]
   refine qJq ?_
   simp only [qQb ht, Instr.box, Sem.run_bind]
   simp [newVar, newRow, (SV.cells_den hd.hρ β hl).1]
  ·cases h
 ·rename_i bt len parts hop
  split at h
  ·rename_i el l hl
   split at h
   ·rename_i s2 h2
    split at h <;> cases h
    rename_i hh
    simp only [Bool.and_eq_true] at hh
    obtain ⟨r1, r2, r3, _, _⟩ := reviveS_ok hs hx (by have := hd.len; omega) h2
    have hrun : (execOp a.eval o).run d.cx.P w = .ok (.value (.slice (some ⟨w.heap.size, 0, none⟩) len len)) (w.alloc (.cells (SV.denL ρ β l).toArray el)) := by
     simp only [execOp, hop]
     refine qJq ?_
     rw [parts_map tm ht]
     exact rowC_ok hd.hρ hl
    refine Res.wp (.inl hrun) (hK _ _ ⟨⟨_, ?_, r1, r2⟩, by rw [qQg]; exact hds, ?_⟩)
    ·have hp : Value.slice (some ⟨w.heap.size, 0, none⟩) len len = (SV.slice (d.n0 + qQm d.ops i) 0 len (some len)).den ρ (bset β (d.n0 + qQm d.ops i) w.heap.size) := by simp [SV.den, bset]
     rw [hp]
     refine qZj (ρ := ρ) ?_ _ _
     rw [ht, SV.denL_av r3 tm hh.1]
    ·exact qKm hd r1 hh.2 (fun j hj => r2.ag j (by rw [hd.len]; exact hj))
   ·cases h
  ·cases h
 ·obtain ⟨⟨r, s2⟩, h1, h2⟩ := T.sel_bind_some h
  split at h2
  ·rename_i hh
   simp only [Bool.and_eq_true] at hh
   obtain ⟨hch, hstay⟩ := hh
   refine opC_ok hd.hcx hd.hcf hd.hex hd.hρ ht hs h1 _ _ ?_
   rintro V w' ⟨β', rfl, hs2, hx2, hc2⟩
   have htm : (SV.denL ρ β tm) = SV.denL ρ β' tm := by
    simp only [Bool.or_eq_true, Bool.not_eq_true'] at hch
    rcases hch with hch | hch
    ·rw [hc2 hch]
    ·exact (SV.denL_sc hx2.ag tm hch).symm
   rw [htm] at ht
   have hx3 := hx.trans hx2
   obtain ⟨v1, s3, hv1, hbl, hs3, h3⟩ := SV.share_ok hd.hρ r hs2 h2
   cases h3
   rw [← hv1 β']
   exact hK _ _ ⟨⟨β', qZj ht _ _, hs3, hx3.trans (qQs hbl β' w')⟩, by rw [qQg]; exact hds, qKm hd hs2 hstay (fun j hj => hx3.ag j (by rw [hd.len]; exact hj))⟩
  ·cases h2
theorem stepT_ok (hd : DOk d ρ β0 s00) {i : Nat} {tm tm1 : List SV} {s s1 : St} {a : Act} {w : World} (hc : Cur d ρ β0 s00 w0 ds tm s a w) (h : (d.stepT i tm s).sel ρ = some (tm1, s1))
  {K : Act → World → Prop} {Q : Exit → Act → World → Prop} (hK : ∀ a' w', Cur d ρ β0 s00 w0 ds tm1 s1 a' w' → K a' w') : wpOp d.cx.P d.ops Q i K a w := by
 obtain ⟨⟨β, ht, hs, hx⟩, hds, hst⟩ := hc
 unfold D.stepT at h
 split at h
 ·cases h
 ·rename_i o ho
  unfold wpOp
  simp only [ho]
  have hw := qXd (ops := d.ops) (o := o) ht
  have cur : ∀ s', s'.bl = s.bl → Sat ρ β s' w → Cur d ρ β0 s00 w0 ds tm s' a w := fun s' e hs' => ⟨⟨β, ht, hs', hx.trans (qQs e β w)⟩, hds, hst⟩
  have pass : ∀ s', s'.bl = s.bl → Sat ρ β s' w → (tm1, s1) = (putS tm o.dst qZq, s') → K (a.put o.dst undef) w := fun s' e hs' he => by
   cases he
   exact hK _ _ ⟨⟨β, qZj ht o.dst qZq, hs', hx.trans (qQs e β w)⟩, by rw [qQg]; exact hds, hst⟩
  cases hwd : wantS d.ops tm o with
  | unk => rw [hwd] at h; cases h
  | no =>
   rw [hwd] at h hw
   simp only at h hw
   rw [hw]
   simp only [Bool.false_eq_true, if_false]
   cases h
   exact pass s rfl hs rfl
  | yes =>
   rw [hwd] at h hw
   simp only at h hw
   rw [hw]
   simp only [if_true]
   exact .inl (doT_ok hd (cur s rfl hs) h hK)
  | on e want =>
   rw [hwd] at h hw
   simp only at h hw
   cases want
   ·simp only [Bool.false_eq_true, if_false] at h
    obtain ⟨s2, e2, hs2, ⟨hne, h⟩ | ⟨h0, h⟩⟩ := qKk hs h
    ·have : Region.wanted o (yielded d.ops a.tmps) = false := by rw [hw]; simpa using hne
     rw [this]
     simp only [Bool.false_eq_true, if_false]
     simp only [T.sel, Option.some.injEq] at h
     exact pass s2 e2 hs2 h.symm
    ·have : Region.wanted o (yielded d.ops a.tmps) = true := by rw [hw]; simpa using h0
     rw [this]
     simp only [if_true]
     exact .inl (doT_ok hd (cur s2 e2 hs2) h hK)
   ·simp only [if_true] at h
    obtain ⟨s2, e2, hs2, ⟨hne, h⟩ | ⟨h0, h⟩⟩ := qKk hs h
    ·have : Region.wanted o (yielded d.ops a.tmps) = true := by rw [hw]; simpa using hne
     rw [this]
     simp only [if_true]
     exact .inl (doT_ok hd (cur s2 e2 hs2) h hK)
    ·have : Region.wanted o (yielded d.ops a.tmps) = false := by rw [hw]; simpa using h0
     rw [this]
     simp only [Bool.false_eq_true, if_false]
     simp only [T.sel, Option.some.injEq] at h
     exact pass s2 e2 hs2 h.symm
theorem Cur.rekn {kn : List (E × Bool)} {tm : List SV} {s : St} {a : Act} {w : World} (hk : ∀ e b, (e, b) ∈ kn → (e.ev ρ != 0) = b) (h : Cur d ρ β0 s00 w0 ds tm s a w) : Cur (d.kn kn) ρ β0 s00 w0 ds tm ⟨s.bl, kn⟩ a w := by
 obtain ⟨⟨β, h1, h2, h3⟩, h4, h5⟩ := h
 exact ⟨⟨β, h1, ⟨h2.blk, h2.inj, hk, h2.ro⟩, h3.trans (qQs (s := s) (s1 := ⟨s.bl, kn⟩) rfl β w)⟩, h4, ⟨h5.blk, h5.inj, hk, h5.ro⟩⟩
theorem lin_ok (hcl : qXj d.ops.size d.ops = true) (hns : Region.noSelect d.ops = true) {Q : Exit → Act → World → Prop} (hQp : ∀ c a w, ¬ Q (.panic c) a w) {tm' : List SV} {s' : St}
  (hQ : ∀ a' w' β', a'.tmps = (SV.denL ρ β' tm').toArray → a'.defers = ds → Sat ρ β' s' w' → Ext s00 s' β0 β' w0 w' → Q .normal a' w') : ∀ (gas : Nat) {kn : List (E × Bool)} {fuel li : Nat} {tm : List SV} {bl : List SBlk} {a : Act} {w : World},
  DOk (d.kn kn) ρ β0 s00 → Cur (d.kn kn) ρ β0 s00 w0 ds tm ⟨bl, kn⟩ a w → ((d.kn kn).lin (qQn d.ops) gas fuel li tm bl).sel ρ = some (tm', s') →
  wpAnyH d.cx.P .any d.ops Q (fun w => Sat ρ β0 ⟨d.s0.bl, []⟩ w) fuel (liOf d.ops.size li) a w
 | 0, kn, fuel, li, tm, bl, a, w, hd, hc, h => by cases h
 | gas + 1, kn, 0, li, tm, bl, a, w, hd, hc, h => by
  simp only [D.lin] at h
  split at h
  ·rename_i hr
   cases h
   obtain ⟨⟨β, h1, h2, h3⟩, h4, h5⟩ := hc
   exact ⟨(qJt hcl _).trans hr, hQ _ _ β h1 h4 h2 h3⟩
  ·cases h
 | gas + 1, kn, fuel + 1, li, tm, bl, a, w, hd, hc, h => by
  have hS : ∀ w', Sat ρ β0 (d.kn kn).s0 w' → Sat ρ β0 ⟨d.s0.bl, []⟩ w' := fun w' h' => ⟨h'.blk, h'.inj, (fun e b hm => by cases hm), h'.ro⟩
  have hS' : ∀ w', Sat ρ β0 ⟨d.s0.bl, []⟩ w' → Sat ρ β0 (d.kn kn).s0 w' := fun w' h' => ⟨h'.blk, h'.inj, hd.kn, h'.ro⟩
  simp only [D.lin] at h
  split at h
  ·rename_i hr
   cases h
   obtain ⟨⟨β, h1, h2, h3⟩, h4, h5⟩ := hc
   exact wpAnyH_done ((qJt hcl _).trans hr) (hQ _ _ β h1 h4 h2 h3) _
  ·rename_i i rest hr
   split at h
   ·rename_i k v hk
    obtain ⟨hmem, htk, hklt⟩ := takeOneM_ok (d := d.kn kn) hk
    obtain ⟨⟨β, ht, hs, hx⟩, hds, hst⟩ := hc
    obtain ⟨o, ho, hfree, hy⟩ := take_ok hd ht hx hst htk
    have hy' : YieldsIf d.cx.P d.ops (fun w => Sat ρ β0 ⟨d.s0.bl, []⟩ w) o (v.den ρ β) a := by
     rcases hy with ⟨h1, h2⟩ | h1
     ·exact .inl ⟨h1, fun w' hw' => h2 w' (hS' w' hw')⟩
     ·exact .inr h1
    refine wpAnyH_take ho hns hfree (by rw [qJt hcl, hr]; simpa using hmem) (fun c a w h => absurd h (hQp c _ w)) hy' (hS _ hst) ?_
    have hli : (liOf d.ops.size li).setIfInBounds k true = liOf d.ops.size (li ||| (1 <<< k)) := liOf_set hklt
    show wpAnyH d.cx.P .any d.ops Q _ fuel ((liOf d.ops.size li).setIfInBounds k true) _ _
    rw [hli]
    obtain ⟨v1, s1, hv1, hbl, hs1, h1⟩ := SV.share_ok (cx := (d.kn kn).cx) hd.hρ v hs h
    rw [← hv1 β]
    have hdst : dstOf d.ops k = o.dst := by
     have : d.ops[k]? = some o := ho
     simp [dstOf, this]
    have hd1 : DOk (d.kn s1.kn) ρ β0 s00 := DOk.kn' (d := d.kn kn) hd hs1.kn
    refine lin_ok hcl hns hQp hQ gas (kn := s1.kn) hd1 ?_ h1
    refine ⟨⟨β, ?_, ⟨hs.blk, hs.inj, hs1.kn, hs.ro⟩, hx.trans (qQs (s := ⟨bl, kn⟩) (s1 := ⟨bl, s1.kn⟩) rfl β w)⟩, by rw [qQg]; exact hds, ⟨hst.blk, hst.inj, hs1.kn, hst.ro⟩⟩
    have : dstOf (d.kn kn).ops k = o.dst := hdst
    rw [this]
    exact qZj ht _ _
   ·split at h
    ·obtain ⟨⟨tm1, s1⟩, h1, h2⟩ := T.sel_bind_some h
     have hrd := (qJt hcl li).trans hr
     refine wpAnyH_all hrd (by simp) fun k hk => ?_
     have hki : k = i := by simpa using hk
     subst hki
     have hklt : k < d.ops.size := by
      have hk2 : k ∈ Region.ready .any d.ops (liOf d.ops.size li) := by rw [hrd]; simp
      simp only [Region.ready, List.mem_filter, List.mem_range] at hk2
      exact hk2.1
     refine stepT_ok (d := d.kn kn) hd hc h1 fun a' w' hc' => ⟨hS _ hc'.st, ?_⟩
     rw [liOf_set hklt]
     obtain ⟨β, _, hs', _⟩ := hc'.ex
     exact lin_ok hcl hns hQp hQ gas (DOk.kn' (d := d.kn kn) hd hs'.kn) (Cur.rekn (d := d.kn kn) (kn := s1.kn) hs'.kn hc') h2
    ·split at h
     ·rename_i tm2 s2 hl
      cases h
      refine wpAnyH_swap hS _ (layer_ok (d := d.kn kn) hd hcl hns hQp (fun a' w' s'' e hc' => ?_) (fuel + 1) hl _ (List.mem_singleton.2 rfl) _ _ hc)
      obtain ⟨⟨β, g1, g2, g3⟩, g4, _⟩ := hc'
      exact hQ _ _ β g1 g4 ⟨fun j b hj => g2.blk j b (by rw [e]; exact hj), fun i j hi hj => g2.inj i j (by simpa [live, e] using hi) (by simpa [live, e] using hj), hd.kn, g2.ro.less fun j hj => by simpa [live, e] using hj⟩ (ext_bl' g3 e)
     ·rename_i e hl
      simp only [T.sel] at h
      split at h
      ·rename_i hne
       have hk1 : ∀ e' b, (e', b) ∈ (e, true) :: kn → (e'.ev ρ != 0) = b := by
        intro e' b hm
        rcases List.mem_cons.1 hm with hm | hm
        ·cases hm; simpa using hne
        ·exact hd.kn _ _ hm
       exact lin_ok hcl hns hQp hQ gas (DOk.kn' (d := d.kn kn) hd hk1) (Cur.rekn (d := d.kn kn) hk1 hc) h
      ·rename_i hne
       have hk1 : ∀ e' b, (e', b) ∈ (e, false) :: kn → (e'.ev ρ != 0) = b := by
        intro e' b hm
        rcases List.mem_cons.1 hm with hm | hm
        ·cases hm; simpa using hne
        ·exact hd.kn _ _ hm
       exact lin_ok hcl hns hQp hQ gas (DOk.kn' (d := d.kn kn) hd hk1) (Cur.rekn (d := d.kn kn) hk1 hc) h
     ·cases h
end
def regs : Code → List (Nat × Array Oper)
 | .region id ops true => [(id, ops)]
 | .seq x y => regs x ++ regs y
 | .cond _ x y => regs x ++ regs y
 | .block _ c => regs c
 | .scope c => regs c
 | .loop c => regs c
 | .rangeFunc _ _ x y => regs x ++ regs y
 | _ => []
abbrev RT := Nat → Option (List Row)
def RtOk (rt : RT) (c : Code) : Prop := ∀ id ops, (id, ops) ∈ regs c → ∀ t, rt id = some t → t = qQn ops ∧ Region.noSelect ops = true ∧ qXj ops.size ops = true
def Row.beq (a b : Row) : Bool := Nat.beq a.need b.need && Nat.beq a.conf b.conf
def rowsBeq : List Row → List Row → Bool
 | [], [] => true
 | a :: l, b :: m => a.beq b && rowsBeq l m
 | _, _ => false
theorem rows_of_beq : ∀ {l m : List Row}, rowsBeq l m = true → l = m
 | [], [], _ => rfl
 | a :: l, b :: m, h => by
  simp only [rowsBeq, Bool.and_eq_true, Row.beq] at h
  obtain ⟨a1, a2⟩ := a
  obtain ⟨b1, b2⟩ := b
  rw [rows_of_beq h.2]
  simp only at h
  rw [Nat.eq_of_beq_eq_true h.1.1, Nat.eq_of_beq_eq_true h.1.2]
 | [], _ :: _, h => by cases h
 | _ :: _, [], h => by cases h
def rtChk (rt : RT) (c : Code) : Bool := (regs c).all fun p => match rt p.1 with
 | some t => rowsBeq t (qQn p.2) && Region.noSelect p.2 && qXj p.2.size p.2
 | none => true
theorem rtChk_ok {rt : RT} {c : Code} (h : rtChk rt c = true) : RtOk rt c := by
 intro id ops hm t ht
 have := List.all_eq_true.1 h _ hm
 simp only [ht, Bool.and_eq_true] at this
 exact ⟨rows_of_beq this.1.1, this.1.2, this.2⟩
def tblOf (rt : RT) (id : Nat) (ops : Array Oper) : Option (List Row) :=
 match rt id with
 | some t => some t
 | none => if Region.noSelect ops && qXj ops.size ops then some (qQn ops) else none
theorem tblOf_ok {rt : RT} {id : Nat} {ops : Array Oper} (h : ∀ t, rt id = some t → t = qQn ops ∧ Region.noSelect ops = true ∧ qXj ops.size ops = true) {t : List Row} (ht : tblOf rt id ops = some t) :
  t = qQn ops ∧ Region.noSelect ops = true ∧ qXj ops.size ops = true := by
 unfold tblOf at ht
 split at ht
 ·rename_i u hu; cases ht; exact h _ hu
 ·split at ht
  ·rename_i hc; cases ht; simp only [Bool.and_eq_true] at hc; exact ⟨rfl, hc.1, hc.2⟩
  ·cases ht
end Go.Eng
end

/-!  -/
noncomputable section
namespace Go.Eng
def maskBl : List SBlk → List SBlk → List SBlk
 | [], _ => []
 | b :: l, c :: m => (if b.beq c then b else .gone) :: maskBl l m
 | _ :: l, [] => .gone :: maskBl l []
theorem maskBl_ok : ∀ (l m : List SBlk), (maskBl l m).length = l.length ∧ ∀ (j : Nat) (b : SBlk), (maskBl l m)[j]? = some b → b = SBlk.gone ∨ l[j]? = some b
 | [], _ => ⟨rfl, fun j b h => by simp [maskBl] at h⟩
 | x :: l, c :: m => by
  obtain ⟨h1, h2⟩ := maskBl_ok l m
  refine ⟨by simp [maskBl, h1], fun j b h => ?_⟩
  cases j with
  | zero =>
   simp only [maskBl, List.getElem?_cons_zero, Option.some.injEq] at h
   split at h
   ·exact .inr (by simp [h])
   ·exact .inl h.symm
  | succ j => simpa using h2 j b (by simpa [maskBl] using h)
 | x :: l, [] => by
  obtain ⟨h1, h2⟩ := maskBl_ok l []
  refine ⟨by simp [maskBl, h1], fun j b h => ?_⟩
  cases j with
  | zero => simp [maskBl] at h; exact .inl h.symm
  | succ j => simpa using h2 j b (by simpa [maskBl] using h)
def hasCall (ops : Array Oper) : Bool := ops.toList.any fun o => match o.op with
 | .call c => (match c.callee with
  | .builtin _ => false
  | _ => true)
 | _ => false
def tryT (cx : Cx) (cf : CF) (ex : XF) (tbl : List Row) (ops : Array Oper) (tm : List SV) (s : St) (b0 : List SBlk) : RR :=
 let s0 : St := { bl := b0, kn := s.kn }
 if s0.sc s.bl.length then
  D.lin { cx, cf, ex, ops, s0, n0 := s.bl.length } tbl (40 + tbl.length) tbl.length 0 tm (s.bl ++ List.replicate (qQm ops ops.size) .gone)
 else .bad 61
def dirs : List SV → List Nat
 | [] => []
 | .ptr j _ :: l => j :: dirs l
 | .slice j _ _ _ :: l => j :: dirs l
 | .sl (.own j) _ _ _ _ :: l => j :: dirs l
 | .ep (.own j) _ _ _ :: l => j :: dirs l
 | .cp j _ _ _ _ _ :: l => j :: dirs l
 | _ :: l => dirs l
def keepJ (js : List Nat) : Nat → List SBlk → List SBlk
 | _, [] => []
 | i, b :: l => (if js.contains i then b else .gone) :: keepJ js (i + 1) l
theorem keepJ_ok (js : List Nat) : ∀ (i : Nat) (l : List SBlk), (keepJ js i l).length = l.length ∧ ∀ (j : Nat) (b : SBlk), (keepJ js i l)[j]? = some b → b = SBlk.gone ∨ l[j]? = some b
 | i, [] => ⟨rfl, fun j b h => by simp [keepJ] at h⟩
 | i, x :: l => by
  obtain ⟨h1, h2⟩ := keepJ_ok js (i + 1) l
  refine ⟨by simp [keepJ, h1], fun j b h => ?_⟩
  cases j with
  | zero =>
   simp only [keepJ, List.getElem?_cons_zero, Option.some.injEq] at h
   split at h
   ·exact .inr (by simp [h])
   ·exact .inl h.symm
  | succ j => simpa using h2 j b (by simpa [keepJ] using h)
def T.torn {α : Type} : T α → Bool
 | .leaf _ => false
 | .br _ t f => t.torn || f.torn
 | .bad n => Nat.beq n 57 || Nat.beq n 50 || Nat.beq n 64
 | .new _ _ t => t.torn
def peel {α : Type} : T α → List (Nat × E)
 | .new i e t => (i, e) :: peel t
 | _ => []
def defs {α : Type} (cx : Cx) : List (Nat × E) → St → (St → T α) → T α
 | [], s, k => k s
 | (i, e) :: l, s, k => defn cx i e s fun s => defs cx l s k
theorem defs_ok {cx : Cx} {ρ : Env} (hρ : EnvOk cx ρ) {β : Bt} {w : World} {α : Type} {k : St → T α} {r : α} : ∀ (l : List (Nat × E)) {s : St}, Sat ρ β s w → (defs cx l s k).sel ρ = some r →
  ∃ s1, s1.bl = s.bl ∧ Sat ρ β s1 w ∧ (k s1).sel ρ = some r
 | [], s, h, hr => ⟨s, rfl, h, hr⟩
 | (i, e) :: l, s, h, hr => by
  obtain ⟨s1, h1, h2, h3⟩ := defn_ok hρ h hr
  obtain ⟨s2, g1, g2, g3⟩ := defs_ok hρ l h2 h3
  exact ⟨s2, g1.trans h1, g2, g3⟩
def drawF (cx : Cx) (cf : CF) (ex : XF) (tbl : List Row) (ops : Array Oper) (tm : List SV) : Nat → St → RR
 | 0, _ => .bad 60
 | n + 1, s => match runOps cx cf ex ops ops.toList tm s with
  | .bad k => .bad k
  | .br e _ _ => .br e (drawF cx cf ex tbl ops tm n { s with kn := (e, true) :: s.kn }) (drawF cx cf ex tbl ops tm n { s with kn := (e, false) :: s.kn })
  | .new i e t => defs cx ((i, e) :: peel t) s fun s => drawF cx cf ex tbl ops tm n s
  | .leaf r => tryT cx cf ex tbl ops tm s (maskBl s.bl r.2.bl)
def drawS (cx : Cx) (cf : CF) (ex : XF) (rt : RT) (id : Nat) (ops : Array Oper) (tm : List SV) (s : St) : RR :=
 match tblOf rt id ops with
 | none => .bad 61
 | some tbl =>
  match noDefer ops with
  | false => .bad 62
  | true =>
   let r := tryT cx cf ex tbl ops tm s (if hasCall ops then keepJ (dirs tm) 0 s.bl else s.bl)
   match r.torn with
   | false => r
   | true => drawF cx cf ex tbl ops tm 12 s
theorem Sat.drew {ρ : Env} {β : Bt} {s : St} {w : World} (h : Sat ρ β s w) : Sat ρ β s w.drew := ⟨h.blk, h.inj, h.kn, h.ro⟩
theorem Ext.ofDrew {s s' : St} {β β' : Bt} {w w' : World} (h : Ext s s' β β' w.drew w') : Ext s s' β β' w w' :=
 ⟨h.ag, h.old, h.fresh, h.size, h.fr, h.len, h.os, h.tape, h.output⟩
theorem Sat.bl {ρ : Env} {β : Bt} {s s1 : St} {w : World} (h : Sat ρ β s w) (e : s1.bl = s.bl) (hk : ∀ e b, (e, b) ∈ s1.kn → (e.ev ρ != 0) = b) : Sat ρ β s1 w :=
 h.mask (fun j b hj => .inr (by rw [← e]; exact hj)) hk
section
variable {cx : Cx} {ρ : Env} {cf : CF} {ex : XF}
theorem tryT_ok (hcx : CxOk cx) (hcf : qKe cx cf) (hex : XOk cx ex) (hρ : EnvOk cx ρ) (id : Nat) (ops : Array Oper) {tbl : List Row} (hnd : noDefer ops = true) (htbl : tbl = qQn ops ∧ Region.noSelect ops = true ∧ qXj ops.size ops = true)
  {tm tm' : List SV} {s s' : St} {b0 : List SBlk} (hb : b0.length = s.bl.length ∧ ∀ (j : Nat) (b : SBlk), b0[j]? = some b → b = SBlk.gone ∨ s.bl[j]? = some b) {β : Bt} {w : World} {a : Act} {Q : Exit → Act → World → Prop}
  (ht : a.tmps = (SV.denL ρ β tm).toArray) (hs : Sat ρ β s w) (hx : (tryT cx cf ex tbl ops tm s b0).sel ρ = some (tm', s'))
  (hQ : ∀ a' w', Beh ρ β s w a.defers tm' s' a' w' → Q .normal a' w') (r : Option Nat) : (Code.region id ops true).wpIn (fen r) 0 cx.P Q a w := by
 obtain ⟨rfl, hns, hcl⟩ := htbl
 unfold tryT at hx
 simp only at hx
 split at hx
 ·rename_i hc
  let d : D := { cx, cf, ex, ops, s0 := { bl := b0, kn := s.kn }, n0 := s.bl.length }
  have hs0 : Sat ρ β d.s0 w := hs.mask hb.2 hs.kn
  have hd : DOk d ρ β s := ⟨hcx, hcf, hex, hρ, rfl, hc, Nat.le_of_eq hb.1, hs.kn, hs0.inj⟩
  have hres : Sat ρ β { s with bl := s.bl ++ List.replicate (qQm ops ops.size) .gone } w.drew := by
   refine hs.drew.mask (fun j b hj => ?_) hs.kn
   simp only [List.getElem?_append] at hj
   split at hj
   ·exact .inr hj
   ·rw [List.getElem?_replicate] at hj
    split at hj <;> simp at hj
    exact .inl hj.symm
  have hlv : ∀ j, live β { s with bl := s.bl ++ List.replicate (qQm ops ops.size) .gone } j → live β s j := by
   rintro j ⟨b, hj, ho⟩
   simp only [List.getElem?_append] at hj
   split at hj
   ·exact ⟨b, hj, ho⟩
   ·rw [List.getElem?_replicate] at hj
    split at hj <;> simp at hj
    subst hj
    cases ho
  have hext : Ext s { s with bl := s.bl ++ List.replicate (qQm ops ops.size) .gone } β β w w.drew :=
   ⟨fun _ _ => rfl, fun j _ hl => hlv j hl, fun j hj hl => absurd (qQt (hlv j hl)) (by omega), Nat.le_refl _, fun _ _ _ => rfl, by simp, rfl, rfl, rfl⟩
  have hcur : Cur (d.kn s.kn) ρ β s w a.defers tm ⟨s.bl ++ List.replicate (qQm ops ops.size) .gone, s.kn⟩ a w.drew :=
   ⟨⟨β, ht, hres, hext⟩, rfl, hs0.drew⟩
  refine Code.wpIn_mono (Q := fun e a' w' => e = .normal ∧ Beh ρ β s w a.defers tm' s' a' w') (fun e a' w' ⟨he, hb⟩ => by subst he; exact hQ a' w' hb) ?_
  refine wpIn_held (S := fun w => Sat ρ β ⟨b0, []⟩ w) hcx.mixed hnd (fun ⟨_, _, h, _⟩ => by cases h) ?_
  rw [← liOf_zero]
  have hlen : (qQn ops).length = ops.size := by
   have : ∀ (all l : List Base) (k : Nat), (rowsOf all l k).length = l.length := by
    intro all l
    induction l with
    | nil => intro k; rfl
    | cons b l ih => intro k; simp [rowsOf, ih]
   simp [qQn, this]
  have hd' : DOk (d.kn s.kn) ρ β s := hd
  rw [hlen] at hx
  exact lin_ok (d := d) hcl hns (fun c a w h => by cases h.1) (fun a' w' β' h1 h2 h3 h4 => ⟨rfl, β', h1, h2, h3, h4⟩) (40 + ops.size) hd' hcur hx
 ·cases hx
theorem drawF_ok (hcx : CxOk cx) (hcf : qKe cx cf) (hex : XOk cx ex) (hρ : EnvOk cx ρ) (id : Nat) (ops : Array Oper) {tbl : List Row} (hnd : noDefer ops = true) (htbl : tbl = qQn ops ∧ Region.noSelect ops = true ∧ qXj ops.size ops = true)
  {tm tm' : List SV} : ∀ (n : Nat) {s s' : St} {β : Bt} {w : World} {a : Act} {Q : Exit → Act → World → Prop},
  a.tmps = (SV.denL ρ β tm).toArray → Sat ρ β s w → (drawF cx cf ex tbl ops tm n s).sel ρ = some (tm', s') →
  (∀ a' w', Beh ρ β s w a.defers tm' s' a' w' → Q .normal a' w') → ∀ r : Option Nat, (Code.region id ops true).wpIn (fen r) 0 cx.P Q a w
 | 0, s, s', β, w, a, Q, ht, hs, h, hQ => by cases h
 | n + 1, s, s', β, w, a, Q, ht, hs, h, hQ => by
  simp only [drawF] at h
  split at h
  ·cases h
  ·rename_i e _ _ _
   simp only [T.sel] at h
   split at h
   ·rename_i hne
    refine drawF_ok hcx hcf hex hρ id ops hnd htbl n (s := { s with kn := (e, true) :: s.kn }) ht (hs.kn_cons (by simpa using hne)) h fun a' w' hb => hQ a' w' ?_
    exact hb.of (qQs (s := s) (s1 := { s with kn := (e, true) :: s.kn }) rfl β w)
   ·rename_i hne
    refine drawF_ok hcx hcf hex hρ id ops hnd htbl n (s := { s with kn := (e, false) :: s.kn }) ht (hs.kn_cons (by simpa using hne)) h fun a' w' hb => hQ a' w' ?_
    exact hb.of (qQs (s := s) (s1 := { s with kn := (e, false) :: s.kn }) rfl β w)
  ·obtain ⟨s1, e1, hs1, h⟩ := defs_ok hρ _ hs h
   refine drawF_ok hcx hcf hex hρ id ops hnd htbl n ht hs1 h fun a' w' hb => hQ a' w' ?_
   exact hb.of (qQs e1 β w)
  ·exact tryT_ok hcx hcf hex hρ id ops hnd htbl (maskBl_ok _ _) ht hs h hQ
theorem drawS_ok (hcx : CxOk cx) (hcf : qKe cx cf) (hex : XOk cx ex) (hρ : EnvOk cx ρ) (rt : RT) (id : Nat) (ops : Array Oper) (hrt : ∀ t, rt id = some t → t = qQn ops ∧ Region.noSelect ops = true ∧ qXj ops.size ops = true)
  {tm tm' : List SV} {s s' : St} {β : Bt} {w : World} {a : Act} {Q : Exit → Act → World → Prop}
  (ht : a.tmps = (SV.denL ρ β tm).toArray) (hs : Sat ρ β s w) (h : (drawS cx cf ex rt id ops tm s).sel ρ = some (tm', s'))
  (hQ : ∀ a' w', Beh ρ β s w a.defers tm' s' a' w' → Q .normal a' w') (r : Option Nat) : (Code.region id ops true).wpIn (fen r) 0 cx.P Q a w := by
 unfold drawS at h
 split at h
 ·cases h
 ·rename_i tbl htb
  have htbl := tblOf_ok hrt htb
  simp only at h
  split at h
  ·cases h
  rename_i hnd
  split at h
  ·refine tryT_ok hcx hcf hex hρ id ops hnd htbl ?_ ht hs h hQ r
   split
   ·exact keepJ_ok _ _ _
   ·exact ⟨rfl, fun j b h => .inr h⟩
  ·exact drawF_ok hcx hcf hex hρ id ops hnd htbl 12 ht hs h hQ r
end
inductive Ex where
 | normal
 | exit (id : Nat)
 | ret
 | pan (t : TypeId) (k : IntKind) (n : Int)
def panV (t : TypeId) (k : IntKind) (n : Int) : Value := .iface t (.agg #[.int k n])
def panC (t : TypeId) (k : IntKind) (n : Int) : List PanicEntry := [{ v := panV t k n, recovered := false }]
def Ex.to : Ex → Exit
 | .normal => .normal
 | .exit id => .exit id
 | .ret => .ret
 | .pan t k n => .panic (panC t k n)
abbrev RC := T (Ex × List SV × St)
def loopS (body : List SV → St → RC) : Nat → List SV → St → RC
 | 0, _, _ => .bad 70
 | n + 1, tm, s => (body tm s).bind fun r => match r.1 with
  | .normal => loopS body n r.2.1 r.2.2
  | e => .leaf (e, r.2)
def qZg (cx : Cx) (cf : CF) (ex : XF) (rt : RT) (m : Nat) : Code → List SV → St → RC
 | .skip, tm, s => .leaf (.normal, tm, s)
 | .label _, tm, s => .leaf (.normal, tm, s)
 | .exit id, tm, s => .leaf (.exit id, tm, s)
 | .ret, tm, s => .leaf (.ret, tm, s)
 | .region _ ops false, tm, s => (runOps cx cf ex ops ops.toList tm s).bind fun r => .leaf (.normal, r)
 | .region id ops true, tm, s => (drawS cx cf ex rt id ops tm s).bind fun r => .leaf (.normal, r)
 | .seq x y, tm, s => (qZg cx cf ex rt m x tm s).bind fun r => match r.1 with
  | .normal => qZg cx cf ex rt m y r.2.1 r.2.2
  | e => .leaf (e, r.2)
 | .cond c x y, tm, s => match evO tm c with
  | .bool e => fork s e (fun s => qZg cx cf ex rt m x tm s) (fun s => qZg cx cf ex rt m y tm s)
  | _ => .bad 71
 | .block id c, tm, s => (qZg cx cf ex rt m c tm s).bind fun r => match r.1 with
  | .exit id' => if id' = id then .leaf (.normal, r.2) else .leaf (.exit id', r.2)
  | e => .leaf (e, r.2)
 | .scope c, tm, s => qZg cx cf ex rt m c tm s
 | .loop c, tm, s => loopS (qZg cx cf ex rt m c) m tm s
 | .rangeFunc _ _ _ _, _, _ => .bad 72
 | .goto _, _, _ => .bad 73
 | .refuse _, _, _ => .bad 74
section
variable {cx : Cx} {ρ : Env} {cf : CF} {ex : XF} {m : Nat}
def CodeOk (cx : Cx) (ρ : Env) (body : List SV → St → RC) (c : Code) : Prop :=
 ∀ (tm tm' : List SV) (s s' : St) (x : Ex) (β : Bt) (w : World) (a : Act) (Q : Exit → Act → World → Prop),
  a.tmps = (SV.denL ρ β tm).toArray → Sat ρ β s w → (body tm s).sel ρ = some (x, tm', s') →
  (∀ a' w', Beh ρ β s w a.defers tm' s' a' w' → Q x.to a' w') → c.wp cx.P Q a w
theorem loopS_ok {body : List SV → St → RC} {c : Code} (hb : CodeOk cx ρ body c) : ∀ (n : Nat) {tm tm' : List SV} {s s' : St} {x : Ex} {β : Bt} {w : World} {a : Act} {Q : Exit → Act → World → Prop},
  a.tmps = (SV.denL ρ β tm).toArray → Sat ρ β s w → (loopS body n tm s).sel ρ = some (x, tm', s') →
  (∀ a' w', Beh ρ β s w a.defers tm' s' a' w' → Q x.to a' w') → Code.rounds cx.P c Q n a w
 | 0, tm, tm', s, s', x, β, w, a, Q, ht, hs, h, hQ => by cases h
 | n + 1, tm, tm', s, s', x, β, w, a, Q, ht, hs, h, hQ => by
  simp only [loopS] at h
  obtain ⟨⟨x1, tm1, s1⟩, h1, h2⟩ := T.sel_bind_some h
  rw [rounds_succ]
  refine hb _ _ _ _ _ _ _ _ _ ht hs h1 ?_
  rintro a' w' ⟨β', ht', hd', hs', hx'⟩
  cases x1 with
  | normal =>
   refine loopS_ok hb n ht' hs' h2 fun a2 w2 hb2 => hQ a2 w2 ?_
   rw [hd'] at hb2
   exact hb2.of hx'
  | exit id => cases h2; exact hQ _ _ ⟨β', ht', hd', hs', hx'⟩
  | ret => cases h2; exact hQ _ _ ⟨β', ht', hd', hs', hx'⟩
  | pan _ _ _ => cases h2; exact hQ _ _ ⟨β', ht', hd', hs', hx'⟩
theorem execCode_ok {rt : RT} (hcx : CxOk cx) (hcf : qKe cx cf) (hex : XOk cx ex) (hρ : EnvOk cx ρ) (c : Code) (hrt : RtOk rt c) : CodeOk cx ρ (qZg cx cf ex rt m c) c := by
 induction c with
 | skip => intro tm tm' s s' x β w a Q ht hs h hQ; cases h; exact wp_skip (hQ _ _ ⟨β, ht, rfl, hs, Ext.refl _ _ _⟩)
 | label l => intro tm tm' s s' x β w a Q ht hs h hQ; cases h; exact wp_label (hQ _ _ ⟨β, ht, rfl, hs, Ext.refl _ _ _⟩)
 | exit id => intro tm tm' s s' x β w a Q ht hs h hQ; cases h; exact wp_exit (hQ _ _ ⟨β, ht, rfl, hs, Ext.refl _ _ _⟩)
 | ret => intro tm tm' s s' x β w a Q ht hs h hQ; cases h; exact wp_ret (hQ _ _ ⟨β, ht, rfl, hs, Ext.refl _ _ _⟩)
 | region id ops dr =>
  intro tm tm' s s' x β w a Q ht hs h hQ
  cases dr with
  | false =>
   simp only [qZg] at h
   obtain ⟨⟨tm1, s1⟩, h1, h2⟩ := T.sel_bind_some h
   cases h2
   exact wp_region_list (runOps_ok hcx hcf hex hρ ops ops.toList ht hs h1 hQ)
  | true =>
   simp only [qZg] at h
   obtain ⟨⟨tm1, s1⟩, h1, h2⟩ := T.sel_bind_some h
   cases h2
   exact (wpIn_wide (n := 0)).1 (drawS_ok hcx hcf hex hρ rt id ops (fun t h => hrt id ops (by simp [regs]) t h) ht hs h1 hQ none)
 | seq c1 c2 ih1 ih2 =>
  intro tm tm' s s' x β w a Q ht hs h hQ
  simp only [qZg] at h
  obtain ⟨⟨x1, tm1, s1⟩, h1, h2⟩ := T.sel_bind_some h
  have hr1 : RtOk rt c1 := fun i o hm => hrt i o (by simp [regs, hm])
  have hr2 : RtOk rt c2 := fun i o hm => hrt i o (by simp [regs, hm])
  refine wp_seq (ih1 hr1 _ _ _ _ _ _ _ _ _ ht hs h1 ?_)
  rintro a' w' ⟨β', ht', hd', hs', hx'⟩
  cases x1 with
  | normal =>
   refine ih2 hr2 _ _ _ _ _ _ _ _ _ ht' hs' h2 fun a2 w2 hb2 => hQ a2 w2 ?_
   rw [hd'] at hb2
   exact hb2.of hx'
  | exit id => cases h2; exact hQ _ _ ⟨β', ht', hd', hs', hx'⟩
  | ret => cases h2; exact hQ _ _ ⟨β', ht', hd', hs', hx'⟩
  | pan _ _ _ => cases h2; exact hQ _ _ ⟨β', ht', hd', hs', hx'⟩
 | cond c c1 c2 ih1 ih2 =>
  intro tm tm' s s' x β w a Q ht hs h hQ
  simp only [qZg] at h
  split at h
  ·rename_i e he
   have hr1 : RtOk rt c1 := fun i o hm => hrt i o (by simp [regs, hm])
   have hr2 : RtOk rt c2 := fun i o hm => hrt i o (by simp [regs, hm])
   have hc : a.eval c = .bool (e.ev ρ != 0) := by rw [qQb ht, he]; rfl
   obtain ⟨s1, e1, hs1, ⟨hne, h⟩ | ⟨h0, h⟩⟩ := qKk hs h
   ·refine wp_cond_true (by rw [hc]; simp [hne]) (ih1 hr1 _ _ _ _ _ _ _ _ _ ht hs1 h fun a2 w2 hb2 => hQ a2 w2 ?_)
    exact hb2.of (qQs e1 β w)
   ·refine wp_cond_false (by rw [hc]; simp [h0]) (ih2 hr2 _ _ _ _ _ _ _ _ _ ht hs1 h fun a2 w2 hb2 => hQ a2 w2 ?_)
    exact hb2.of (qQs e1 β w)
  ·cases h
 | block id c ih =>
  intro tm tm' s s' x β w a Q ht hs h hQ
  simp only [qZg] at h
  obtain ⟨⟨x1, tm1, s1⟩, h1, h2⟩ := T.sel_bind_some h
  refine wp_block (ih (fun i o hm => hrt i o (by simpa [regs] using hm)) _ _ _ _ _ _ _ _ _ ht hs h1 ?_)
  rintro a' w' ⟨β', ht', hd', hs', hx'⟩
  cases x1 with
  | normal => cases h2; exact hQ _ _ ⟨β', ht', hd', hs', hx'⟩
  | ret => cases h2; exact hQ _ _ ⟨β', ht', hd', hs', hx'⟩
  | pan _ _ _ => cases h2; exact hQ _ _ ⟨β', ht', hd', hs', hx'⟩
  | exit id' =>
   simp only at h2
   simp only [Ex.to, Exit.inBlock]
   split at h2
   ·rename_i hid; cases h2; rw [if_pos hid]; exact hQ _ _ ⟨β', ht', hd', hs', hx'⟩
   ·rename_i hid; cases h2; rw [if_neg hid]; exact hQ _ _ ⟨β', ht', hd', hs', hx'⟩
 | scope c ih =>
  intro tm tm' s s' x β w a Q ht hs h hQ
  simp only [qZg] at h
  refine wp_scope_straight (ih (fun i o hm => hrt i o (by simpa [regs] using hm)) _ _ _ _ _ _ _ _ _ ht hs h fun a' w' hb => ?_)
  have := hQ a' w' hb
  cases x <;> exact this
 | loop c ih =>
  intro tm tm' s s' x β w a Q ht hs h hQ
  simp only [qZg] at h
  exact wp_loop_rounds m (loopS_ok (ih (fun i o hm => hrt i o (by simpa [regs] using hm))) m ht hs h hQ)
 | rangeFunc _ _ _ _ => intro tm tm' s s' x β w a Q ht hs h hQ; cases h
 | goto _ => intro tm tm' s s' x β w a Q ht hs h hQ; cases h
 | refuse _ => intro tm tm' s s' x β w a Q ht hs h hQ; cases h
end
end Go.Eng
end

/-!  -/
noncomputable section
namespace Go.Eng
def resL (cx : Cx) (tm : List SV) (s : St) : List ResultVar → Option (List SV)
 | [] => some []
 | .tmp t :: l => match resL cx tm s l with
  | some vs => some (tm.getD t qZq :: vs)
  | none => none
 | .cell a t :: l => match loadS cx t (tm.getD a qZq) s, resL cx tm s l with
  | some v, some vs => some (v :: vs)
  | _, _ => none
def resS (cx : Cx) (fn : Func) (tm : List SV) (s : St) : Option SV :=
 match resL cx tm s fn.results.toList with
 | some [v] => some v
 | some vs => some (.tup vs)
 | none => none
def rv (tmps : Array Value) : ResultVar → Sem Value
 | .tmp t => pure (tmps.getD t undef)
 | .cell a t => do loadVar t (← asAddr (tmps.getD a undef))
theorem results_rv (fn : Func) (tmps : Array Value) : results fn tmps = (do
  let vs ← fn.results.mapM (rv tmps)
  pure (if h : vs.size = 1 then vs[0] else .tuple vs)) := by
 have e : (fun (x : ResultVar) => (match x with
   | .tmp t => pure (tmps.getD t undef)
   | .cell a t => do loadVar t (← asAddr (tmps.getD a undef)) : Sem Value)) = rv tmps := by
  funext x; cases x <;> rfl
 rw [← e]
 rfl
theorem resL_ok {cx : Cx} {ρ : Env} {β : Bt} {s : St} {w : World} (hs : Sat ρ β s w) (tm : List SV) : ∀ (l : List ResultVar) {vs : List SV}, resL cx tm s l = some vs →
  (l.mapM (rv (SV.denL ρ β tm).toArray)).run cx.P w = .ok (SV.denL ρ β vs) w
 | [], vs, h => by cases h; rfl
 | .tmp t :: l, vs, h => by
  simp only [resL] at h
  split at h <;> cases h
  rename_i us hu
  have ih := resL_ok hs tm l hu
  simp only [List.mapM_cons, Sem.run_bind, rv, Sem.run_pure, Result.andThen_ok, denL_getD, ih, SV.denL]
 | .cell a t :: l, vs, h => by
  simp only [resL] at h
  split at h <;> cases h
  rename_i v us hv hu
  have ih := resL_ok hs tm l hu
  have hl := loadS_ok hs hv
  have hl2 : ((do loadVar t (← asAddr ((tm.getD a qZq).den ρ β))) : Sem Value).run cx.P w = .ok (v.den ρ β) w := by
   unfold loadS at hv
   split at hv
   ·rename_i j off hj
    rw [hj] at hl ⊢
    simp only [Instr.loadAt, SV.den, Instr.sureAddr, asAddr] at hl ⊢
    exact hl
   ·cases hv
  rw [List.mapM_cons, Sem.run_bind]
  have e : rv (SV.denL ρ β tm).toArray (.cell a t) = (do loadVar t (← asAddr ((tm.getD a qZq).den ρ β)) : Sem Value) := by
   simp only [rv, denL_getD]
  rw [e, hl2, Result.andThen_ok, Sem.run_bind, ih, Result.andThen_ok]
  rfl
theorem resS_ok {cx : Cx} {ρ : Env} {β : Bt} {s : St} {w : World} (hs : Sat ρ β s w) {fn : Func} {tm : List SV} {tmps : Array Value} (ht : tmps = (SV.denL ρ β tm).toArray) {v : SV} (h : resS cx fn tm s = some v) :
  (results fn tmps).run cx.P w = .ok (v.den ρ β) w := by
 subst ht
 unfold resS at h
 rw [results_rv, Array.mapM_eq_mapM_toList]
 split at h
 ·rename_i u hu
  cases h
  have := resL_ok hs tm _ hu
  simp only [Sem.run_bind, Sem.run_map]
  rw [this]
  simp [SV.denL]
 ·rename_i vs hvs hn
  cases h
  have := resL_ok hs tm _ hn
  simp only [Sem.run_bind, Sem.run_map]
  rw [this]
  simp only [Result.andThen_ok, Sem.run_pure, SV.den]
  congr 1
  split
  ·rename_i hsz
   have : vs.length = 1 := by simpa using hsz
   obtain ⟨u, rfl⟩ := List.length_eq_one_iff.1 this
   exact absurd rfl (hvs u)
  ·rfl
 ·cases h
def Bs.names (n : Nat) : Bs → List Nat
 | .own j => if n ≤ j then [j] else []
 | .inp _ => []
mutual
def SV.names (n : Nat) : SV → List Nat
 | .sl b _ _ _ _ => b.names n
 | .ep b _ _ _ => b.names n
 | .cp j _ _ _ _ _ => if n ≤ j then [j] else []
 | .wild j => if n ≤ j then [j] else []
 | .yld j => if n ≤ j then [j] else []
 | .mp j => if n ≤ j then [j] else []
 | .ptr j _ => if n ≤ j then [j] else []
 | .slice j _ _ _ => if n ≤ j then [j] else []
 | .func _ a c => SV.namesL n a ++ SV.namesL n c
 | .iface _ x => x.names n
 | .agg l => SV.namesL n l
 | .tup l => SV.namesL n l
 | _ => []
def SV.namesL (n : Nat) : List SV → List Nat
 | [] => []
 | x :: l => x.names n ++ SV.namesL n l
end
def blkNames (n : Nat) : Option SBlk → List Nat
 | some (.cells l _ _) => SV.namesL n l
 | some (.rcd _ _ l _ _) => SV.namesL n l
 | _ => []
def reach (n : Nat) (bl : List SBlk) : Nat → List Nat → List Nat → List Nat
 | 0, _, seen => seen
 | _ + 1, [], seen => seen
 | f + 1, j :: todo, seen => if seen.contains j then reach n bl f todo seen else reach n bl f (blkNames n bl[j]? ++ todo) (j :: seen)
def dropTail : List SBlk → List SBlk
 | [] => []
 | b :: l => match dropTail l, b with
  | [], .gone => []
  | l', b => b :: l'
def keepBl (seen : List Nat) (n : Nat) : Nat → List SBlk → List SBlk
 | _, [] => []
 | i, b :: l => (if i < n || seen.contains i then b else .gone) :: keepBl seen n (i + 1) l
def gcS (n : Nat) (v : SV) (s : St) : St :=
 if v.sc n && (s.bl.take n).all (·.sc n) then { s with bl := s.bl.take n }
 else
  let seen := reach n s.bl 200 (v.names n ++ (s.bl.take n).flatMap fun b => blkNames n (some b)) []
  let kept := keepBl seen n 0 s.bl
  { s with bl := kept.take n ++ dropTail (kept.drop n) }
theorem keepBl_get (seen : List Nat) (n : Nat) : ∀ (l : List SBlk) (i j : Nat) (b : SBlk), (keepBl seen n i l)[j]? = some b → b = SBlk.gone ∨ l[j]? = some b
 | [], i, j, b, h => by simp [keepBl] at h
 | x :: l, i, 0, b, h => by
  simp only [keepBl, List.getElem?_cons_zero, Option.some.injEq] at h
  split at h
  ·exact .inr (by simp [h])
  ·exact .inl h.symm
 | x :: l, i, j + 1, b, h => by simpa using keepBl_get seen n l (i + 1) j b (by simpa [keepBl] using h)
theorem keepBl_len (seen : List Nat) (n : Nat) : ∀ (l : List SBlk) (i : Nat), (keepBl seen n i l).length = l.length
 | [], i => rfl
 | x :: l, i => by simp [keepBl, keepBl_len seen n l]
theorem dropTail_get : ∀ (l : List SBlk) (j : Nat) (b : SBlk), (dropTail l)[j]? = some b → l[j]? = some b
 | [], j, b, h => by simp [dropTail] at h
 | x :: l, j, b, h => by
  simp only [dropTail] at h
  split at h
  ·simp at h
  ·cases j with
   | zero => simpa using h
   | succ j => simpa using dropTail_get l j b (by simpa using h)
theorem gcS_get (n : Nat) (v : SV) (s : St) : (∀ (j : Nat) (b : SBlk), (gcS n v s).bl[j]? = some b → b = SBlk.gone ∨ s.bl[j]? = some b) ∧ (n ≤ s.bl.length → n ≤ (gcS n v s).bl.length) ∧ (gcS n v s).kn = s.kn := by
 unfold gcS
 split
 ·refine ⟨fun j b h => ?_, fun h => by simp; omega, rfl⟩
  simp only [List.getElem?_take] at h
  split at h
  ·exact .inr h
  ·cases h
 ·refine ⟨fun j b h => ?_, fun h => by simp [keepBl_len]; omega, rfl⟩
  simp only [List.getElem?_append] at h
  split at h
  ·simp only [List.getElem?_take] at h
   split at h
   ·exact keepBl_get _ _ _ _ _ _ h
   ·cases h
  ·rename_i hge
   have h2 := dropTail_get _ _ _ h
   rw [List.getElem?_drop] at h2
   simp only [List.length_take, keepBl_len] at hge h2
   rcases Nat.lt_or_ge s.bl.length n with hn | hn
   ·have := (List.getElem?_eq_some_iff.1 h2).1
    rw [keepBl_len] at this
    omega
   ·rw [show n + (j - min n s.bl.length) = j by omega] at h2
    exact keepBl_get _ _ _ _ _ _ h2
theorem ext_gc {s s1 : St} {β β' : Bt} {w w' : World} (h : Ext s s1 β β' w w') (v : SV) : Ext s (gcS s.bl.length v s1) β β' w w' := by
 obtain ⟨h1, h2, _⟩ := gcS_get s.bl.length v s1
 have hl : ∀ j, live β' (gcS s.bl.length v s1) j → live β' s1 j := by
  rintro j ⟨b, hj, ho⟩
  rcases h1 j _ hj with rfl | h
  ·cases ho
  ·exact ⟨b, h, ho⟩
 exact ⟨h.ag, fun j hj hh => h.old j hj (hl j hh), fun j hj hh => h.fresh j hj (hl j hh), h.size, h.fr, h2 h.len, h.os, h.tape, h.output⟩
abbrev SM := FuncId → List SV → St → Option R
def SmOk (cx : Cx) (sm : SM) : Prop :=
 ∀ (ρ : Env) (β : Bt) (s s' : St) (w : World) (f : FuncId) (args : List SV) (r : R) (v : SV), EnvOk cx ρ → Sat ρ β s w → sm f args s = some r → r.sel ρ = some (v, s') →
  Calls cx.P f (SV.denL ρ β args).toArray w fun e w' => ∃ β', e = .returned (v.den ρ β') ∧ Sat ρ β' s' w' ∧ Ext s s' β β' w w'
def qKt (n : Nat) (args : List SV) : List SV := args ++ List.replicate (n - args.length) qZq
abbrev RTS := FuncId → RT
def RtsOk (P : Program) (rts : RTS) : Prop := ∀ f fn c, P.funcs[f]? = some fn → fn.body = some c → RtOk (rts f) c
def execFn (cx : Cx) (rts : RTS) (sm : SM) (ex : XF) (m : Nat) : Nat → CF
 | 0, f, args, s => match sm f args s with
  | some r => r
  | none => .bad 80
 | n + 1, f, args, s => match sm f args s with
  | some r => r
  | none => match cx.fn f with
   | none => .bad 81
   | some fn => match fn.body with
    | none => .bad 82
    | some c => (qZg cx (execFn cx rts sm ex m n) ex (rts f) m c (qKt fn.ntmps args) s).bind fun r => match r.1 with
     | .exit _ => .bad 83
     | .pan _ _ _ => .bad 85
     | _ => match resS cx fn r.2.1 r.2.2 with
      | some v => .leaf (v, gcS s.bl.length v r.2.2)
      | none => .bad 84
theorem execFn_ok {cx : Cx} {rts : RTS} {sm : SM} {ex : XF} {m : Nat} (hcx : CxOk cx) (hrts : RtsOk cx.P rts) (hsm : SmOk cx sm) (hex : XOk cx ex) : ∀ n, qKe cx (execFn cx rts sm ex m n)
 | 0 => by
  intro ρ β s s' w f args v hρ hs h
  simp only [execFn] at h
  split at h
  ·rename_i r hr
   exact hsm ρ β s s' w f args r v hρ hs hr h
  ·cases h
 | n + 1 => by
  intro ρ β s s' w f args v hρ hs h
  simp only [execFn] at h
  split at h
  ·rename_i r hr
   exact hsm ρ β s s' w f args r v hρ hs hr h
  ·split at h
   ·cases h
   ·rename_i fn hfn
    split at h
    ·cases h
    ·rename_i c hc
     obtain ⟨⟨x, tm1, s1⟩, h1, h2⟩ := T.sel_bind_some h
     refine calls_of_wp (cx.fnOk _ _ hfn) hc ?_
     refine execCode_ok hcx (execFn_ok hcx hrts hsm hex n) hex hρ c (hrts f fn c (cx.fnOk _ _ hfn) hc) (qKt fn.ntmps args) tm1 s s1 x β w _ _ ?_ hs h1 ?_
     ·simp only [qKt, qQf]
      apply Array.ext'
      simp [qQa, den_undef]
     ·rintro a' w' ⟨β', ht, hd, hs', hx⟩
      have key : ∀ (v : SV) (s' : St), (match resS cx fn tm1 s1 with
        | some v => T.leaf (v, gcS s.bl.length v s1)
        | none => .bad 84).sel ρ = some (v, s') → a'.defers = [] ∧ ∃ V, (results fn a'.tmps).run cx.P w' = .ok V w' ∧
         ∃ β', Ending.returned V = .returned (v.den ρ β') ∧ Sat ρ β' s' w' ∧ Ext s s' β β' w w' := by
       intro v s' h
       split at h
       ·rename_i u hu
        cases h
        obtain ⟨g1, _, g3⟩ := gcS_get s.bl.length v s1
        exact ⟨hd, _, resS_ok hs' ht hu, β', rfl, hs'.mask g1 (by rw [g3]; exact hs'.kn), ext_gc hx v⟩
       ·cases h
      cases x with
      | exit id => cases h2
      | pan _ _ _ => cases h2
      | normal => exact key v s' h2
      | ret => exact key v s' h2
end Go.Eng
end
