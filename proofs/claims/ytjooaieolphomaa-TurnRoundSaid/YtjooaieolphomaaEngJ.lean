/-
  A symbolic executor, part J: drawn regions, code, functions.
-/
import Derived.Test.YtjooaieolphomaaEngR
set_option linter.unusedVariables false
set_option linter.unusedSimpArgs false
namespace Go.Eng

/-! ### a region that draws -/

def maskBl : List SBlk → List SBlk → List SBlk
  | [], _ => []
  | b :: l, c :: m => (if b.beq c then b else .gone) :: maskBl l m
  | _ :: l, [] => .gone :: maskBl l []

theorem maskBl_ok : ∀ (l m : List SBlk), (maskBl l m).length = l.length ∧ ∀ (j : Nat) (b : SBlk), (maskBl l m)[j]? = some b → b = SBlk.gone ∨ l[j]? = some b
  | [], _ => ⟨rfl, fun j b h => by simp [maskBl] at h⟩
  | x :: l, c :: m => by
    obtain ⟨h1, h2⟩ := maskBl_ok l m
    refine ⟨by simp [maskBl, h1], fun j b h => ?_⟩
    cases j with
    | zero =>
      simp only [maskBl, List.getElem?_cons_zero, Option.some.injEq] at h
      split at h
      · exact .inr (by simp [h])
      · exact .inl h.symm
    | succ j => simpa using h2 j b (by simpa [maskBl] using h)
  | x :: l, [] => by
    obtain ⟨h1, h2⟩ := maskBl_ok l []
    refine ⟨by simp [maskBl, h1], fun j b h => ?_⟩
    cases j with
    | zero => simp [maskBl] at h; exact .inl h.symm
    | succ j => simpa using h2 j b (by simpa [maskBl] using h)

def hasCall (ops : Array Oper) : Bool := ops.toList.any fun o => match o.op with
  | .call c => (match c.callee with
    | .builtin _ => false
    | _ => true)
  | _ => false

def hasLoad (ops : Array Oper) : Bool := ops.toList.any fun o => match o.op with
  | .load _ _ => true
  | _ => false

/-- all orders, where of the blocks of the beginning only those that are in m, too, are known to stay -/
def tryT (cx : Cx) (cf : CF) (ex : XF) (tbl : List Row) (ops : Array Oper) (tm : List SV) (s : St) (b0 : List SBlk) : RR :=
  let s0 : St := { bl := b0, kn := s.kn }
  if s0.sc s.bl.length then
    D.lin { cx, cf, ex, ops, s0, n0 := s.bl.length } tbl (40 + tbl.length) tbl.length 0 tm (s.bl ++ List.replicate (allocsTo ops ops.size) .gone)
  else .bad 61

/-- the blocks that a frame names itself -/
def dirs : List SV → List Nat
  | [] => []
  | .ptr j _ :: l => j :: dirs l
  | .slice j _ _ _ :: l => j :: dirs l
  | _ :: l => dirs l
def keepJ (js : List Nat) : Nat → List SBlk → List SBlk
  | _, [] => []
  | i, b :: l => (if js.contains i then b else .gone) :: keepJ js (i + 1) l
theorem keepJ_ok (js : List Nat) : ∀ (i : Nat) (l : List SBlk), (keepJ js i l).length = l.length ∧ ∀ (j : Nat) (b : SBlk), (keepJ js i l)[j]? = some b → b = SBlk.gone ∨ l[j]? = some b
  | i, [] => ⟨rfl, fun j b h => by simp [keepJ] at h⟩
  | i, x :: l => by
    obtain ⟨h1, h2⟩ := keepJ_ok js (i + 1) l
    refine ⟨by simp [keepJ, h1], fun j b h => ?_⟩
    cases j with
    | zero =>
      simp only [keepJ, List.getElem?_cons_zero, Option.some.injEq] at h
      split at h
      · exact .inr (by simp [h])
      · exact .inl h.symm
    | succ j => simpa using h2 j b (by simpa [keepJ] using h)

/-- something has changed that was held to stay -/
def T.torn {α : Type} : T α → Bool
  | .leaf _ => false
  | .br _ t f => t.torn || f.torn
  | .bad n => Nat.beq n 57 || Nat.beq n 50 || Nat.beq n 64
  | .new _ _ t => t.torn

/-- the names that stand ahead of all else in a tree -/
def peel {α : Type} : T α → List (Nat × E)
  | .new i e t => (i, e) :: peel t
  | _ => []

/-- they are given ahead -/
def defs {α : Type} (cx : Cx) : List (Nat × E) → St → (St → T α) → T α
  | [], s, k => k s
  | (i, e) :: l, s, k => defn cx i e s fun s => defs cx l s k
theorem defs_ok {cx : Cx} {ρ : Env} (hρ : EnvOk cx ρ) {β : Nat → Nat × Nat} {w : World} {α : Type} {k : St → T α} {r : α} : ∀ (l : List (Nat × E)) {s : St}, Sat ρ β s w → (defs cx l s k).sel ρ = some r →
    ∃ s1, s1.bl = s.bl ∧ Sat ρ β s1 w ∧ (k s1).sel ρ = some r
  | [], s, h, hr => ⟨s, rfl, h, hr⟩
  | (i, e) :: l, s, h, hr => by
    obtain ⟨s1, h1, h2, h3⟩ := defn_ok hρ h hr
    obtain ⟨s2, g1, g2, g3⟩ := defs_ok hρ l h2 h3
    exact ⟨s2, g1.trans h1, g2, g3⟩

/-- what changes is found by a run in the text's order -/
def drawF (cx : Cx) (cf : CF) (ex : XF) (tbl : List Row) (ops : Array Oper) (tm : List SV) : Nat → St → RR
  | 0, _ => .bad 60
  | n + 1, s => match runOps cx cf ex ops ops.toList tm s with
    | .bad k => .bad k
    | .br e _ _ => .br e (drawF cx cf ex tbl ops tm n { s with kn := (e, true) :: s.kn }) (drawF cx cf ex tbl ops tm n { s with kn := (e, false) :: s.kn })
    | .new i e t => defs cx ((i, e) :: peel t) s fun s => drawF cx cf ex tbl ops tm n s
    | .leaf r => tryT cx cf ex tbl ops tm s (maskBl s.bl r.2.bl)

def drawS (cx : Cx) (cf : CF) (ex : XF) (rt : RT) (id : Nat) (ops : Array Oper) (tm : List SV) (s : St) : RR :=
  match tblOf rt id ops with
  | none => .bad 61
  | some tbl =>
    let r := tryT cx cf ex tbl ops tm s (if hasCall ops then keepJ (dirs tm) 0 s.bl else s.bl)
    match r.torn with
    | false => r
    | true => drawF cx cf ex tbl ops tm 12 s

theorem Sat.drew {ρ : Env} {β : Nat → Nat × Nat} {s : St} {w : World} (h : Sat ρ β s w) : Sat ρ β s w.drew := ⟨h.blk, h.inj, h.kn⟩
theorem Ext.ofDrew {s s' : St} {β β' : Nat → Nat × Nat} {w w' : World} (h : Ext s s' β β' w.drew w') : Ext s s' β β' w w' :=
  ⟨h.ag, h.old, h.fresh, h.size, h.fr, h.len, h.os, h.tape, h.output⟩

theorem ext_bl {s s1 s2 : St} {β β' : Nat → Nat × Nat} {w w' : World} (h : Ext s s1 β β' w w') (e : s2.bl = s1.bl) : Ext s s2 β β' w w' := h.trans (ext_kn e β' w')

theorem Sat.bl {ρ : Env} {β : Nat → Nat × Nat} {s s1 : St} {w : World} (h : Sat ρ β s w) (e : s1.bl = s.bl) (hk : ∀ e b, (e, b) ∈ s1.kn → (e.ev ρ != 0) = b) : Sat ρ β s1 w :=
  h.mask (fun j b hj => .inr (by rw [← e]; exact hj)) hk

section
variable {cx : Cx} {ρ : Env} {cf : CF} {ex : XF}

theorem tryT_ok (hcx : CxOk cx) (hcf : CallOk cx cf) (hex : XOk cx ex) (hρ : EnvOk cx ρ) (id : Nat) (ops : Array Oper) {tbl : List Row} (htbl : tbl = tableOf ops ∧ Region.noSelect ops = true ∧ closedT ops.size ops = true)
    {tm tm' : List SV} {s s' : St} {b0 : List SBlk} (hb : b0.length = s.bl.length ∧ ∀ (j : Nat) (b : SBlk), b0[j]? = some b → b = SBlk.gone ∨ s.bl[j]? = some b) {β : Nat → Nat × Nat} {w : World} {a : Act} {Q : Exit → Act → World → Prop}
    (ht : a.tmps = (SV.denL ρ β tm).toArray) (hs : Sat ρ β s w) (hx : (tryT cx cf ex tbl ops tm s b0).sel ρ = some (tm', s'))
    (hQ : ∀ a' w', Beh ρ β s w a.defers tm' s' a' w' → Q .normal a' w') : (Code.region id ops true).wp cx.P Q a w := by
  obtain ⟨rfl, hns, hcl⟩ := htbl
  unfold tryT at hx
  simp only at hx
  split at hx
  · rename_i hc
    let d : D := { cx, cf, ex, ops, s0 := { bl := b0, kn := s.kn }, n0 := s.bl.length }
    have hs0 : Sat ρ β d.s0 w := hs.mask hb.2 hs.kn
    have hd : DOk d ρ β s := ⟨hcx, hcf, hex, hρ, rfl, hc, Nat.le_of_eq hb.1, hs.kn, hs0.inj⟩
    have hres : Sat ρ β { s with bl := s.bl ++ List.replicate (allocsTo ops ops.size) .gone } w.drew := by
      refine hs.drew.mask (fun j b hj => ?_) hs.kn
      simp only [List.getElem?_append] at hj
      split at hj
      · exact .inr hj
      · rw [List.getElem?_replicate] at hj
        split at hj <;> simp at hj
        exact .inl hj.symm
    have hlv : ∀ j, live { s with bl := s.bl ++ List.replicate (allocsTo ops ops.size) .gone } j → live s j := by
      rintro j ⟨l, e, o, hj⟩
      simp only [List.getElem?_append] at hj
      split at hj
      · exact ⟨l, e, o, hj⟩
      · rw [List.getElem?_replicate] at hj
        split at hj <;> simp at hj
    have hext : Ext s { s with bl := s.bl ++ List.replicate (allocsTo ops ops.size) .gone } β β w w.drew :=
      ⟨fun _ _ => rfl, fun j _ hl => hlv j hl, fun j hj hl => absurd (live_lt (hlv j hl)) (by omega), Nat.le_refl _, fun _ _ _ => rfl, by simp, rfl, rfl, rfl⟩
    have hcur : Cur (d.kn s.kn) ρ β s w a.defers tm ⟨s.bl ++ List.replicate (allocsTo ops ops.size) .gone, s.kn⟩ a w.drew :=
      ⟨⟨β, ht, hres, hext⟩, rfl, hs0.drew⟩
    refine Code.wp_mono (Q := fun e a' w' => e = .normal ∧ Beh ρ β s w a.defers tm' s' a' w') (fun e a' w' ⟨he, hb⟩ => by subst he; exact hQ a' w' hb) ?_
    refine wp_region_held (S := fun w => Sat ρ β ⟨b0, []⟩ w) hcx.mixed ?_
    rw [← liOf_zero]
    have hlen : (tableOf ops).length = ops.size := by
      have : ∀ (all l : List Base) (k : Nat), (rowsOf all l k).length = l.length := by
        intro all l
        induction l with
        | nil => intro k; rfl
        | cons b l ih => intro k; simp [rowsOf, ih]
      simp [tableOf, this]
    have hd' : DOk (d.kn s.kn) ρ β s := hd
    rw [hlen] at hx
    exact lin_ok (d := d) hcl hns (fun c a w h => by cases h.1) (fun a' w' β' h1 h2 h3 h4 => ⟨rfl, β', h1, h2, h3, h4⟩) (40 + ops.size) hd' hcur hx
  · cases hx

theorem drawF_ok (hcx : CxOk cx) (hcf : CallOk cx cf) (hex : XOk cx ex) (hρ : EnvOk cx ρ) (id : Nat) (ops : Array Oper) {tbl : List Row} (htbl : tbl = tableOf ops ∧ Region.noSelect ops = true ∧ closedT ops.size ops = true)
    {tm tm' : List SV} : ∀ (n : Nat) {s s' : St} {β : Nat → Nat × Nat} {w : World} {a : Act} {Q : Exit → Act → World → Prop},
    a.tmps = (SV.denL ρ β tm).toArray → Sat ρ β s w → (drawF cx cf ex tbl ops tm n s).sel ρ = some (tm', s') →
    (∀ a' w', Beh ρ β s w a.defers tm' s' a' w' → Q .normal a' w') → (Code.region id ops true).wp cx.P Q a w
  | 0, s, s', β, w, a, Q, ht, hs, h, hQ => by cases h
  | n + 1, s, s', β, w, a, Q, ht, hs, h, hQ => by
    simp only [drawF] at h
    split at h
    · cases h
    · rename_i e _ _ _
      simp only [T.sel] at h
      split at h
      · rename_i hne
        refine drawF_ok hcx hcf hex hρ id ops htbl n (s := { s with kn := (e, true) :: s.kn }) ht (hs.kn_cons (by simpa using hne)) h fun a' w' hb => hQ a' w' ?_
        exact hb.of (ext_kn (s := s) (s1 := { s with kn := (e, true) :: s.kn }) rfl β w)
      · rename_i hne
        refine drawF_ok hcx hcf hex hρ id ops htbl n (s := { s with kn := (e, false) :: s.kn }) ht (hs.kn_cons (by simpa using hne)) h fun a' w' hb => hQ a' w' ?_
        exact hb.of (ext_kn (s := s) (s1 := { s with kn := (e, false) :: s.kn }) rfl β w)
    · obtain ⟨s1, e1, hs1, h⟩ := defs_ok hρ _ hs h
      refine drawF_ok hcx hcf hex hρ id ops htbl n ht hs1 h fun a' w' hb => hQ a' w' ?_
      exact hb.of (ext_kn e1 β w)
    · exact tryT_ok hcx hcf hex hρ id ops htbl (maskBl_ok _ _) ht hs h hQ

theorem drawS_ok (hcx : CxOk cx) (hcf : CallOk cx cf) (hex : XOk cx ex) (hρ : EnvOk cx ρ) (rt : RT) (id : Nat) (ops : Array Oper) (hrt : ∀ t, rt id = some t → t = tableOf ops ∧ Region.noSelect ops = true ∧ closedT ops.size ops = true)
    {tm tm' : List SV} {s s' : St} {β : Nat → Nat × Nat} {w : World} {a : Act} {Q : Exit → Act → World → Prop}
    (ht : a.tmps = (SV.denL ρ β tm).toArray) (hs : Sat ρ β s w) (h : (drawS cx cf ex rt id ops tm s).sel ρ = some (tm', s'))
    (hQ : ∀ a' w', Beh ρ β s w a.defers tm' s' a' w' → Q .normal a' w') : (Code.region id ops true).wp cx.P Q a w := by
  unfold drawS at h
  split at h
  · cases h
  · rename_i tbl htb
    have htbl := tblOf_ok hrt htb
    simp only at h
    split at h
    · refine tryT_ok hcx hcf hex hρ id ops htbl ?_ ht hs h hQ
      split
      · exact keepJ_ok _ _ _
      · exact ⟨rfl, fun j b h => .inr h⟩
    · exact drawF_ok hcx hcf hex hρ id ops htbl 12 ht hs h hQ

end

/-! ### code -/

inductive Ex where
  | normal
  | exit (id : Nat)
  | ret

def Ex.to : Ex → Exit
  | .normal => .normal
  | .exit id => .exit id
  | .ret => .ret

abbrev RC := T (Ex × List SV × St)

def loopS (body : List SV → St → RC) : Nat → List SV → St → RC
  | 0, _, _ => .bad 70
  | n + 1, tm, s => (body tm s).bind fun r => match r.1 with
    | .normal => loopS body n r.2.1 r.2.2
    | e => .leaf (e, r.2)

def execCode (cx : Cx) (cf : CF) (ex : XF) (rt : RT) (m : Nat) : Code → List SV → St → RC
  | .skip, tm, s => .leaf (.normal, tm, s)
  | .label _, tm, s => .leaf (.normal, tm, s)
  | .exit id, tm, s => .leaf (.exit id, tm, s)
  | .ret, tm, s => .leaf (.ret, tm, s)
  | .region _ ops false, tm, s => (runOps cx cf ex ops ops.toList tm s).bind fun r => .leaf (.normal, r)
  | .region id ops true, tm, s => (drawS cx cf ex rt id ops tm s).bind fun r => .leaf (.normal, r)
  | .seq x y, tm, s => (execCode cx cf ex rt m x tm s).bind fun r => match r.1 with
    | .normal => execCode cx cf ex rt m y r.2.1 r.2.2
    | e => .leaf (e, r.2)
  | .cond c x y, tm, s => match evO tm c with
    | .bool e => fork s e (fun s => execCode cx cf ex rt m x tm s) (fun s => execCode cx cf ex rt m y tm s)
    | _ => .bad 71
  | .block id c, tm, s => (execCode cx cf ex rt m c tm s).bind fun r => match r.1 with
    | .exit id' => if id' = id then .leaf (.normal, r.2) else .leaf (.exit id', r.2)
    | e => .leaf (e, r.2)
  | .scope c, tm, s => execCode cx cf ex rt m c tm s
  | .loop c, tm, s => loopS (execCode cx cf ex rt m c) m tm s
  | .rangeFunc _ _ _ _, _, _ => .bad 72
  | .goto _, _, _ => .bad 73
  | .refuse _, _, _ => .bad 74

section
variable {cx : Cx} {ρ : Env} {cf : CF} {ex : XF} {m : Nat}

def CodeOk (cx : Cx) (ρ : Env) (body : List SV → St → RC) (c : Code) : Prop :=
  ∀ (tm tm' : List SV) (s s' : St) (x : Ex) (β : Nat → Nat × Nat) (w : World) (a : Act) (Q : Exit → Act → World → Prop),
    a.tmps = (SV.denL ρ β tm).toArray → Sat ρ β s w → (body tm s).sel ρ = some (x, tm', s') →
    (∀ a' w', Beh ρ β s w a.defers tm' s' a' w' → Q x.to a' w') → c.wp cx.P Q a w

theorem loopS_ok {body : List SV → St → RC} {c : Code} (hb : CodeOk cx ρ body c) : ∀ (n : Nat) {tm tm' : List SV} {s s' : St} {x : Ex} {β : Nat → Nat × Nat} {w : World} {a : Act} {Q : Exit → Act → World → Prop},
    a.tmps = (SV.denL ρ β tm).toArray → Sat ρ β s w → (loopS body n tm s).sel ρ = some (x, tm', s') →
    (∀ a' w', Beh ρ β s w a.defers tm' s' a' w' → Q x.to a' w') → Code.rounds cx.P c Q n a w
  | 0, tm, tm', s, s', x, β, w, a, Q, ht, hs, h, hQ => by cases h
  | n + 1, tm, tm', s, s', x, β, w, a, Q, ht, hs, h, hQ => by
    simp only [loopS] at h
    obtain ⟨⟨x1, tm1, s1⟩, h1, h2⟩ := T.sel_bind_some h
    rw [rounds_succ]
    refine hb _ _ _ _ _ _ _ _ _ ht hs h1 ?_
    rintro a' w' ⟨β', ht', hd', hs', hx'⟩
    cases x1 with
    | normal =>
      refine loopS_ok hb n ht' hs' h2 fun a2 w2 hb2 => hQ a2 w2 ?_
      rw [hd'] at hb2
      exact hb2.of hx'
    | exit id => cases h2; exact hQ _ _ ⟨β', ht', hd', hs', hx'⟩
    | ret => cases h2; exact hQ _ _ ⟨β', ht', hd', hs', hx'⟩

theorem execCode_ok {rt : RT} (hcx : CxOk cx) (hcf : CallOk cx cf) (hex : XOk cx ex) (hρ : EnvOk cx ρ) (c : Code) (hrt : RtOk rt c) : CodeOk cx ρ (execCode cx cf ex rt m c) c := by
  induction c with
  | skip => intro tm tm' s s' x β w a Q ht hs h hQ; cases h; exact wp_skip (hQ _ _ ⟨β, ht, rfl, hs, Ext.refl _ _ _⟩)
  | label l => intro tm tm' s s' x β w a Q ht hs h hQ; cases h; exact wp_label (hQ _ _ ⟨β, ht, rfl, hs, Ext.refl _ _ _⟩)
  | exit id => intro tm tm' s s' x β w a Q ht hs h hQ; cases h; exact wp_exit (hQ _ _ ⟨β, ht, rfl, hs, Ext.refl _ _ _⟩)
  | ret => intro tm tm' s s' x β w a Q ht hs h hQ; cases h; exact wp_ret (hQ _ _ ⟨β, ht, rfl, hs, Ext.refl _ _ _⟩)
  | region id ops dr =>
    intro tm tm' s s' x β w a Q ht hs h hQ
    cases dr with
    | false =>
      simp only [execCode] at h
      obtain ⟨⟨tm1, s1⟩, h1, h2⟩ := T.sel_bind_some h
      cases h2
      exact wp_region_list (runOps_ok hcx hcf hex hρ ops ops.toList ht hs h1 hQ)
    | true =>
      simp only [execCode] at h
      obtain ⟨⟨tm1, s1⟩, h1, h2⟩ := T.sel_bind_some h
      cases h2
      exact drawS_ok hcx hcf hex hρ rt id ops (fun t h => hrt id ops (by simp [regs]) t h) ht hs h1 hQ
  | seq c1 c2 ih1 ih2 =>
    intro tm tm' s s' x β w a Q ht hs h hQ
    simp only [execCode] at h
    obtain ⟨⟨x1, tm1, s1⟩, h1, h2⟩ := T.sel_bind_some h
    have hr1 : RtOk rt c1 := fun i o hm => hrt i o (by simp [regs, hm])
    have hr2 : RtOk rt c2 := fun i o hm => hrt i o (by simp [regs, hm])
    refine wp_seq (ih1 hr1 _ _ _ _ _ _ _ _ _ ht hs h1 ?_)
    rintro a' w' ⟨β', ht', hd', hs', hx'⟩
    cases x1 with
    | normal =>
      refine ih2 hr2 _ _ _ _ _ _ _ _ _ ht' hs' h2 fun a2 w2 hb2 => hQ a2 w2 ?_
      rw [hd'] at hb2
      exact hb2.of hx'
    | exit id => cases h2; exact hQ _ _ ⟨β', ht', hd', hs', hx'⟩
    | ret => cases h2; exact hQ _ _ ⟨β', ht', hd', hs', hx'⟩
  | cond c c1 c2 ih1 ih2 =>
    intro tm tm' s s' x β w a Q ht hs h hQ
    simp only [execCode] at h
    split at h
    · rename_i e he
      have hr1 : RtOk rt c1 := fun i o hm => hrt i o (by simp [regs, hm])
      have hr2 : RtOk rt c2 := fun i o hm => hrt i o (by simp [regs, hm])
      have hc : a.eval c = .bool (e.ev ρ != 0) := by rw [evO_den ht, he]; rfl
      obtain ⟨s1, e1, hs1, ⟨hne, h⟩ | ⟨h0, h⟩⟩ := fork_ok hs h
      · refine wp_cond_true (by rw [hc]; simp [hne]) (ih1 hr1 _ _ _ _ _ _ _ _ _ ht hs1 h fun a2 w2 hb2 => hQ a2 w2 ?_)
        exact hb2.of (ext_kn e1 β w)
      · refine wp_cond_false (by rw [hc]; simp [h0]) (ih2 hr2 _ _ _ _ _ _ _ _ _ ht hs1 h fun a2 w2 hb2 => hQ a2 w2 ?_)
        exact hb2.of (ext_kn e1 β w)
    · cases h
  | block id c ih =>
    intro tm tm' s s' x β w a Q ht hs h hQ
    simp only [execCode] at h
    obtain ⟨⟨x1, tm1, s1⟩, h1, h2⟩ := T.sel_bind_some h
    refine wp_block (ih (fun i o hm => hrt i o (by simpa [regs] using hm)) _ _ _ _ _ _ _ _ _ ht hs h1 ?_)
    rintro a' w' ⟨β', ht', hd', hs', hx'⟩
    cases x1 with
    | normal => cases h2; exact hQ _ _ ⟨β', ht', hd', hs', hx'⟩
    | ret => cases h2; exact hQ _ _ ⟨β', ht', hd', hs', hx'⟩
    | exit id' =>
      simp only at h2
      simp only [Ex.to, Exit.inBlock]
      split at h2
      · rename_i hid; cases h2; rw [if_pos hid]; exact hQ _ _ ⟨β', ht', hd', hs', hx'⟩
      · rename_i hid; cases h2; rw [if_neg hid]; exact hQ _ _ ⟨β', ht', hd', hs', hx'⟩
  | scope c ih =>
    intro tm tm' s s' x β w a Q ht hs h hQ
    simp only [execCode] at h
    refine wp_scope_straight (ih (fun i o hm => hrt i o (by simpa [regs] using hm)) _ _ _ _ _ _ _ _ _ ht hs h fun a' w' hb => ?_)
    have := hQ a' w' hb
    cases x <;> exact this
  | loop c ih =>
    intro tm tm' s s' x β w a Q ht hs h hQ
    simp only [execCode] at h
    exact wp_loop_rounds m (loopS_ok (ih (fun i o hm => hrt i o (by simpa [regs] using hm))) m ht hs h hQ)
  | rangeFunc _ _ _ _ => intro tm tm' s s' x β w a Q ht hs h hQ; cases h
  | goto _ => intro tm tm' s s' x β w a Q ht hs h hQ; cases h
  | refuse _ => intro tm tm' s s' x β w a Q ht hs h hQ; cases h

end
end Go.Eng
