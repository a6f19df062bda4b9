/-
  A symbolic executor, part J: drawn regions, code, functions.
-/
import Derived.Test.YtjooaieolphomaaEngI
set_option linter.unusedVariables false
set_option linter.unusedSimpArgs false
namespace Go.Eng

/-! ### a region that draws -/

def maskBl : List SBlk → List SBlk → List SBlk
  | [], _ => []
  | b :: l, c :: m => (if b.beq c then b else .gone) :: maskBl l m
  | _ :: l, [] => .gone :: maskBl l []

theorem maskBl_ok : ∀ (l m : List SBlk), (maskBl l m).length = l.length ∧ ∀ (j : Nat) (b : SBlk), (maskBl l m)[j]? = some b → b = SBlk.gone ∨ l[j]? = some b
  | [], _ => ⟨rfl, fun j b h => by simp [maskBl] at h⟩
  | x :: l, c :: m => by
    obtain ⟨h1, h2⟩ := maskBl_ok l m
    refine ⟨by simp [maskBl, h1], fun j b h => ?_⟩
    cases j with
    | zero =>
      simp only [maskBl, List.getElem?_cons_zero, Option.some.injEq] at h
      split at h
      · exact .inr (by simp [h])
      · exact .inl h.symm
    | succ j => simpa using h2 j b (by simpa [maskBl] using h)
  | x :: l, [] => by
    obtain ⟨h1, h2⟩ := maskBl_ok l []
    refine ⟨by simp [maskBl, h1], fun j b h => ?_⟩
    cases j with
    | zero => simp [maskBl] at h; exact .inl h.symm
    | succ j => simpa using h2 j b (by simpa [maskBl] using h)

def drawS (cx : Cx) (cf : CF) (ex : XF) (ops : Array Oper) (tm : List SV) : Nat → St → RR
  | 0, _ => .bad 60
  | n + 1, s =>
    match runOps cx cf ex ops ops.toList tm s with
    | .bad k => .bad k
    | .br e _ _ => .br e (drawS cx cf ex ops tm n { s with kn := (e, true) :: s.kn }) (drawS cx cf ex ops tm n { s with kn := (e, false) :: s.kn })
    | .leaf r =>
      let s0 : St := { bl := maskBl s.bl r.2.bl, kn := s.kn }
      let d : D := { cx, cf, ex, ops, s0, n0 := s.bl.length }
      if s0.sc s.bl.length && Region.noSelect ops then
        match d.explore ops.size (Array.replicate ops.size false) tm { s with bl := s.bl ++ List.replicate (allocsTo ops ops.size) .gone } with
        | .ok tm' s' => .leaf (tm', { bl := s'.bl, kn := s.kn })
        | .need e => .br e (drawS cx cf ex ops tm n { s with kn := (e, true) :: s.kn }) (drawS cx cf ex ops tm n { s with kn := (e, false) :: s.kn })
        | .bad k => .bad k
      else .bad 61

theorem Sat.drew {ρ : Env} {β : Nat → Nat × Nat} {s : St} {w : World} (h : Sat ρ β s w) : Sat ρ β s w.drew := ⟨h.blk, h.inj, h.kn⟩
theorem Ext.ofDrew {s s' : St} {β β' : Nat → Nat × Nat} {w w' : World} (h : Ext s s' β β' w.drew w') : Ext s s' β β' w w' :=
  ⟨h.ag, h.old, h.fresh, h.size, h.fr, h.len, h.os, h.tape, h.output⟩

theorem ext_bl {s s1 s2 : St} {β β' : Nat → Nat × Nat} {w w' : World} (h : Ext s s1 β β' w w') (e : s2.bl = s1.bl) : Ext s s2 β β' w w' := h.trans (ext_kn e β' w')

theorem Sat.bl {ρ : Env} {β : Nat → Nat × Nat} {s s1 : St} {w : World} (h : Sat ρ β s w) (e : s1.bl = s.bl) (hk : ∀ e b, (e, b) ∈ s1.kn → (e.ev ρ != 0) = b) : Sat ρ β s1 w :=
  h.mask (fun j b hj => .inr (by rw [← e]; exact hj)) hk

section
variable {cx : Cx} {ρ : Env} {cf : CF} {ex : XF}

theorem drawS_ok (hcx : CxOk cx) (hcf : CallOk cx cf) (hex : XOk cx ex) (hρ : EnvOk cx ρ) (id : Nat) (ops : Array Oper) {tm tm' : List SV} : ∀ (n : Nat) {s s' : St} {β : Nat → Nat × Nat} {w : World} {a : Act} {Q : Exit → Act → World → Prop},
    a.tmps = (SV.denL ρ β tm).toArray → Sat ρ β s w → (drawS cx cf ex ops tm n s).sel ρ = some (tm', s') →
    (∀ a' w', Beh ρ β s w a.defers tm' s' a' w' → Q .normal a' w') → (Code.region id ops true).wp cx.P Q a w
  | 0, s, s', β, w, a, Q, ht, hs, h, hQ => by cases h
  | n + 1, s, s', β, w, a, Q, ht, hs, h, hQ => by
    have forks : ∀ e, (T.br e (drawS cx cf ex ops tm n { s with kn := (e, true) :: s.kn }) (drawS cx cf ex ops tm n { s with kn := (e, false) :: s.kn })).sel ρ = some (tm', s') → (Code.region id ops true).wp cx.P Q a w := by
      intro e h
      simp only [T.sel] at h
      split at h
      · rename_i hne
        refine drawS_ok hcx hcf hex hρ id ops n (s := { s with kn := (e, true) :: s.kn }) ht (hs.kn_cons (by simpa using hne)) h fun a' w' hb => hQ a' w' ?_
        exact hb.of (ext_kn (s := s) (s1 := { s with kn := (e, true) :: s.kn }) rfl β w)
      · rename_i hne
        refine drawS_ok hcx hcf hex hρ id ops n (s := { s with kn := (e, false) :: s.kn }) ht (hs.kn_cons (by simpa using hne)) h fun a' w' hb => hQ a' w' ?_
        exact hb.of (ext_kn (s := s) (s1 := { s with kn := (e, false) :: s.kn }) rfl β w)
    simp only [drawS] at h
    split at h
    · cases h
    · exact forks _ h
    · rename_i r hr
      split at h
      · rename_i hc
        simp only [Bool.and_eq_true] at hc
        split at h
        · rename_i tm1 s1 hx
          cases h
          have hmk := maskBl_ok s.bl r.2.bl
          let d : D := { cx, cf, ex, ops, s0 := { bl := maskBl s.bl r.2.bl, kn := s.kn }, n0 := s.bl.length }
          have hs0 : Sat ρ β d.s0 w := hs.mask hmk.2 hs.kn
          have hd : DOk d ρ β s := ⟨hcx, hcf, hex, hρ, rfl, hc.1, Nat.le_of_eq hmk.1, hs.kn, hs0.inj⟩
          have hres : Sat ρ β { s with bl := s.bl ++ List.replicate (allocsTo ops ops.size) .gone } w.drew := by
            refine hs.drew.mask (fun j b hj => ?_) hs.kn
            simp only [List.getElem?_append] at hj
            split at hj
            · exact .inr hj
            · rw [List.getElem?_replicate] at hj
              split at hj <;> simp at hj
              exact .inl hj.symm
          have hlv : ∀ j, live { s with bl := s.bl ++ List.replicate (allocsTo ops ops.size) .gone } j → live s j := by
            rintro j ⟨l, e, o, hj⟩
            simp only [List.getElem?_append] at hj
            split at hj
            · exact ⟨l, e, o, hj⟩
            · rw [List.getElem?_replicate] at hj
              split at hj <;> simp at hj
          have hext : Ext s { s with bl := s.bl ++ List.replicate (allocsTo ops ops.size) .gone } β β w w.drew :=
            ⟨fun _ _ => rfl, fun j _ hl => hlv j hl, fun j hj hl => absurd (live_lt (hlv j hl)) (by omega), Nat.le_refl _, fun _ _ _ => rfl, by simp, rfl, rfl, rfl⟩
          have hcur : Cur d ρ β s w a.defers tm { s with bl := s.bl ++ List.replicate (allocsTo ops ops.size) .gone } a w.drew :=
            ⟨⟨β, ht, hres, hext⟩, rfl, hs0.drew⟩
          refine Code.wp_mono (Q := fun e a' w' => e = .normal ∧ Beh ρ β s w a.defers tm' { bl := s1.bl, kn := s.kn } a' w') (fun e a' w' ⟨he, hb⟩ => by subst he; exact hQ a' w' hb) ?_
          refine wp_region_held (S := Sat ρ β d.s0) hcx.mixed ?_
          refine explore_ok hd hc.2 (fun c a w h => by cases h.1) ops.size hcur hx ?_
          rintro a' w' s'' hbl ⟨⟨β', ht', hs', hx'⟩, hds', _⟩
          exact ⟨rfl, β', ht', hds', hs'.bl (s1 := { bl := s1.bl, kn := s.kn }) hbl.symm hs.kn, ext_bl hx' hbl.symm⟩
        · exact forks _ h
        · cases h
      · cases h

end

/-! ### code -/

inductive Ex where
  | normal
  | exit (id : Nat)
  | ret

def Ex.to : Ex → Exit
  | .normal => .normal
  | .exit id => .exit id
  | .ret => .ret

abbrev RC := T (Ex × List SV × St)

def loopS (body : List SV → St → RC) : Nat → List SV → St → RC
  | 0, _, _ => .bad 70
  | n + 1, tm, s => (body tm s).bind fun r => match r.1 with
    | .normal => loopS body n r.2.1 r.2.2
    | e => .leaf (e, r.2)

def execCode (cx : Cx) (cf : CF) (ex : XF) (m : Nat) : Code → List SV → St → RC
  | .skip, tm, s => .leaf (.normal, tm, s)
  | .label _, tm, s => .leaf (.normal, tm, s)
  | .exit id, tm, s => .leaf (.exit id, tm, s)
  | .ret, tm, s => .leaf (.ret, tm, s)
  | .region _ ops false, tm, s => (runOps cx cf ex ops ops.toList tm s).bind fun r => .leaf (.normal, r)
  | .region _ ops true, tm, s => (drawS cx cf ex ops tm 12 s).bind fun r => .leaf (.normal, r)
  | .seq x y, tm, s => (execCode cx cf ex m x tm s).bind fun r => match r.1 with
    | .normal => execCode cx cf ex m y r.2.1 r.2.2
    | e => .leaf (e, r.2)
  | .cond c x y, tm, s => match evO tm c with
    | .bool e => fork s e (fun s => execCode cx cf ex m x tm s) (fun s => execCode cx cf ex m y tm s)
    | _ => .bad 71
  | .block id c, tm, s => (execCode cx cf ex m c tm s).bind fun r => match r.1 with
    | .exit id' => if id' = id then .leaf (.normal, r.2) else .leaf (.exit id', r.2)
    | e => .leaf (e, r.2)
  | .scope c, tm, s => execCode cx cf ex m c tm s
  | .loop c, tm, s => loopS (execCode cx cf ex m c) m tm s
  | .rangeFunc _ _ _ _, _, _ => .bad 72
  | .goto _, _, _ => .bad 73
  | .refuse _, _, _ => .bad 74

section
variable {cx : Cx} {ρ : Env} {cf : CF} {ex : XF} {m : Nat}

def CodeOk (cx : Cx) (ρ : Env) (body : List SV → St → RC) (c : Code) : Prop :=
  ∀ (tm tm' : List SV) (s s' : St) (x : Ex) (β : Nat → Nat × Nat) (w : World) (a : Act) (Q : Exit → Act → World → Prop),
    a.tmps = (SV.denL ρ β tm).toArray → Sat ρ β s w → (body tm s).sel ρ = some (x, tm', s') →
    (∀ a' w', Beh ρ β s w a.defers tm' s' a' w' → Q x.to a' w') → c.wp cx.P Q a w

theorem loopS_ok {body : List SV → St → RC} {c : Code} (hb : CodeOk cx ρ body c) : ∀ (n : Nat) {tm tm' : List SV} {s s' : St} {x : Ex} {β : Nat → Nat × Nat} {w : World} {a : Act} {Q : Exit → Act → World → Prop},
    a.tmps = (SV.denL ρ β tm).toArray → Sat ρ β s w → (loopS body n tm s).sel ρ = some (x, tm', s') →
    (∀ a' w', Beh ρ β s w a.defers tm' s' a' w' → Q x.to a' w') → Code.rounds cx.P c Q n a w
  | 0, tm, tm', s, s', x, β, w, a, Q, ht, hs, h, hQ => by cases h
  | n + 1, tm, tm', s, s', x, β, w, a, Q, ht, hs, h, hQ => by
    simp only [loopS] at h
    obtain ⟨⟨x1, tm1, s1⟩, h1, h2⟩ := T.sel_bind_some h
    rw [rounds_succ]
    refine hb _ _ _ _ _ _ _ _ _ ht hs h1 ?_
    rintro a' w' ⟨β', ht', hd', hs', hx'⟩
    cases x1 with
    | normal =>
      refine loopS_ok hb n ht' hs' h2 fun a2 w2 hb2 => hQ a2 w2 ?_
      rw [hd'] at hb2
      exact hb2.of hx'
    | exit id => cases h2; exact hQ _ _ ⟨β', ht', hd', hs', hx'⟩
    | ret => cases h2; exact hQ _ _ ⟨β', ht', hd', hs', hx'⟩

theorem execCode_ok (hcx : CxOk cx) (hcf : CallOk cx cf) (hex : XOk cx ex) (hρ : EnvOk cx ρ) (c : Code) : CodeOk cx ρ (execCode cx cf ex m c) c := by
  induction c with
  | skip => intro tm tm' s s' x β w a Q ht hs h hQ; cases h; exact wp_skip (hQ _ _ ⟨β, ht, rfl, hs, Ext.refl _ _ _⟩)
  | label l => intro tm tm' s s' x β w a Q ht hs h hQ; cases h; exact wp_label (hQ _ _ ⟨β, ht, rfl, hs, Ext.refl _ _ _⟩)
  | exit id => intro tm tm' s s' x β w a Q ht hs h hQ; cases h; exact wp_exit (hQ _ _ ⟨β, ht, rfl, hs, Ext.refl _ _ _⟩)
  | ret => intro tm tm' s s' x β w a Q ht hs h hQ; cases h; exact wp_ret (hQ _ _ ⟨β, ht, rfl, hs, Ext.refl _ _ _⟩)
  | region id ops dr =>
    intro tm tm' s s' x β w a Q ht hs h hQ
    cases dr with
    | false =>
      simp only [execCode] at h
      obtain ⟨⟨tm1, s1⟩, h1, h2⟩ := T.sel_bind_some h
      cases h2
      exact wp_region_list (runOps_ok hcx hcf hex hρ ops ops.toList ht hs h1 hQ)
    | true =>
      simp only [execCode] at h
      obtain ⟨⟨tm1, s1⟩, h1, h2⟩ := T.sel_bind_some h
      cases h2
      exact drawS_ok hcx hcf hex hρ id ops 12 ht hs h1 hQ
  | seq c1 c2 ih1 ih2 =>
    intro tm tm' s s' x β w a Q ht hs h hQ
    simp only [execCode] at h
    obtain ⟨⟨x1, tm1, s1⟩, h1, h2⟩ := T.sel_bind_some h
    refine wp_seq (ih1 _ _ _ _ _ _ _ _ _ ht hs h1 ?_)
    rintro a' w' ⟨β', ht', hd', hs', hx'⟩
    cases x1 with
    | normal =>
      refine ih2 _ _ _ _ _ _ _ _ _ ht' hs' h2 fun a2 w2 hb2 => hQ a2 w2 ?_
      rw [hd'] at hb2
      exact hb2.of hx'
    | exit id => cases h2; exact hQ _ _ ⟨β', ht', hd', hs', hx'⟩
    | ret => cases h2; exact hQ _ _ ⟨β', ht', hd', hs', hx'⟩
  | cond c c1 c2 ih1 ih2 =>
    intro tm tm' s s' x β w a Q ht hs h hQ
    simp only [execCode] at h
    split at h
    · rename_i e he
      have hc : a.eval c = .bool (e.ev ρ != 0) := by rw [evO_den ht, he]; rfl
      obtain ⟨s1, e1, hs1, ⟨hne, h⟩ | ⟨h0, h⟩⟩ := fork_ok hs h
      · refine wp_cond_true (by rw [hc]; simp [hne]) (ih1 _ _ _ _ _ _ _ _ _ ht hs1 h fun a2 w2 hb2 => hQ a2 w2 ?_)
        exact hb2.of (ext_kn e1 β w)
      · refine wp_cond_false (by rw [hc]; simp [h0]) (ih2 _ _ _ _ _ _ _ _ _ ht hs1 h fun a2 w2 hb2 => hQ a2 w2 ?_)
        exact hb2.of (ext_kn e1 β w)
    · cases h
  | block id c ih =>
    intro tm tm' s s' x β w a Q ht hs h hQ
    simp only [execCode] at h
    obtain ⟨⟨x1, tm1, s1⟩, h1, h2⟩ := T.sel_bind_some h
    refine wp_block (ih _ _ _ _ _ _ _ _ _ ht hs h1 ?_)
    rintro a' w' ⟨β', ht', hd', hs', hx'⟩
    cases x1 with
    | normal => cases h2; exact hQ _ _ ⟨β', ht', hd', hs', hx'⟩
    | ret => cases h2; exact hQ _ _ ⟨β', ht', hd', hs', hx'⟩
    | exit id' =>
      simp only at h2
      simp only [Ex.to, Exit.inBlock]
      split at h2
      · rename_i hid; cases h2; rw [if_pos hid]; exact hQ _ _ ⟨β', ht', hd', hs', hx'⟩
      · rename_i hid; cases h2; rw [if_neg hid]; exact hQ _ _ ⟨β', ht', hd', hs', hx'⟩
  | scope c ih =>
    intro tm tm' s s' x β w a Q ht hs h hQ
    simp only [execCode] at h
    refine wp_scope_straight (ih _ _ _ _ _ _ _ _ _ ht hs h fun a' w' hb => ?_)
    have := hQ a' w' hb
    cases x <;> exact this
  | loop c ih =>
    intro tm tm' s s' x β w a Q ht hs h hQ
    simp only [execCode] at h
    exact wp_loop_rounds m (loopS_ok ih m ht hs h hQ)
  | rangeFunc _ _ _ _ => intro tm tm' s s' x β w a Q ht hs h hQ; cases h
  | goto _ => intro tm tm' s s' x β w a Q ht hs h hQ; cases h
  | refuse _ => intro tm tm' s s' x β w a Q ht hs h hQ; cases h

end
end Go.Eng
