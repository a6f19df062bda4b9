/-
  A symbolic executor, part TE: code and functions with loops.
-/
import Derived.Test.YtjooaieolphomaaDoorFngTD
set_option linter.unusedVariables false
set_option linter.unusedSimpArgs false
set_option linter.unusedSectionVars false
namespace Go.Eng

inductive How where
  | auto
  | unroll (n : Nat)
  | tmpl (mk : Option Marks)

/-- round by round, as long as each round goes one way -/
def seqU (body : List SV → St → RCT) : Nat → List SV → St → Option (Ex × List SV × St)
  | 0, _, _ => none
  | n + 1, tm, s => match body tm s with
    | .leaf (.normal, tm', s') => seqU body n tm' s'
    | .leaf r => some r
    | _ => none

theorem seqU_ok {body : List SV → St → RCT} : ∀ {n : Nat} {tm : List SV} {s : St} {r : Ex × List SV × St}, seqU body n tm s = some r → loopU body n tm s = .leaf r
  | 0, _, _, _, h => by cases h
  | n + 1, tm, s, r, h => by
    simp only [seqU] at h
    split at h
    · rename_i tm' s' hb
      simp only [loopU, hb, TT.bind]
      exact seqU_ok h
    · rename_i q hq hb
      cases h
      simp only [loopU, hb, TT.bind]
      obtain ⟨x, tm', s'⟩ := r
      cases x with
      | normal => exact absurd rfl (hq tm' s')
      | exit _ => rfl
      | ret => rfl
    · cases h

def loopH (cx : Cx) (h : How) (m : Nat) (body : List SV → St → RCT) (tm : List SV) (s : St) : RCT :=
  match h with
  | .unroll n => loopU body n tm s
  | .tmpl mk => loopT cx mk body tm s
  | .auto => match seqU body m tm s with
    | some r => .leaf r
    | none => loopT cx none body tm s

/-- a loop's name: the first region of its body -/
def firstReg : Code → Option Nat
  | .region id _ _ => some id
  | .seq x y => match firstReg x with
    | some i => some i
    | none => firstReg y
  | .cond _ x y => match firstReg x with
    | some i => some i
    | none => firstReg y
  | .block _ c => firstReg c
  | .scope c => firstReg c
  | .loop c => firstReg c
  | .rangeFunc _ _ x y => match firstReg x with
    | some i => some i
    | none => firstReg y
  | _ => none

structure XP where
  cx : Cx
  cf : CF
  cfT : CFT
  ex : XF
  m : Nat

def execT (X : XP) (rt : RT) (lh : Nat → How) : Code → List SV → St → RCT
  | .skip, tm, s => .leaf (.normal, tm, s)
  | .label _, tm, s => .leaf (.normal, tm, s)
  | .exit id, tm, s => .leaf (.exit id, tm, s)
  | .ret, tm, s => .leaf (.ret, tm, s)
  | .region _ ops false, tm, s => (runOpsT X.cx X.cfT X.ex ops ops.toList tm s).bind fun r => .leaf (.normal, r)
  | .region id ops true, tm, s => (drawS X.cx X.cf X.ex rt id ops tm s).lift.bind fun r => .leaf (.normal, r)
  | .seq x y, tm, s => (execT X rt lh x tm s).bind fun r => match r.1 with
    | .normal => execT X rt lh y r.2.1 r.2.2
    | e => .leaf (e, r.2)
  | .cond c x y, tm, s => match evO tm c with
    | .bool e => forkT s e (fun s => execT X rt lh x tm s) (fun s => execT X rt lh y tm s)
    | _ => .bad 71
  | .block id c, tm, s => (execT X rt lh c tm s).bind fun r => match r.1 with
    | .exit id' => if id' = id then .leaf (.normal, r.2) else .leaf (.exit id', r.2)
    | e => .leaf (e, r.2)
  | .scope c, tm, s => execT X rt lh c tm s
  | .loop c, tm, s => loopH X.cx (match firstReg c with
    | some i => lh i
    | none => .auto) X.m (execT X rt lh c) tm s
  | .rangeFunc _ _ _ _, _, _ => .bad 72
  | .goto _, _, _ => .bad 73
  | .refuse _, _, _ => .bad 74

structure XOk2 (X : XP) : Prop where
  hcx : CxOk X.cx
  hcf : CallOk X.cx X.cf
  hcfT : CallOkT X.cx X.cfT
  hex : XOk X.cx X.ex

theorem loopH_ok {cx : Cx} {ρ : Env} {h0 : How} {m : Nat} {body : List SV → St → RCT} {c : Code} (hb : CodeOkT cx body c) (hρ : EnvOk cx ρ) {tm tm' : List SV} {s s' : St} {x : Ex} {β : Bt} {w : World} {a : Act} {Q : Exit → Act → World → Prop}
    (ht : a.tmps = (SV.denL ρ β tm).toArray) (hs : Sat ρ β s w) (h : (loopH cx h0 m body tm s).sel ρ = some (x, tm', s'))
    (hQ : ∀ a' w', Beh ρ β s w a.defers tm' s' a' w' → Q x.to a' w') : (Code.loop c).wp cx.P Q a w := by
  unfold loopH at h
  split at h
  · rename_i n
    exact wp_loop_rounds n (loopU_ok hb hρ n ht hs h hQ)
  · exact loopT_ok hb hρ ht hs h hQ
  · split at h
    · rename_i r hr
      refine wp_loop_rounds m (loopU_ok hb hρ m ht hs ?_ hQ)
      rw [seqU_ok hr]; exact h
    · exact loopT_ok hb hρ ht hs h hQ

theorem execT_ok {X : XP} {rt : RT} {lh : Nat → How} (hX : XOk2 X) (c : Code) (hrt : RtOk rt c) : CodeOkT X.cx (execT X rt lh c) c := by
  induction c with
  | skip => intro ρ tm tm' s s' x β w a Q hρ ht hs h hQ; cases h; exact wp_skip (hQ _ _ ⟨β, ht, rfl, hs, Ext.refl _ _ _⟩)
  | label l => intro ρ tm tm' s s' x β w a Q hρ ht hs h hQ; cases h; exact wp_label (hQ _ _ ⟨β, ht, rfl, hs, Ext.refl _ _ _⟩)
  | exit id => intro ρ tm tm' s s' x β w a Q hρ ht hs h hQ; cases h; exact wp_exit (hQ _ _ ⟨β, ht, rfl, hs, Ext.refl _ _ _⟩)
  | ret => intro ρ tm tm' s s' x β w a Q hρ ht hs h hQ; cases h; exact wp_ret (hQ _ _ ⟨β, ht, rfl, hs, Ext.refl _ _ _⟩)
  | region id ops dr =>
    intro ρ tm tm' s s' x β w a Q hρ ht hs h hQ
    cases dr with
    | false =>
      simp only [execT] at h
      obtain ⟨⟨tm1, s1⟩, h1, h2⟩ := TT.sel_bind_some h
      cases h2
      exact wp_region_list (runOpsT_ok hX.hcx hX.hcfT hX.hex hρ ops ops.toList ht hs h1 hQ)
    | true =>
      simp only [execT] at h
      obtain ⟨⟨tm1, s1⟩, h1, h2⟩ := TT.sel_bind_some h
      cases h2
      rw [T.lift_sel] at h1
      exact drawS_ok hX.hcx hX.hcf hX.hex hρ rt id ops (fun t h => hrt id ops (by simp [regs]) t h) ht hs h1 hQ
  | seq c1 c2 ih1 ih2 =>
    intro ρ tm tm' s s' x β w a Q hρ ht hs h hQ
    simp only [execT] at h
    obtain ⟨⟨x1, tm1, s1⟩, h1, h2⟩ := TT.sel_bind_some h
    have hr1 : RtOk rt c1 := fun i o hm => hrt i o (by simp [regs, hm])
    have hr2 : RtOk rt c2 := fun i o hm => hrt i o (by simp [regs, hm])
    refine wp_seq (ih1 hr1 _ _ _ _ _ _ _ _ _ _ hρ ht hs h1 ?_)
    rintro a' w' ⟨β', ht', hd', hs', hx'⟩
    cases x1 with
    | normal =>
      refine ih2 hr2 _ _ _ _ _ _ _ _ _ _ hρ ht' hs' h2 fun a2 w2 hb2 => hQ a2 w2 ?_
      rw [hd'] at hb2
      exact hb2.of hx'
    | exit id => cases h2; exact hQ _ _ ⟨β', ht', hd', hs', hx'⟩
    | ret => cases h2; exact hQ _ _ ⟨β', ht', hd', hs', hx'⟩
  | cond c c1 c2 ih1 ih2 =>
    intro ρ tm tm' s s' x β w a Q hρ ht hs h hQ
    simp only [execT] at h
    split at h
    · rename_i e he
      have hr1 : RtOk rt c1 := fun i o hm => hrt i o (by simp [regs, hm])
      have hr2 : RtOk rt c2 := fun i o hm => hrt i o (by simp [regs, hm])
      have hc : a.eval c = .bool (e.ev ρ != 0) := by rw [evO_den ht, he]; rfl
      obtain ⟨s1, e1, hs1, ⟨hne, h⟩ | ⟨h0, h⟩⟩ := forkT_ok hs h
      · refine wp_cond_true (by rw [hc]; simp [hne]) (ih1 hr1 _ _ _ _ _ _ _ _ _ _ hρ ht hs1 h fun a2 w2 hb2 => hQ a2 w2 ?_)
        exact hb2.of (ext_kn e1 β w)
      · refine wp_cond_false (by rw [hc]; simp [h0]) (ih2 hr2 _ _ _ _ _ _ _ _ _ _ hρ ht hs1 h fun a2 w2 hb2 => hQ a2 w2 ?_)
        exact hb2.of (ext_kn e1 β w)
    · cases h
  | block id c ih =>
    intro ρ tm tm' s s' x β w a Q hρ ht hs h hQ
    simp only [execT] at h
    obtain ⟨⟨x1, tm1, s1⟩, h1, h2⟩ := TT.sel_bind_some h
    refine wp_block (ih (fun i o hm => hrt i o (by simpa [regs] using hm)) _ _ _ _ _ _ _ _ _ _ hρ ht hs h1 ?_)
    rintro a' w' ⟨β', ht', hd', hs', hx'⟩
    cases x1 with
    | normal => cases h2; exact hQ _ _ ⟨β', ht', hd', hs', hx'⟩
    | ret => cases h2; exact hQ _ _ ⟨β', ht', hd', hs', hx'⟩
    | exit id' =>
      simp only at h2
      simp only [Ex.to, Exit.inBlock]
      split at h2
      · rename_i hid; cases h2; rw [if_pos hid]; exact hQ _ _ ⟨β', ht', hd', hs', hx'⟩
      · rename_i hid; cases h2; rw [if_neg hid]; exact hQ _ _ ⟨β', ht', hd', hs', hx'⟩
  | scope c ih =>
    intro ρ tm tm' s s' x β w a Q hρ ht hs h hQ
    simp only [execT] at h
    refine wp_scope_straight (ih (fun i o hm => hrt i o (by simpa [regs] using hm)) _ _ _ _ _ _ _ _ _ _ hρ ht hs h fun a' w' hb => ?_)
    have := hQ a' w' hb
    cases x <;> exact this
  | loop c ih =>
    intro ρ tm tm' s s' x β w a Q hρ ht hs h hQ
    simp only [execT] at h
    exact loopH_ok (ih (fun i o hm => hrt i o (by simpa [regs] using hm))) hρ ht hs h hQ
  | rangeFunc _ _ _ _ => intro ρ tm tm' s s' x β w a Q hρ ht hs h hQ; cases h
  | goto _ => intro ρ tm tm' s s' x β w a Q hρ ht hs h hQ; cases h
  | refuse _ => intro ρ tm tm' s s' x β w a Q hρ ht hs h hQ; cases h

/-! ### functions -/

abbrev LHS := FuncId → Nat → How

def execFnT (cx : Cx) (rts : RTS) (sm : SM) (ex : XF) (lhs : LHS) (cf : CF) (m : Nat) : Nat → CFT
  | 0, f, args, s => match sm f args s with
    | some r => r.lift
    | none => .bad 80
  | n + 1, f, args, s => match sm f args s with
    | some r => r.lift
    | none => match cx.fn f with
      | none => .bad 81
      | some fn => match fn.body with
        | none => .bad 82
        | some c => (execT ⟨cx, cf, execFnT cx rts sm ex lhs cf m n, ex, m⟩ (rts f) (lhs f) c (frameS fn.ntmps args) s).bind fun r => match r.1 with
          | .exit _ => .bad 83
          | _ => match resS cx fn r.2.1 r.2.2 with
            | some v => .leaf (v, gcS s.bl.length v r.2.2)
            | none => .bad 84

theorem execFnT_ok {cx : Cx} {rts : RTS} {sm : SM} {ex : XF} {lhs : LHS} {cf : CF} {m : Nat} (hcx : CxOk cx) (hrts : RtsOk cx.P rts) (hsm : SmOk cx sm) (hex : XOk cx ex) (hcf : CallOk cx cf) : ∀ n, CallOkT cx (execFnT cx rts sm ex lhs cf m n)
  | 0 => by
    intro ρ β s s' w f args v hρ hs h
    simp only [execFnT] at h
    split at h
    · rename_i r hr
      rw [T.lift_sel] at h
      exact hsm ρ β s s' w f args r v hρ hs hr h
    · cases h
  | n + 1 => by
    intro ρ β s s' w f args v hρ hs h
    simp only [execFnT] at h
    split at h
    · rename_i r hr
      rw [T.lift_sel] at h
      exact hsm ρ β s s' w f args r v hρ hs hr h
    · split at h
      · cases h
      · rename_i fn hfn
        split at h
        · cases h
        · rename_i c hc
          obtain ⟨⟨x, tm1, s1⟩, h1, h2⟩ := TT.sel_bind_some h
          refine calls_of_wp (cx.fnOk _ _ hfn) hc ?_
          refine execT_ok (X := ⟨cx, cf, execFnT cx rts sm ex lhs cf m n, ex, m⟩) ⟨hcx, hcf, execFnT_ok hcx hrts hsm hex hcf n, hex⟩ c (hrts f fn c (cx.fnOk _ _ hfn) hc) ρ (frameS fn.ntmps args) tm1 s s1 x β w _ _ hρ ?_ hs h1 ?_
          · simp only [frameS, denL_append]
            apply Array.ext'
            simp [denL_map, den_undef]
          · rintro a' w' ⟨β', ht, hd, hs', hx⟩
            have key : ∀ (v : SV) (s' : St), (match resS cx fn tm1 s1 with
                | some v => TT.leaf (v, gcS s.bl.length v s1)
                | none => .bad 84).sel ρ = some (v, s') → a'.defers = [] ∧ ∃ V, (results fn a'.tmps).run cx.P w' = .ok V w' ∧
                  ∃ β', Ending.returned V = .returned (v.den ρ β') ∧ Sat ρ β' s' w' ∧ Ext s s' β β' w w' := by
              intro v s' h
              split at h
              · rename_i u hu
                cases h
                obtain ⟨g1, _, g3⟩ := gcS_get s.bl.length v s1
                exact ⟨hd, _, resS_ok hs' ht hu, β', rfl, hs'.mask g1 (by rw [g3]; exact hs'.kn), ext_gc hx v⟩
              · cases h
            cases x with
            | exit id => cases h2
            | normal => exact key v s' h2
            | ret => exact key v s' h2

end Go.Eng
