/-
  A symbolic executor, part H: regions in the text's order.
-/
import Derived.Test.YtjooaieolphomaaEngG
set_option linter.unusedVariables false
set_option linter.unusedSimpArgs false
namespace Go.Eng

def putS (tm : List SV) (d : Option Tmp) (v : SV) : List SV :=
  match d with
  | some d => tm.set d v
  | none => tm

theorem putS_den {ρ : Env} {β : Nat → Nat × Nat} {tm : List SV} {a : Act} (ht : a.tmps = (SV.denL ρ β tm).toArray) (d : Option Tmp) (v : SV) :
    (a.put d (v.den ρ β)).tmps = (SV.denL ρ β (putS tm d v)).toArray := by
  cases d with
  | none => exact ht
  | some d => simp [Act.put, putS, ht, denL_set]

theorem put_defers (a : Act) (d : Option Tmp) (v : Value) : (a.put d v).defers = a.defers := by cases d <;> rfl

/-- is an operation wanted? (its guard): yes, no, or by a condition -/
inductive Wd where
  | yes | no | on (e : E) (want : Bool) | unk

def wantS (ops : Array Oper) (tm : List SV) (o : Oper) : Wd :=
  match o.guard with
  | none => .yes
  | some (j, want) => match (ops[j]?).bind (·.dst) with
    | none => .no
    | some d => match tm[d]? with
      | none => .no
      | some (.bool e) => .on e want
      | some (.tup _) => .no
      | some (.int _ _) => .no
      | _ => .unk

theorem wantS_ok {ρ : Env} {β : Nat → Nat × Nat} {ops : Array Oper} {tm : List SV} {o : Oper} {a : Act} (ht : a.tmps = (SV.denL ρ β tm).toArray) :
    match wantS ops tm o with
    | .yes => Region.wanted o (yielded ops a.tmps) = true
    | .no => Region.wanted o (yielded ops a.tmps) = false
    | .on e want => Region.wanted o (yielded ops a.tmps) = ((e.ev ρ != 0) == want)
    | .unk => True := by
  unfold wantS Region.wanted
  cases o.guard with
  | none => rfl
  | some g =>
    obtain ⟨j, want⟩ := g
    simp only [yielded, ht]
    cases hd : (ops[j]?).bind (·.dst) with
    | none => rfl
    | some d =>
      simp only [Option.bind_some, List.getElem?_toArray, denL_get]
      cases htm : tm[d]? with
      | none => rfl
      | some v => cases v <;> simp [SV.den]

abbrev RR := T (List SV × St)

def runOps (cx : Cx) (cf : CF) (ex : XF) (ops : Array Oper) : List Oper → List SV → St → RR
  | [], tm, s => .leaf (tm, s)
  | o :: rest, tm, s =>
    let go (s : St) : RR := (opC cx cf ex tm s o).bind fun r =>
      if !chg o.op || SV.scL s.bl.length tm then SV.share cx r.1 r.2 fun v s2 => runOps cx cf ex ops rest (putS tm o.dst v) s2 else .bad 40
    let pass (s : St) : RR := runOps cx cf ex ops rest (putS tm o.dst undefS) s
    match wantS ops tm o with
    | .yes => go s
    | .no => pass s
    | .on e want => if want then fork s e go pass else fork s e pass go
    | .unk => .bad 41

/-- behind a list of operations -/
def Beh (ρ : Env) (β : Nat → Nat × Nat) (s : St) (w : World) (ds : List Deferred) (tm' : List SV) (s' : St) (a' : Act) (w' : World) : Prop :=
  ∃ β', a'.tmps = (SV.denL ρ β' tm').toArray ∧ a'.defers = ds ∧ Sat ρ β' s' w' ∧ Ext s s' β β' w w'

theorem Beh.of {ρ : Env} {β β1 : Nat → Nat × Nat} {s s1 : St} {w w1 : World} {ds : List Deferred} {tm' : List SV} {s' : St} {a' : Act} {w' : World} (h : Ext s s1 β β1 w w1) (k : Beh ρ β1 s1 w1 ds tm' s' a' w') :
    Beh ρ β s w ds tm' s' a' w' :=
  let ⟨β', h1, h2, h3, h4⟩ := k; ⟨β', h1, h2, h3, h.trans h4⟩

section
variable {cx : Cx} {ρ : Env} {cf : CF} {ex : XF}

theorem runOps_ok (hcx : CxOk cx) (hcf : CallOk cx cf) (hex : XOk cx ex) (hρ : EnvOk cx ρ) (ops : Array Oper) : ∀ (l : List Oper) {tm tm' : List SV} {s s' : St} {β : Nat → Nat × Nat} {w : World} {a : Act} {Q : Exit → Act → World → Prop},
    a.tmps = (SV.denL ρ β tm).toArray → Sat ρ β s w → (runOps cx cf ex ops l tm s).sel ρ = some (tm', s') →
    (∀ a' w', Beh ρ β s w a.defers tm' s' a' w' → Q .normal a' w') → wpList cx.P ops Q l a w
  | [], tm, tm', s, s', β, w, a, Q, ht, hs, h, hQ => by
    cases h
    exact hQ _ _ ⟨β, ht, rfl, hs, Ext.refl _ _ _⟩
  | o :: rest, tm, tm', s, s', β, w, a, Q, ht, hs, h, hQ => by
    have ih := fun {tm s β w a Q} => runOps_ok hcx hcf hex hρ ops rest (tm := tm) (tm' := tm') (s := s) (s' := s') (β := β) (w := w) (a := a) (Q := Q)
    have hw := wantS_ok (ops := ops) (o := o) ht
    -- the operation is done
    have go : ∀ s1, s1.bl = s.bl → Sat ρ β s1 w → Region.wanted o (yielded ops a.tmps) = true →
        ((opC cx cf ex tm s1 o).bind fun r => if !chg o.op || SV.scL s1.bl.length tm then SV.share cx r.1 r.2 fun v s2 => runOps cx cf ex ops rest (putS tm o.dst v) s2 else .bad 40).sel ρ = some (tm', s') → wpList cx.P ops Q (o :: rest) a w := by
      intro s1 e1 hs1 hwant h
      obtain ⟨⟨r, s2⟩, h1, h2⟩ := T.sel_bind_some h
      simp only [wpList, hwant, if_true]
      refine .inl (opC_ok hcx hcf hex hρ ht hs1 h1 _ _ ?_)
      rintro V w' ⟨β', rfl, hs2, hx2, hch⟩
      split at h2
      · rename_i hc
        have htm : (SV.denL ρ β tm) = SV.denL ρ β' tm := by
          simp only [Bool.or_eq_true, Bool.not_eq_true'] at hc
          rcases hc with hc | hc
          · rw [hch hc]
          · exact (SV.denL_sc hx2.ag tm hc).symm
        rw [htm] at ht
        obtain ⟨v1, s3, hv1, hbl, hs3, h3⟩ := SV.share_ok hρ r hs2 h2
        rw [← hv1 β']
        refine ih (putS_den ht _ _) hs3 h3 fun a' w'' hb => hQ a' w'' ?_
        rw [put_defers] at hb
        exact (((ext_kn e1 β w).trans hx2).trans (ext_kn hbl β' w') |> fun x => hb.of x)
      · cases h2
    have pass : ∀ s1, s1.bl = s.bl → Sat ρ β s1 w → Region.wanted o (yielded ops a.tmps) = false →
        (runOps cx cf ex ops rest (putS tm o.dst undefS) s1).sel ρ = some (tm', s') → wpList cx.P ops Q (o :: rest) a w := by
      intro s1 e1 hs1 hwant h
      simp only [wpList, hwant, Bool.false_eq_true, if_false]
      refine ih (putS_den ht o.dst undefS) hs1 h fun a' w'' hb => hQ a' w'' ?_
      rw [put_defers] at hb
      exact hb.of (ext_kn e1 β w)
    simp only [runOps] at h
    cases hwd : wantS ops tm o with
    | yes => rw [hwd] at h hw; exact go s rfl hs hw h
    | no => rw [hwd] at h hw; exact pass s rfl hs hw h
    | unk => rw [hwd] at h; cases h
    | on e want =>
      rw [hwd] at h hw
      simp only at h hw
      cases want
      · simp only [Bool.false_eq_true, if_false] at h
        obtain ⟨s1, e1, hs1, ⟨hne, h⟩ | ⟨h0, h⟩⟩ := fork_ok hs h
        · exact pass s1 e1 hs1 (by rw [hw]; simpa using hne) h
        · exact go s1 e1 hs1 (by rw [hw]; simpa using h0) h
      · simp only [if_true] at h
        obtain ⟨s1, e1, hs1, ⟨hne, h⟩ | ⟨h0, h⟩⟩ := fork_ok hs h
        · exact go s1 e1 hs1 (by rw [hw]; simpa using hne) h
        · exact pass s1 e1 hs1 (by rw [hw]; simpa using h0) h

end
end Go.Eng
