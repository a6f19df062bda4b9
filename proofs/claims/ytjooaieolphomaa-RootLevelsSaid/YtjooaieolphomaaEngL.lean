/-
  A symbolic executor, part L: from a run to a law's row.
-/
import Derived.Test.YtjooaieolphomaaEngK
import Derived.Below
import Derived.ChangeSame
set_option linter.unusedVariables false
set_option linter.unusedSimpArgs false
namespace Go.Eng
open Go.RowKit Go.WideShapes Go.ChangeShapes

/-! ### trees of truths -/

def T.beq : T E → T E → Bool
  | .leaf a, .leaf b => a.beq b
  | .br e t f, .br e' t' f' => e.beq e' && T.beq t t' && T.beq f f'
  | .bad n, .bad m => n == m
  | _, _ => false
theorem T.eq_of_beq : ∀ {x y : T E}, T.beq x y = true → x = y
  | .leaf a, .leaf b, h => by rw [E.eq_of_beq h]
  | .br e t f, .br e' t' f', h => by
    simp only [T.beq, Bool.and_eq_true] at h
    rw [E.eq_of_beq h.1.1, T.eq_of_beq h.1.2, T.eq_of_beq h.2]
  | .bad n, .bad m, h => by simp [T.beq] at h; rw [h]
  | .leaf _, .br _ _ _, h => by cases h
  | .leaf _, .bad _, h => by cases h
  | .br _ _ _, .leaf _, h => by cases h
  | .br _ _ _, .bad _, h => by cases h
  | .bad _, .leaf _, h => by cases h
  | .bad _, .br _ _ _, h => by cases h

/-- a tree of truths holds -/
def T.holds (ρ : Env) : T E → Prop
  | .leaf a => a.ev ρ ≠ 0
  | .br e t f => (e.ev ρ ≠ 0 → T.holds ρ t) ∧ (e.ev ρ = 0 → T.holds ρ f)
  | .bad _ => False

/-- the truths of a run -/
def projB : R → T E
  | .leaf (.bool e, _) => .leaf e
  | .leaf _ => .bad 90
  | .br e t f => .br e (projB t) (projB f)
  | .bad n => .bad n

theorem projB_sel {ρ : Env} : ∀ {r : R}, T.holds ρ (projB r) → ∃ e s', r.sel ρ = some (.bool e, s') ∧ e.ev ρ ≠ 0
  | .leaf (v, s'), h => by
    cases v <;> simp only [projB, T.holds] at h
    case bool e => exact ⟨e, s', rfl, h⟩
  | .br c t f, h => by
    simp only [projB, T.holds] at h
    simp only [T.sel]
    split
    · rename_i hc; exact projB_sel (h.1 hc)
    · rename_i hc; exact projB_sel (h.2 (by simpa using hc))
  | .bad n, h => by cases h

theorem sat_nil (ρ : Env) (β : Nat → Nat × Nat) (w : World) : Sat ρ β ⟨[], []⟩ w :=
  ⟨fun j b h => by simp at h, fun i j hi _ _ => by obtain ⟨l, e, o, h⟩ := hi; simp at h, fun e b h => by cases h⟩

theorem below_ext {s s' : St} {β β' : Nat → Nat × Nat} {w w' : World} (hs : s.bl = []) (h : Ext s s' β β' w w') : Below w.heap.size w w' :=
  ⟨h.os, h.tape, h.output, h.size, fun k hk => h.fr k hk fun j hj => by obtain ⟨l, e, o, h⟩ := hj; rw [hs] at h; simp at h⟩

/-- a call whose run is a tree of truths that holds answers true, and leaves what was there -/
theorem true_of {cx : Cx} {cf : CF} (hcf : CallOk cx cf) {ρ : Env} (hρ : EnvOk cx ρ) {f : FuncId} {args : List SV} {t : T E} (ht : projB (cf f args ⟨[], []⟩) = t) (hh : T.holds ρ t)
    {vs : Array Value} (hv : vs = (SV.denL ρ (fun _ => (0, 0)) args).toArray) (w : World) :
    Calls cx.P f vs w fun e w' => e = .returned (.bool true) ∧ Below w.heap.size w w' := by
  subst hv
  subst ht
  obtain ⟨e, s', hsel, hne⟩ := projB_sel hh
  refine (hcf ρ _ _ _ w f args _ hρ (sat_nil ρ (fun _ => (0, 0)) w) hsel).mono ?_
  rintro x w' ⟨β', rfl, _, hx⟩
  refine ⟨?_, below_ext rfl hx⟩
  simp only [SV.den, bne_iff_ne, ne_eq, hne, not_false_eq_true, Ending.returned.injEq, Value.bool.injEq]

/-! ### the row's end, where old memory is all that is known -/
section
variable {H : Type} {enc : TypeId × Value → H} {P : Program}
theorem post_below {f : Func} {s : ChangeSpec} {apart fresh handsOn again : Bool} {W W' : World} {args : Array Value} {v : Value} {ds gs : List (DataW H)} {before pa pv : List MemPlace}
    (hW : DataW.Whole enc P f.params.toList s.vars apart W args.toList ds gs before) (hb : Below W.heap.size W W')
    (hres : ∀ (b : Nat) (sp : Nat → Bool) (hd : Bool), DataW.TrodAll enc P W' b sp hd f.resultTypes.toList (v.resultList f.resultTypes.size) (s.fn H (ds ++ gs)).results [])
    (hargs : ∀ sp : Nat → Bool, (∀ p ∈ before, sp p.block = true) → DataW.TrodAll enc P W' 0 sp true f.params.toList args.toList (s.fn H (ds ++ gs)).args pa)
    (hvars : ∀ sp : Nat → Bool, (∀ p ∈ before, sp p.block = true) → DataW.TrodVars enc P W' sp s.vars (s.fn H (ds ++ gs)).vars pv)
    (hps : before = pa ++ pv)
    (hok : ∀ (j : Nat) (t : TypeId) (r : Value), f.resultTypes[j]? = some t → (v.resultList f.resultTypes.size)[j]? = some r → Value.okWide P W' .any 0 t r) :
    s.post enc P f apart fresh handsOn again W args v W' := by
  subst hps
  have hold : ∀ p ∈ pa ++ pv, (fun b => decide (b < W.heap.size)) p.block = true := fun p hp => by simpa using hW.lt p hp
  refine ⟨ds, gs, pa ++ pv, [], pa, pv, hW, hres _ _ _, hargs _ hold, hvars _ hold, World.keptBut_mono (fun p hp => ⟨hp, .inr (List.mem_append.1 hp)⟩) (hb.frame (· ∈ pa ++ pv)), fun _ => ?_⟩
  have hlt : ∀ p ∈ pa ++ pv, p.block < W.heap.size := fun p hp => hW.lt p hp
  obtain ⟨_, _, _, _, _, hz, hn⟩ := hW
  refine ⟨hok, _, _, ([] ++ pa) ++ pv, ⟨[] ++ pa, pv, trodAll_append (hargs _ fun _ _ => rfl) (hres _ _ _), hvars _ fun _ _ => rfl, rfl, ?_, fun ha => by simpa using hn ha⟩, fun p hp _ => by simpa using hp⟩
  intro b off hp
  have hin : MemPlace.cell b off ∈ pa ++ pv := by simpa using hp
  rw [hb.frozen (hlt _ hin)]
  exact hz b off hin
end
end Go.Eng
