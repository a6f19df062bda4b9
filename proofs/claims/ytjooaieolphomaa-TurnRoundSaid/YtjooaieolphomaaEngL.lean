/-
  A symbolic executor, part L: from a run to a law's row.
-/
import Derived.Test.YtjooaieolphomaaEngK
import Derived.Below
import Derived.ChangeSame
set_option linter.unusedVariables false
set_option linter.unusedSimpArgs false
namespace Go.Eng
open Go.RowKit Go.WideShapes Go.ChangeShapes

/-! ### trees of truths -/

def T.beq : T E → T E → Bool
  | .leaf a, .leaf b => a.beq b
  | .br e t f, .br e' t' f' => e.beq e' && T.beq t t' && T.beq f f'
  | .bad n, .bad m => n == m
  | .new i e t, .new i' e' t' => i == i' && e.beq e' && T.beq t t'
  | _, _ => false
theorem T.eq_of_beq : ∀ {x y : T E}, T.beq x y = true → x = y
  | .leaf a, .leaf b, h => by rw [E.eq_of_beq h]
  | .br e t f, .br e' t' f', h => by
    simp only [T.beq, Bool.and_eq_true] at h
    rw [E.eq_of_beq h.1.1, T.eq_of_beq h.1.2, T.eq_of_beq h.2]
  | .bad n, .bad m, h => by simp [T.beq] at h; rw [h]
  | .new i e t, .new i' e' t', h => by
    simp only [T.beq, Bool.and_eq_true, beq_iff_eq] at h
    rw [h.1.1, E.eq_of_beq h.1.2, T.eq_of_beq h.2]
  | .leaf _, .br _ _ _, h => by cases h
  | .leaf _, .bad _, h => by cases h
  | .leaf _, .new _ _ _, h => by cases h
  | .br _ _ _, .leaf _, h => by cases h
  | .br _ _ _, .bad _, h => by cases h
  | .br _ _ _, .new _ _ _, h => by cases h
  | .bad _, .leaf _, h => by cases h
  | .bad _, .br _ _ _, h => by cases h
  | .bad _, .new _ _ _, h => by cases h
  | .new _ _ _, .leaf _, h => by cases h
  | .new _ _ _, .br _ _ _, h => by cases h
  | .new _ _ _, .bad _, h => by cases h

def Env.set (ρ : Env) (i : Nat) (y : Int) : Env := ⟨fun j => if j = i then y else ρ.i j, ρ.f, ρ.v⟩

/-- a tree of truths holds -/
def T.holds (ρ : Env) : T E → Prop
  | .leaf a => a.ev ρ ≠ 0
  | .br e t f => (e.ev ρ ≠ 0 → T.holds ρ t) ∧ (e.ev ρ = 0 → T.holds ρ f)
  | .bad _ => False
  | .new i e t => ∀ y : Int, y = e.ev ρ → T.holds (ρ.set i y) t

/-- all variables are below n -/
def E.vb (n : Nat) : E → Bool
  | .c _ => true
  | .v i => Nat.blt i n
  | .b _ _ x y => x.vb n && y.vb n
  | .w _ x => x.vb n
  | .nt x => x.vb n
  | .ite t x y => t.vb n && x.vb n && y.vb n
  | .f _ x y z => x.vb n && y.vb n && z.vb n
  | .cl i _ _ => Nat.blt i n
theorem E.vb_ev {ρ ρ' : Env} {n : Nat} (hi : ∀ j, j < n → ρ'.i j = ρ.i j) (hf : ρ'.f = ρ.f) : ∀ (e : E), e.vb n = true → e.ev ρ' = e.ev ρ := by
  intro e
  induction e with
  | c m => intro _; rfl
  | v i => intro h; exact hi i (by simpa [E.vb] using h)
  | b o k x y hx hy => intro h; simp only [E.vb, Bool.and_eq_true] at h; simp only [E.ev, hx h.1, hy h.2]
  | w k x hx => intro h; simp only [E.ev, hx h]
  | nt x hx => intro h; simp only [E.ev, hx h]
  | ite t x y ht hx hy => intro h; simp only [E.vb, Bool.and_eq_true] at h; simp only [E.ev, ht h.1.1, hx h.1.2, hy h.2]
  | f m x y z hx hy hz => intro h; simp only [E.vb, Bool.and_eq_true] at h; simp only [E.ev, hx h.1.1, hy h.1.2, hz h.2, hf]
  | cl i l h => intro h; simp only [E.ev, hi i (by simpa [E.vb] using h)]

/-- each name is new, and made of what is named ahead -/
def T.fine : Nat → T E → Bool
  | _, .leaf _ => true
  | n, .br e t f => e.vb n && T.fine n t && T.fine n f
  | _, .bad _ => true
  | n, .new i e t => Nat.ble n i && e.vb i && T.fine (i + 1) t

/-- the truths of a run -/
def projB : R → T E
  | .leaf (.bool e, _) => .leaf e
  | .leaf _ => .bad 90
  | .br e t f => .br e (projB t) (projB f)
  | .bad n => .bad n
  | .new i e t => .new i e (projB t)

theorem projB_sel : ∀ {r : R} {ρ : Env} {n : Nat}, T.fine n (projB r) = true → T.holds ρ (projB r) →
    ∃ ρ' : Env, (∀ j, j < n → ρ'.i j = ρ.i j) ∧ ρ'.f = ρ.f ∧ ρ'.v = ρ.v ∧ ∃ e s', r.sel ρ' = some (.bool e, s') ∧ e.ev ρ' ≠ 0
  | .leaf (v, s'), ρ, n, hf, h => by
    cases v <;> simp only [projB, T.holds] at h
    case bool e => exact ⟨ρ, fun _ _ => rfl, rfl, rfl, e, s', rfl, h⟩
  | .br c t f, ρ, n, hf, h => by
    simp only [projB, T.holds] at h
    simp only [projB, T.fine, Bool.and_eq_true] at hf
    by_cases hc : c.ev ρ = 0
    · obtain ⟨ρ', h1, h2, h3, e, s', h4, h5⟩ := projB_sel hf.2 (h.2 hc)
      refine ⟨ρ', h1, h2, h3, e, s', ?_, h5⟩
      simp only [T.sel, E.vb_ev h1 h2 c hf.1.1, hc]
      simpa using h4
    · obtain ⟨ρ', h1, h2, h3, e, s', h4, h5⟩ := projB_sel hf.1.2 (h.1 hc)
      refine ⟨ρ', h1, h2, h3, e, s', ?_, h5⟩
      simp only [T.sel, E.vb_ev h1 h2 c hf.1.1]
      rw [if_pos hc]
      exact h4
  | .bad n, ρ, m, hf, h => by cases h
  | .new i c t, ρ, n, hf, h => by
    simp only [projB, T.holds] at h
    simp only [projB, T.fine, Bool.and_eq_true] at hf
    have hni : n ≤ i := Nat.le_of_ble_eq_true hf.1.1
    obtain ⟨ρ', h1, h2, h3, e, s', h4, h5⟩ := projB_sel hf.2 (h _ rfl)
    have h6 : ∀ j, j < i → ρ'.i j = ρ.i j := fun j hj => by
      rw [h1 j (by omega)]
      simp only [Env.set]
      rw [if_neg (by omega)]
    refine ⟨ρ', fun j hj => h6 j (by omega), h2, h3, e, s', ?_, h5⟩
    have h7 : ρ'.i i = c.ev ρ' := by
      rw [E.vb_ev h6 h2 c hf.1.2, h1 i (by omega)]
      simp [Env.set]
    simp only [T.sel, h7, if_true]
    exact h4

theorem envOk_of {cx : Cx} {ρ ρ' : Env} (hρ : EnvOk cx ρ) {n : Nat} (hn : cx.Γ.length ≤ n) (hi : ∀ j, j < n → ρ'.i j = ρ.i j) (hf : ρ'.f = ρ.f) (hv : ρ'.v = ρ.v) : EnvOk cx ρ' :=
  ⟨fun i p h => by rw [hi i (Nat.lt_of_lt_of_le (List.getElem?_eq_some_iff.1 h).1 hn)]; exact hρ.hi i p h,
   fun n p x y z h => by rw [hf]; exact hρ.hf n p x y z h, fun i => by rw [hv]; exact hρ.hv i, by rw [hf]; exact hρ.hF⟩

mutual
/-- its variables are below n -/
def SV.vb (n : Nat) : SV → Bool
  | .int _ e => e.vb n
  | .bool e => e.vb n
  | .func _ a c => SV.vbL n a && SV.vbL n c
  | .iface _ x => x.vb n
  | .agg l => SV.vbL n l
  | .tup l => SV.vbL n l
  | _ => true
def SV.vbL (n : Nat) : List SV → Bool
  | [] => true
  | x :: l => x.vb n && SV.vbL n l
end
mutual
theorem SV.vb_den {ρ ρ' : Env} {n : Nat} (hi : ∀ j, j < n → ρ'.i j = ρ.i j) (hf : ρ'.f = ρ.f) (hv : ρ'.v = ρ.v) (β : Nat → Nat × Nat) : ∀ (x : SV), x.vb n = true → x.den ρ' β = x.den ρ β
  | .int k e, h => by simp only [SV.den, E.vb_ev hi hf e h]
  | .bool e, h => by simp only [SV.den, E.vb_ev hi hf e h]
  | .func fn a c, h => by simp only [SV.vb, Bool.and_eq_true] at h; simp only [SV.den, SV.vbL_den hi hf hv β a h.1, SV.vbL_den hi hf hv β c h.2]
  | .iface t x, h => by simp only [SV.vb] at h; simp only [SV.den, SV.vb_den hi hf hv β x h]
  | .agg l, h => by simp only [SV.vb] at h; simp only [SV.den, SV.vbL_den hi hf hv β l h]
  | .tup l, h => by simp only [SV.vb] at h; simp only [SV.den, SV.vbL_den hi hf hv β l h]
  | .any i, _ => by simp only [SV.den, hv]
  | .ptr _ _, _ | .lit _, _ | .slice _ _ _ _, _ => rfl
theorem SV.vbL_den {ρ ρ' : Env} {n : Nat} (hi : ∀ j, j < n → ρ'.i j = ρ.i j) (hf : ρ'.f = ρ.f) (hv : ρ'.v = ρ.v) (β : Nat → Nat × Nat) : ∀ (l : List SV), SV.vbL n l = true → SV.denL ρ' β l = SV.denL ρ β l
  | [], _ => rfl
  | x :: l, h => by simp only [SV.vbL, Bool.and_eq_true] at h; simp only [SV.denL, SV.vb_den hi hf hv β x h.1, SV.vbL_den hi hf hv β l h.2]
end

theorem sat_nil (ρ : Env) (β : Nat → Nat × Nat) (w : World) : Sat ρ β ⟨[], []⟩ w :=
  ⟨fun j b h => by simp at h, fun i j hi _ _ => by obtain ⟨l, e, o, h⟩ := hi; simp at h, fun e b h => by cases h⟩

theorem below_ext {s s' : St} {β β' : Nat → Nat × Nat} {w w' : World} (hs : s.bl = []) (h : Ext s s' β β' w w') : Below w.heap.size w w' :=
  ⟨h.os, h.tape, h.output, h.size, fun k hk => h.fr k hk fun j hj => by obtain ⟨l, e, o, h⟩ := hj; rw [hs] at h; simp at h⟩

/-- a call whose run is a tree of truths that holds answers true, and leaves what was there -/
theorem true_of {cx : Cx} {cf : CF} (hcf : CallOk cx cf) {ρ : Env} (hρ : EnvOk cx ρ) {f : FuncId} {args : List SV} {t : T E} (ht : projB (cf f args ⟨[], []⟩) = t) (hh : T.holds ρ t)
    (hfine : (Nat.ble cx.Γ.length 1000 && T.fine 1000 t && SV.vbL 1000 args) = true)
    {vs : Array Value} (hv : vs = (SV.denL ρ (fun _ => (0, 0)) args).toArray) (w : World) :
    Calls cx.P f vs w fun e w' => e = .returned (.bool true) ∧ Below w.heap.size w w' := by
  subst hv
  subst ht
  simp only [Bool.and_eq_true] at hfine
  obtain ⟨ρ', h1, h2, h3, e, s', hsel, hne⟩ := projB_sel hfine.1.2 hh
  have hρ' := envOk_of hρ (Nat.le_of_ble_eq_true hfine.1.1) h1 h2 h3
  rw [← SV.vbL_den h1 h2 h3 _ args hfine.2]
  refine (hcf ρ' _ _ _ w f args _ hρ' (sat_nil ρ' (fun _ => (0, 0)) w) hsel).mono ?_
  rintro x w' ⟨β', rfl, _, hx⟩
  refine ⟨?_, below_ext rfl hx⟩
  simp only [SV.den, bne_iff_ne, ne_eq, hne, not_false_eq_true, Ending.returned.injEq, Value.bool.injEq]

/-! ### the row's end, where old memory is all that is known -/
section
variable {H : Type} {enc : TypeId × Value → H} {P : Program}
theorem post_below {f : Func} {s : ChangeSpec} {apart fresh handsOn again : Bool} {W W' : World} {args : Array Value} {v : Value} {ds gs : List (DataW H)} {before pa pv : List MemPlace}
    (hW : DataW.Whole enc P f.params.toList s.vars apart W args.toList ds gs before) (hb : Below W.heap.size W W')
    (hres : ∀ (b : Nat) (sp : Nat → Bool) (hd : Bool), DataW.TrodAll enc P W' b sp hd f.resultTypes.toList (v.resultList f.resultTypes.size) (s.fn H (ds ++ gs)).results [])
    (hargs : ∀ sp : Nat → Bool, (∀ p ∈ before, sp p.block = true) → DataW.TrodAll enc P W' 0 sp true f.params.toList args.toList (s.fn H (ds ++ gs)).args pa)
    (hvars : ∀ sp : Nat → Bool, (∀ p ∈ before, sp p.block = true) → DataW.TrodVars enc P W' sp s.vars (s.fn H (ds ++ gs)).vars pv)
    (hps : before = pa ++ pv)
    (hok : ∀ (j : Nat) (t : TypeId) (r : Value), f.resultTypes[j]? = some t → (v.resultList f.resultTypes.size)[j]? = some r → Value.okWide P W' .any 0 t r) :
    s.post enc P f apart fresh handsOn again W args v W' := by
  subst hps
  have hold : ∀ p ∈ pa ++ pv, (fun b => decide (b < W.heap.size)) p.block = true := fun p hp => by simpa using hW.lt p hp
  refine ⟨ds, gs, pa ++ pv, [], pa, pv, hW, hres _ _ _, hargs _ hold, hvars _ hold, World.keptBut_mono (fun p hp => ⟨hp, .inr (List.mem_append.1 hp)⟩) (hb.frame (· ∈ pa ++ pv)), fun _ => ?_⟩
  have hlt : ∀ p ∈ pa ++ pv, p.block < W.heap.size := fun p hp => hW.lt p hp
  obtain ⟨_, _, _, _, _, hz, hn⟩ := hW
  refine ⟨hok, _, _, ([] ++ pa) ++ pv, ⟨[] ++ pa, pv, trodAll_append (hargs _ fun _ _ => rfl) (hres _ _ _), hvars _ fun _ _ => rfl, rfl, ?_, fun ha => by simpa using hn ha⟩, fun p hp _ => by simpa using hp⟩
  intro b off hp
  have hin : MemPlace.cell b off ∈ pa ++ pv := by simpa using hp
  rw [hb.frozen (hlt _ hin)]
  exact hz b off hin
end
end Go.Eng
