/-
  A symbolic executor, part K: functions.
-/
import Derived.Test.YtjooaieolphomaaEngJ
set_option linter.unusedVariables false
set_option linter.unusedSimpArgs false
namespace Go.Eng

/-! ### results -/

def resL (cx : Cx) (tm : List SV) (s : St) : List ResultVar → Option (List SV)
  | [] => some []
  | .tmp t :: l => match resL cx tm s l with
    | some vs => some (tm.getD t undefS :: vs)
    | none => none
  | .cell a t :: l => match loadS cx t (tm.getD a undefS) s, resL cx tm s l with
    | some v, some vs => some (v :: vs)
    | _, _ => none

def resS (cx : Cx) (fn : Func) (tm : List SV) (s : St) : Option SV :=
  match resL cx tm s fn.results.toList with
  | some [v] => some v
  | some vs => some (.tup vs)
  | none => none

def rv (tmps : Array Value) : ResultVar → Sem Value
  | .tmp t => pure (tmps.getD t undef)
  | .cell a t => do loadVar t (← asAddr (tmps.getD a undef))

theorem results_rv (fn : Func) (tmps : Array Value) : results fn tmps = (do
    let vs ← fn.results.mapM (rv tmps)
    pure (if h : vs.size = 1 then vs[0] else .tuple vs)) := by
  have e : (fun (x : ResultVar) => (match x with
      | .tmp t => pure (tmps.getD t undef)
      | .cell a t => do loadVar t (← asAddr (tmps.getD a undef)) : Sem Value)) = rv tmps := by
    funext x; cases x <;> rfl
  rw [← e]
  rfl

theorem resL_ok {cx : Cx} {ρ : Env} {β : Nat → Nat × Nat} {s : St} {w : World} (hs : Sat ρ β s w) (tm : List SV) : ∀ (l : List ResultVar) {vs : List SV}, resL cx tm s l = some vs →
    (l.mapM (rv (SV.denL ρ β tm).toArray)).run cx.P w = .ok (SV.denL ρ β vs) w
  | [], vs, h => by cases h; rfl
  | .tmp t :: l, vs, h => by
    simp only [resL] at h
    split at h <;> cases h
    rename_i us hu
    have ih := resL_ok hs tm l hu
    simp only [List.mapM_cons, Sem.run_bind, rv, Sem.run_pure, Result.andThen_ok, denL_getD, ih, SV.denL]
  | .cell a t :: l, vs, h => by
    simp only [resL] at h
    split at h <;> cases h
    rename_i v us hv hu
    have ih := resL_ok hs tm l hu
    have hl := loadS_ok hs hv
    have hl2 : ((do loadVar t (← asAddr ((tm.getD a undefS).den ρ β))) : Sem Value).run cx.P w = .ok (v.den ρ β) w := by
      unfold loadS at hv
      split at hv
      · rename_i j off hj
        rw [hj] at hl ⊢
        simp only [Instr.loadAt, SV.den, Instr.sureAddr, asAddr] at hl ⊢
        exact hl
      · cases hv
    rw [List.mapM_cons, Sem.run_bind]
    have e : rv (SV.denL ρ β tm).toArray (.cell a t) = (do loadVar t (← asAddr ((tm.getD a undefS).den ρ β)) : Sem Value) := by
      simp only [rv, denL_getD]
    rw [e, hl2, Result.andThen_ok, Sem.run_bind, ih, Result.andThen_ok]
    rfl

theorem resS_ok {cx : Cx} {ρ : Env} {β : Nat → Nat × Nat} {s : St} {w : World} (hs : Sat ρ β s w) {fn : Func} {tm : List SV} {tmps : Array Value} (ht : tmps = (SV.denL ρ β tm).toArray) {v : SV} (h : resS cx fn tm s = some v) :
    (results fn tmps).run cx.P w = .ok (v.den ρ β) w := by
  subst ht
  unfold resS at h
  rw [results_rv, Array.mapM_eq_mapM_toList]
  split at h
  · rename_i u hu
    cases h
    have := resL_ok hs tm _ hu
    simp only [Sem.run_bind, Sem.run_map]
    rw [this]
    simp [SV.denL]
  · rename_i vs hvs hn
    cases h
    have := resL_ok hs tm _ hn
    simp only [Sem.run_bind, Sem.run_map]
    rw [this]
    simp only [Result.andThen_ok, Sem.run_pure, SV.den]
    congr 1
    split
    · rename_i hsz
      have : vs.length = 1 := by simpa using hsz
      obtain ⟨u, rfl⟩ := List.length_eq_one_iff.1 this
      exact absurd rfl (hvs u)
    · rfl
  · cases h

/-! ### what is no more needed is dropped -/

mutual
def SV.names (n : Nat) : SV → List Nat
  | .ptr j _ => if n ≤ j then [j] else []
  | .slice j _ _ _ => if n ≤ j then [j] else []
  | .func _ a c => SV.namesL n a ++ SV.namesL n c
  | .iface _ x => x.names n
  | .agg l => SV.namesL n l
  | .tup l => SV.namesL n l
  | _ => []
def SV.namesL (n : Nat) : List SV → List Nat
  | [] => []
  | x :: l => x.names n ++ SV.namesL n l
end

def blkNames (n : Nat) : Option SBlk → List Nat
  | some (.cells l _ _) => SV.namesL n l
  | _ => []

def reach (n : Nat) (bl : List SBlk) : Nat → List Nat → List Nat → List Nat
  | 0, _, seen => seen
  | _ + 1, [], seen => seen
  | f + 1, j :: todo, seen => if seen.contains j then reach n bl f todo seen else reach n bl f (blkNames n bl[j]? ++ todo) (j :: seen)

def dropTail : List SBlk → List SBlk
  | [] => []
  | b :: l => match dropTail l, b with
    | [], .gone => []
    | l', b => b :: l'

def keepBl (seen : List Nat) (n : Nat) : Nat → List SBlk → List SBlk
  | _, [] => []
  | i, b :: l => (if i < n || seen.contains i then b else .gone) :: keepBl seen n (i + 1) l

def gcS (n : Nat) (v : SV) (s : St) : St :=
  if v.sc n && (s.bl.take n).all (·.sc n) then { s with bl := s.bl.take n }
  else
    let seen := reach n s.bl 200 (v.names n ++ (s.bl.take n).flatMap fun b => blkNames n (some b)) []
    let kept := keepBl seen n 0 s.bl
    { s with bl := kept.take n ++ dropTail (kept.drop n) }

theorem keepBl_get (seen : List Nat) (n : Nat) : ∀ (l : List SBlk) (i j : Nat) (b : SBlk), (keepBl seen n i l)[j]? = some b → b = SBlk.gone ∨ l[j]? = some b
  | [], i, j, b, h => by simp [keepBl] at h
  | x :: l, i, 0, b, h => by
    simp only [keepBl, List.getElem?_cons_zero, Option.some.injEq] at h
    split at h
    · exact .inr (by simp [h])
    · exact .inl h.symm
  | x :: l, i, j + 1, b, h => by simpa using keepBl_get seen n l (i + 1) j b (by simpa [keepBl] using h)
theorem keepBl_len (seen : List Nat) (n : Nat) : ∀ (l : List SBlk) (i : Nat), (keepBl seen n i l).length = l.length
  | [], i => rfl
  | x :: l, i => by simp [keepBl, keepBl_len seen n l]

theorem dropTail_get : ∀ (l : List SBlk) (j : Nat) (b : SBlk), (dropTail l)[j]? = some b → l[j]? = some b
  | [], j, b, h => by simp [dropTail] at h
  | x :: l, j, b, h => by
    simp only [dropTail] at h
    split at h
    · simp at h
    · cases j with
      | zero => simpa using h
      | succ j => simpa using dropTail_get l j b (by simpa using h)

theorem gcS_get (n : Nat) (v : SV) (s : St) : (∀ (j : Nat) (b : SBlk), (gcS n v s).bl[j]? = some b → b = SBlk.gone ∨ s.bl[j]? = some b) ∧ (n ≤ s.bl.length → n ≤ (gcS n v s).bl.length) ∧ (gcS n v s).kn = s.kn := by
  unfold gcS
  split
  · refine ⟨fun j b h => ?_, fun h => by simp; omega, rfl⟩
    simp only [List.getElem?_take] at h
    split at h
    · exact .inr h
    · cases h
  · refine ⟨fun j b h => ?_, fun h => by simp [keepBl_len]; omega, rfl⟩
    simp only [List.getElem?_append] at h
    split at h
    · simp only [List.getElem?_take] at h
      split at h
      · exact keepBl_get _ _ _ _ _ _ h
      · cases h
    · rename_i hge
      have h2 := dropTail_get _ _ _ h
      rw [List.getElem?_drop] at h2
      simp only [List.length_take, keepBl_len] at hge h2
      rcases Nat.lt_or_ge s.bl.length n with hn | hn
      · have := (List.getElem?_eq_some_iff.1 h2).1
        rw [keepBl_len] at this
        omega
      · rw [show n + (j - min n s.bl.length) = j by omega] at h2
        exact keepBl_get _ _ _ _ _ _ h2

theorem ext_gc {s s1 : St} {β β' : Nat → Nat × Nat} {w w' : World} (h : Ext s s1 β β' w w') (v : SV) : Ext s (gcS s.bl.length v s1) β β' w w' := by
  obtain ⟨h1, h2, _⟩ := gcS_get s.bl.length v s1
  have hl : ∀ j, live (gcS s.bl.length v s1) j → live s1 j := by
    rintro j ⟨l, e, o, hj⟩
    rcases h1 j _ hj with h | h
    · cases h
    · exact ⟨l, e, o, h⟩
  exact ⟨h.ag, fun j hj hh => h.old j hj (hl j hh), fun j hj hh => h.fresh j hj (hl j hh), h.size, h.fr, h2 h.len, h.os, h.tape, h.output⟩

/-! ### functions -/

abbrev SM := FuncId → List SV → St → Option R

/-- what is told of functions beforehand -/
def SmOk (cx : Cx) (sm : SM) : Prop :=
  ∀ (ρ : Env) (β : Nat → Nat × Nat) (s s' : St) (w : World) (f : FuncId) (args : List SV) (r : R) (v : SV), EnvOk cx ρ → Sat ρ β s w → sm f args s = some r → r.sel ρ = some (v, s') →
    Calls cx.P f (SV.denL ρ β args).toArray w fun e w' => ∃ β', e = .returned (v.den ρ β') ∧ Sat ρ β' s' w' ∧ Ext s s' β β' w w'

def frameS (n : Nat) (args : List SV) : List SV := args ++ List.replicate (n - args.length) undefS

abbrev RTS := FuncId → RT
def RtsOk (P : Program) (rts : RTS) : Prop := ∀ f fn c, P.funcs[f]? = some fn → fn.body = some c → RtOk (rts f) c
theorem rtsOk_none (P : Program) : RtsOk P (fun _ _ => none) := fun _ _ _ _ _ _ _ _ _ h => by cases h

def execFn (cx : Cx) (rts : RTS) (sm : SM) (ex : XF) (m : Nat) : Nat → CF
  | 0, f, args, s => match sm f args s with
    | some r => r
    | none => .bad 80
  | n + 1, f, args, s => match sm f args s with
    | some r => r
    | none => match cx.fn f with
      | none => .bad 81
      | some fn => match fn.body with
        | none => .bad 82
        | some c => (execCode cx (execFn cx rts sm ex m n) ex (rts f) m c (frameS fn.ntmps args) s).bind fun r => match r.1 with
          | .exit _ => .bad 83
          | _ => match resS cx fn r.2.1 r.2.2 with
            | some v => .leaf (v, gcS s.bl.length v r.2.2)
            | none => .bad 84

theorem execFn_ok {cx : Cx} {rts : RTS} {sm : SM} {ex : XF} {m : Nat} (hcx : CxOk cx) (hrts : RtsOk cx.P rts) (hsm : SmOk cx sm) (hex : XOk cx ex) : ∀ n, CallOk cx (execFn cx rts sm ex m n)
  | 0 => by
    intro ρ β s s' w f args v hρ hs h
    simp only [execFn] at h
    split at h
    · rename_i r hr
      exact hsm ρ β s s' w f args r v hρ hs hr h
    · cases h
  | n + 1 => by
    intro ρ β s s' w f args v hρ hs h
    simp only [execFn] at h
    split at h
    · rename_i r hr
      exact hsm ρ β s s' w f args r v hρ hs hr h
    · split at h
      · cases h
      · rename_i fn hfn
        split at h
        · cases h
        · rename_i c hc
          obtain ⟨⟨x, tm1, s1⟩, h1, h2⟩ := T.sel_bind_some h
          refine calls_of_wp (cx.fnOk _ _ hfn) hc ?_
          refine execCode_ok hcx (execFn_ok hcx hrts hsm hex n) hex hρ c (hrts f fn c (cx.fnOk _ _ hfn) hc) (frameS fn.ntmps args) tm1 s s1 x β w _ _ ?_ hs h1 ?_
          · simp only [frameS, denL_append]
            apply Array.ext'
            simp [denL_map, den_undef]
          · rintro a' w' ⟨β', ht, hd, hs', hx⟩
            have key : ∀ (v : SV) (s' : St), (match resS cx fn tm1 s1 with
                | some v => T.leaf (v, gcS s.bl.length v s1)
                | none => .bad 84).sel ρ = some (v, s') → a'.defers = [] ∧ ∃ V, (results fn a'.tmps).run cx.P w' = .ok V w' ∧
                  ∃ β', Ending.returned V = .returned (v.den ρ β') ∧ Sat ρ β' s' w' ∧ Ext s s' β β' w w' := by
              intro v s' h
              split at h
              · rename_i u hu
                cases h
                obtain ⟨g1, _, g3⟩ := gcS_get s.bl.length v s1
                exact ⟨hd, _, resS_ok hs' ht hu, β', rfl, hs'.mask g1 (by rw [g3]; exact hs'.kn), ext_gc hx v⟩
              · cases h
            cases x with
            | exit id => cases h2
            | normal => exact key v s' h2
            | ret => exact key v s' h2

end Go.Eng
