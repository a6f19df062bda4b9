/-
  A symbolic executor, part G: one operation of whatever kind; calls; regions in the text's order.
-/
import Derived.Test.YtjooaieolphomaaEngF
import Derived.Tactics
import Derived.LoopN
import Derived.Scope
set_option linter.unusedVariables false
set_option linter.unusedSimpArgs false
namespace Go.Eng

def opt (s : St) : Option SV → R
  | some v => ret s v
  | none => .bad 20
def optM : Option (SV × St) → R
  | some r => .leaf r
  | none => .bad 21

/-- it may give memory new names -/
def chg : Op → Bool
  | .alloc _ | .box _ _ | .buildSlice _ _ _ | .call _ => true
  | _ => false

/-- it reckons a value, and leaves the world as it is -/
def valOp : Op → Bool
  | .move _ | .assign _ | .pick _ _ _ | .build _ _ | .load _ _ | .nilCheck _ | .binOp _ _ _ _ _ | .unOp _ _ _ | .convert _ _ _ | .makeInterface _ _ | .makeFunc _ _ _
  | .slice _ _ _ _ _ | .fieldAddr _ _ _ | .field _ _ _ | .indexAddr _ _ _ | .index _ _ _ | .extract _ _ => true
  | .call c => match c.callee with
    | .builtin .len => true
    | .builtin .min => true
    | .builtin .max => true
    | _ => false
  | _ => false

def opS (cx : Cx) (tm : List SV) (s : St) (o : Oper) : R :=
  match o.op with
  | .move x => ret s (evO tm x)
  | .assign x => ret s (evO tm x)
  | .pick c x y => match evO tm c with
    | .bool e => fork s e (fun s => ret s (evO tm x)) (fun s => ret s (evO tm y))
    | _ => .bad 22
  | .alloc el => match zeroS cx el with
    | some z => optM (boxS el z s)
    | none => .bad 23
  | .box el x => optM (boxS el (evO tm x) s)
  | .build t parts => opt s (buildS cx t (parts.toList.map fun p => (p.1, evO tm p.2)))
  | .buildSlice t len parts => optM (rowS cx t len (parts.toList.map fun p => (p.1, evO tm p.2)) s)
  | .load t x => opt s (loadS cx t (evO tm x) s)
  | .store t x y => match storeS cx t (evO tm x) (evO tm y) s with
    | some s' => .leaf (undefS, s')
    | none => .bad 24
  | .nilCheck x => opt s (nilS (evO tm x))
  | .binOp op xt x y _ => binS cx op xt (evO tm x) (evO tm y) s
  | .unOp op _ x => opt s (unS cx op (evO tm x))
  | .convert src dst x => opt s (convS cx src dst (evO tm x))
  | .makeInterface t x => opt s (mkIfS cx t (evO tm x))
  | .makeFunc fn first cap => ret s (.func fn (first.toList.map (evO tm)) (cap.toList.map (evO tm)))
  | .slice t x lo hi mx => opt s (sliceS cx t (evO tm x) (lo.map (evO tm)) (hi.map (evO tm)) (mx.map (evO tm)) s)
  | .fieldAddr t x f => opt s (faddrS cx t (evO tm x) f)
  | .field t x f => opt s (fieldS cx t (evO tm x) f)
  | .indexAddr t x i => opt s (iaddrS cx t (evO tm x) (evO tm i))
  | .index t x i => opt s (indexS cx t (evO tm x) (evO tm i))
  | .extract x i => opt s (extractS (evO tm x) i)
  | .call c => match c.callee with
    | .builtin .len => match c.args.toList with
      | x :: _ => opt s (lenS cx c.argTypes (evO tm x))
      | _ => .bad 25
    | .builtin .min => match c.args.toList.map (evO tm) with
      | .int k e :: l => match mmS cx .min k e l with
        | some r => ret s (.int k r)
        | none => .bad 26
      | _ => .bad 26
    | .builtin .max => match c.args.toList.map (evO tm) with
      | .int k e :: l => match mmS cx .max k e l with
        | some r => ret s (.int k r)
        | none => .bad 26
      | _ => .bad 26
    | .builtin .append => match c.args.toList with
      | [x, y] => optM (appendS cx c.argTypes (evO tm x) (evO tm y) s)
      | _ => .bad 27
    | _ => .bad 28
  | _ => .bad 29

def OpGood (P : Program) (o : Oper) (a : Act) (w : World) (post : Value → World → Prop) : Prop :=
  ∀ (K : Act → World → Prop) (Q : Exit → Act → World → Prop), (∀ V w', post V w' → K (a.put o.dst V) w') → o.wp P a w K Q

theorem Res.good {P : Program} {o : Oper} {a : Act} {w w' : World} {V : Value} (h : Res P o a w V w') {post : Value → World → Prop} (hp : post V w') : OpGood P o a w post :=
  fun _ _ hk => h.wp (hk _ _ hp)

structure CxOk (cx : Cx) : Prop where
  mixed : cx.P.follows .mixedOrders = true
  nogo : ∀ (f : FuncId) fn, cx.P.funcs[f]? = some fn → (fn.name == "runtime.NumGoroutine") = false

section
variable {cx : Cx} {ρ : Env} {β : Nat → Nat × Nat} {s s' : St} {w : World} {tm : List SV} {a : Act} {o : Oper} {r : SV}

theorem sel_opt {x : Option SV} (h : (opt s x).sel ρ = some (r, s')) : x = some r ∧ s' = s := by
  cases x with
  | none => cases h
  | some v => cases h; exact ⟨rfl, rfl⟩
theorem sel_optM {x : Option (SV × St)} (h : (optM x).sel ρ = some (r, s')) : x = some (r, s') := by
  cases x with
  | none => cases h
  | some v => cases h; rfl

/-- what an operation comes to, when memory is as it was -/
def Same (cx : Cx) (ρ : Env) (β : Nat → Nat × Nat) (s s' : St) (w : World) (o : Oper) (a : Act) (r : SV) : Prop :=
  ∃ w', Res cx.P o a w (r.den ρ β) w' ∧ Sat ρ β s' w' ∧ Ext s s' β β w w'
def More (cx : Cx) (ρ : Env) (β : Nat → Nat × Nat) (s s' : St) (w : World) (o : Oper) (a : Act) (r : SV) : Prop :=
  ∃ β' w', Res cx.P o a w (r.den ρ β') w' ∧ Sat ρ β' s' w' ∧ Ext s s' β β' w w' ∧ (chg o.op = false → β' = β) ∧ (valOp o.op = true → (execOp a.eval o).run cx.P w = .ok (.value (r.den ρ β)) w)

theorem Same.more (hv : valOp o.op = false) (h : Same cx ρ β s s' w o a r) : More cx ρ β s s' w o a r :=
  let ⟨w', h1, h2, h3⟩ := h; ⟨β, w', h1, h2, h3, fun _ => rfl, fun h => Bool.noConfusion (h.symm.trans hv)⟩

theorem same_kn {s1 : St} (hs : Sat ρ β s1 w) (hx : Ext s s1 β β w w) (h : (execOp a.eval o).run cx.P w = .ok (.value (r.den ρ β)) w) : More cx ρ β s s1 w o a r :=
  ⟨β, w, .inl h, hs, hx, fun _ => rfl, fun _ => h⟩

theorem same_value (hs : Sat ρ β s w) (h : (execOp a.eval o).run cx.P w = .ok (.value (r.den ρ β)) w) : More cx ρ β s s w o a r :=
  same_kn hs (Ext.refl _ _ _) h

theorem ext_kn {s s1 : St} (e : s1.bl = s.bl) (β : Nat → Nat × Nat) (w : World) : Ext s s1 β β w w := by
  have hl : ∀ j, live s1 j ↔ live s j := fun j => by unfold live; rw [e]
  exact ⟨fun _ _ => rfl, fun j _ h => (hl j).1 h, fun j hj h => absurd (live_lt ((hl j).1 h)) (by omega), Nat.le_refl _, fun _ _ _ => rfl, by rw [e]; exact Nat.le_refl _, rfl, rfl, rfl⟩

theorem parts_map (tm : List SV) (ht : a.tmps = (SV.denL ρ β tm).toArray) (parts : Array (Nat × Operand)) :
    (parts.map fun (i, x) => (i, a.eval x)) = ((parts.toList.map fun p => (p.1, evO tm p.2)).map fun p => (p.1, p.2.den ρ β)).toArray := by
  apply Array.ext'
  simp [evO_den ht]

theorem ops_map (tm : List SV) (ht : a.tmps = (SV.denL ρ β tm).toArray) (xs : Array Operand) :
    xs.map a.eval = (SV.denL ρ β (xs.toList.map (evO tm))).toArray := by
  apply Array.ext'
  simp [denL_map, evO_den ht]

theorem opt_map (tm : List SV) (ht : a.tmps = (SV.denL ρ β tm).toArray) (x : Option Operand) : x.map a.eval = (x.map (evO tm)).map (SV.den ρ β) := by
  cases x <;> simp [evO_den ht]

theorem run_v {x : Sem Value} {V : Value} {w w' : World} {P : Program} (h : x.run P w = .ok V w') : (do pure (Next.value (← x)) : Sem Next).run P w = .ok (.value V) w' := by
  simp only [Sem.run_bind, h, Result.andThen_ok, Sem.run_pure]

theorem opS_ok (hρ : EnvOk cx ρ) (ht : a.tmps = (SV.denL ρ β tm).toArray) (hs : Sat ρ β s w) (h : (opS cx tm s o).sel ρ = some (r, s')) : More cx ρ β s s' w o a r := by
  obtain ⟨dst, op, ty, pos, aft, gd⟩ := o
  unfold opS at h
  cases op <;> simp only at h <;> try (cases h; done)
  case move x => cases h; exact same_value hs (by simp [execOp, evO_den ht])
  case assign x => cases h; exact same_value hs (by simp [execOp, evO_den ht])
  case pick c x y =>
    split at h
    · rename_i e he
      obtain ⟨s1, e1, hs1, ⟨hne, h⟩ | ⟨h0, h⟩⟩ := fork_ok hs h <;> cases h
      · refine same_kn hs1 (ext_kn e1 β w) ?_
        simp [execOp, evO_den ht c, he, SV.den, asBool, hne, evO_den ht]
      · refine same_kn hs1 (ext_kn e1 β w) ?_
        simp [execOp, evO_den ht c, he, SV.den, asBool, h0, evO_den ht]
    · cases h
  case alloc el =>
    split at h
    · rename_i z hz
      obtain ⟨β', w', h1, h2, h3, h4⟩ := boxS_ok hρ hs (sel_optM h)
      refine ⟨β', w', .inl ?_, h3, h4, fun h => (by cases h), fun h => (by cases h)⟩
      refine run_v ?_
      simp only [Instr.alloc, Sem.run_bind, zeroS_ok (ρ := ρ) (β := β) (w := w) hz, Result.andThen_ok, h1, h2, Sem.run_pure]
    · cases h
  case box el x =>
    obtain ⟨β', w', h1, h2, h3, h4⟩ := boxS_ok hρ hs (sel_optM h)
    refine ⟨β', w', .inl ?_, h3, h4, fun h => (by cases h), fun h => (by cases h)⟩
    refine run_v ?_
    simp only [evO_den ht, Instr.box, Sem.run_bind, h1, h2, Result.andThen_ok, Sem.run_pure]
  case build t parts =>
    obtain ⟨h', rfl⟩ := sel_opt h
    refine same_value hs (run_v ?_)
    rw [parts_map tm ht]
    exact buildS_ok hρ h'
  case buildSlice t len parts =>
    obtain ⟨β', w', h1, h2, h3⟩ := rowS_ok hρ hs (sel_optM h)
    refine ⟨β', w', .inl ?_, h2, h3, fun h => (by cases h), fun h => (by cases h)⟩
    refine run_v ?_
    rw [parts_map tm ht]
    exact h1
  case load t x =>
    obtain ⟨h', rfl⟩ := sel_opt h
    exact same_value hs (run_v (by simp only [evO_den ht]; exact loadS_ok hs h'))
  case store t x y =>
    split at h
    · rename_i s2 h2
      cases h
      obtain ⟨w', h1, h2, h3, _⟩ := storeS_ok hρ hs h2
      exact Same.more rfl ⟨w', .inr ⟨by simp [execOp, evO_den ht, h1], rfl⟩, h2, h3⟩
    · cases h
  case nilCheck x =>
    obtain ⟨h', rfl⟩ := sel_opt h
    refine same_value hs ?_
    unfold nilS at h'
    split at h' <;> cases h' <;> rename_i hx <;> simp [execOp, evO_den ht, hx, SV.den]
    obtain ⟨ad, ha⟩ := hρ.hv (by assumption)
    simp [ha]
  case binOp bop xt x y yt =>
    obtain ⟨h1, h2, h3⟩ := binS_ok (x := x) (y := y) hρ hs h
    refine same_kn h3 (ext_kn h2 β w) ?_
    unfold BinOk at h1
    refine run_v ?_
    simp only [evO_den ht]
    exact h1
  case unOp uop xt x =>
    obtain ⟨h', rfl⟩ := sel_opt h
    exact same_value hs (run_v (by simp only [evO_den ht]; exact unS_ok hρ h'))
  case convert src dst x =>
    obtain ⟨h', rfl⟩ := sel_opt h
    exact same_value hs (run_v (by simp only [evO_den ht]; exact convS_ok hρ h'))
  case makeInterface t x =>
    obtain ⟨h', rfl⟩ := sel_opt h
    exact same_value hs (run_v (by simp only [evO_den ht]; exact mkIfS_ok h'))
  case makeFunc fn first cap =>
    cases h
    refine same_value hs (run_v ?_)
    simp only [Instr.makeFunc, ops_map tm ht]
    rfl
  case slice t x lo hi mx =>
    obtain ⟨h', rfl⟩ := sel_opt h
    refine same_value hs (run_v ?_)
    simp only [opt_map tm ht, evO_den ht x]
    exact sliceS_ok hs h'
  case fieldAddr t x f =>
    obtain ⟨h', rfl⟩ := sel_opt h
    exact same_value hs (run_v (by simp only [evO_den ht]; exact faddrS_ok h'))
  case field t x f =>
    obtain ⟨h', rfl⟩ := sel_opt h
    exact same_value hs (run_v (by simp only [evO_den ht]; exact fieldS_ok h'))
  case indexAddr t x i =>
    obtain ⟨h', rfl⟩ := sel_opt h
    exact same_value hs (run_v (by simp only [evO_den ht]; exact iaddrS_ok h'))
  case index t x i =>
    obtain ⟨h', rfl⟩ := sel_opt h
    exact same_value hs (run_v (by simp only [evO_den ht]; exact indexS_ok h'))
  case extract x i =>
    obtain ⟨h', rfl⟩ := sel_opt h
    exact same_value hs (run_v (by simp only [evO_den ht]; exact extractS_ok h'))
  case call c =>
    obtain ⟨callee, args, ats⟩ := c
    simp only at h
    split at h
    · split at h
      · rename_i x l hx
        obtain ⟨h', rfl⟩ := sel_opt h
        refine same_value hs ?_
        have hx0 : (args.map a.eval)[0]? = some ((evO tm x).den ρ β) := by
          rw [← Array.getElem?_toList, Array.toList_map, hx]; simp [evO_den ht]
        show ((do pure (Next.value (← Builtin.len_ ats ty (args.map a.eval)))) : Sem Next).run cx.P w = _
        exact run_v (lenS_ok hx0 h')
      · cases h
    · split at h
      · rename_i k e l hx
        split at h
        · rename_i q hq
          cases h
          refine same_value hs ?_
          show ((do pure (Next.value (← Builtin.min_ ats ty (args.map a.eval)))) : Sem Next).run cx.P w = _
          have hl : (args.map a.eval).toList = SV.denL ρ β (.int k e :: l) := by rw [ops_map tm ht, hx]
          refine run_v ?_
          simp only [Builtin.min_, hl, SV.denL, SV.den]
          exact mmS_min hρ k l e q hq
        · cases h
      · cases h
    · split at h
      · rename_i k e l hx
        split at h
        · rename_i q hq
          cases h
          refine same_value hs ?_
          show ((do pure (Next.value (← Builtin.max_ ats ty (args.map a.eval)))) : Sem Next).run cx.P w = _
          have hl : (args.map a.eval).toList = SV.denL ρ β (.int k e :: l) := by rw [ops_map tm ht, hx]
          refine run_v ?_
          simp only [Builtin.max_, hl, SV.denL, SV.den]
          exact mmS_max hρ k l e q hq
        · cases h
      · cases h
    · split at h
      · rename_i x y hx
        obtain ⟨β', w', h1, h2, h3⟩ := appendS_ok (ty := ty) hρ hs (sel_optM h)
        refine ⟨β', w', .inl ?_, h2, h3, fun h => (by cases h), fun h => (by cases h)⟩
        have hargs : args.map a.eval = #[(evO tm x).den ρ β, (evO tm y).den ρ β] := by
          apply Array.ext'
          rw [Array.toList_map, hx]; simp [evO_den ht]
        show ((do pure (Next.value (← Builtin.append_ ats ty (args.map a.eval)))) : Sem Next).run cx.P w = _
        rw [hargs]
        exact run_v h1
      · cases h
    · cases h

end

/-! ### calls -/

abbrev CF := FuncId → List SV → St → R

def CallOk (cx : Cx) (cf : CF) : Prop :=
  ∀ (ρ : Env) (β : Nat → Nat × Nat) (s s' : St) (w : World) (f : FuncId) (args : List SV) (v : SV), EnvOk cx ρ → Sat ρ β s w → (cf f args s).sel ρ = some (v, s') →
    Calls cx.P f (SV.denL ρ β args).toArray w fun e w' => ∃ β', e = .returned (v.den ρ β') ∧ Sat ρ β' s' w' ∧ Ext s s' β β' w w'

/-- functions without a body, that reckon -/
abbrev XF := FuncId → List SV → Option SV
def XOk (cx : Cx) (ex : XF) : Prop :=
  ∀ (ρ : Env) (β : Nat → Nat × Nat) (w : World) (f : FuncId) (args : List SV) (v : SV), EnvOk cx ρ → ex f args = some v →
    (callFunc f (SV.denL ρ β args).toArray).run cx.P w = .ok (.value (v.den ρ β)) w

def hasBody (cx : Cx) (f : FuncId) : Bool := match cx.fn f with
  | some fn => fn.body.isSome
  | none => false

def methodS (cx : Cx) (t : TypeId) (x : SV) (name : String) : Option (FuncId × SV) :=
  match cx.inf t with
  | some i => match i.methods.find? (·.name == name) with
    | some m => if m.path.isEmpty then
        match m.func, cx.und t with
        | some (f, true), some (.pointer _) => some (f, x)
        | some (_, false), some (.pointer _) => none
        | some (f, false), some _ => some (f, x)
        | _, _ => none
      else none
    | none => none
  | none => none

theorem methodS_ok {cx : Cx} {t : TypeId} {x r : SV} {name : String} {f : FuncId} (h : methodS cx t x name = some (f, r)) (ρ : Env) (β : Nat → Nat × Nat) (w : World) (n : Nat) :
    (method (n + 1) t (x.den ρ β) name).run cx.P w = .ok (f, r.den ρ β) w := by
  unfold methodS at h
  split at h
  case h_2 => cases h
  rename_i i hi
  split at h
  case h_2 => cases h
  rename_i m hm
  split at h
  case isFalse => cases h
  rename_i hp
  have hp' : m.path.toList = [] := by simpa [Array.isEmpty_iff] using hp
  split at h
  · rename_i f' e hf hu
    cases h
    simp [method, run_typeInfo_of hi, hm, hp', follow, hf, receiverAt, run_und hu, Place.get]
  · cases h
  · rename_i f' d hn hf hu
    cases h
    simp only [method, Sem.run_bind, run_typeInfo_of hi, Result.andThen_ok, hm, hp', follow, hf, receiverAt, run_und hu, Sem.run_pure]
    cases d <;> simp_all [Place.get]
  · cases h

def callS (cx : Cx) (cf : CF) (ex : XF) (f : FuncId) (args : List SV) (s : St) : R :=
  match ex f args with
  | some v => ret s v
  | none => if hasBody cx f then cf f args s else .bad 30

def opC (cx : Cx) (cf : CF) (ex : XF) (tm : List SV) (s : St) (o : Oper) : R :=
  match o.op with
  | .call c => match c.callee with
    | .value f => match evO tm f with
      | .func (.func fid) first cap => callS cx cf ex fid (first ++ c.args.toList.map (evO tm) ++ cap) s
      | _ => .bad 31
    | .invoke x name => match evO tm x with
      | .iface t v => match methodS cx t v name with
        | some (fid, rv) => callS cx cf ex fid (rv :: c.args.toList.map (evO tm)) s
        | none => .bad 32
      | _ => .bad 33
    | .builtin _ => opS cx tm s o
  | _ => opS cx tm s o

def Post (_cx : Cx) (ρ : Env) (β : Nat → Nat × Nat) (s s' : St) (w : World) (o : Oper) (r : SV) (V : Value) (w' : World) : Prop :=
  ∃ β', V = r.den ρ β' ∧ Sat ρ β' s' w' ∧ Ext s s' β β' w w' ∧ (chg o.op = false → β' = β)

section
variable {cx : Cx} {ρ : Env} {β : Nat → Nat × Nat} {s s' : St} {w : World} {tm : List SV} {a : Act} {o : Oper} {r : SV} {cf : CF} {ex : XF}

theorem More.good (h : More cx ρ β s s' w o a r) : OpGood cx.P o a w (Post cx ρ β s s' w o r) :=
  let ⟨β', _, h1, h2, h3, h4, _⟩ := h; h1.good ⟨β', rfl, h2, h3, h4⟩

theorem callS_ok (hcx : CxOk cx) (hcf : CallOk cx cf) (hex : XOk cx ex) (hρ : EnvOk cx ρ) (hs : Sat ρ β s w) {f : FuncId} {args : List SV} (h : (callS cx cf ex f args s).sel ρ = some (r, s'))
    (hrun : (execOp a.eval o).run cx.P w = (callFunc f (SV.denL ρ β args).toArray).run cx.P w) (hch : chg o.op = true) : OpGood cx.P o a w (Post cx ρ β s s' w o r) := by
  unfold callS at h
  split at h
  · rename_i v hv
    cases h
    have := hex ρ β w f args _ hρ hv
    exact (Res.good (.inl (hrun.trans this))) ⟨β, rfl, hs, Ext.refl _ _ _, fun h' => Bool.noConfusion (hch.symm.trans h')⟩
  · split at h
    · rename_i hb
      unfold hasBody at hb
      split at hb
      · rename_i fn hfn
        intro K Q hk
        unfold Oper.wp
        rw [hrun]
        have hcall : (callFunc f (SV.denL ρ β args).toArray).run cx.P w = .ok (.enter f (SV.denL ρ β args).toArray) w := by
          have hfn := cx.fnOk _ _ hfn
          have hn := hcx.nogo f fn hfn
          obtain ⟨bd, hbd⟩ := Option.isSome_iff_exists.1 hb
          simp only [callFunc, Sem.run_bind, run_program, Result.andThen_ok, hfn, hn, hbd]
          simp
        rw [hcall, Oper.upon_enter]
        refine (hcf ρ β s s' w f args r hρ hs h).mono ?_
        rintro e w' ⟨β', rfl, h1, h2⟩
        exact hk _ _ ⟨β', rfl, h1, h2, fun h' => Bool.noConfusion (hch.symm.trans h')⟩
      · cases hb
    · cases h

theorem opC_ok (hcx : CxOk cx) (hcf : CallOk cx cf) (hex : XOk cx ex) (hρ : EnvOk cx ρ) (ht : a.tmps = (SV.denL ρ β tm).toArray) (hs : Sat ρ β s w) (h : (opC cx cf ex tm s o).sel ρ = some (r, s')) :
    OpGood cx.P o a w (Post cx ρ β s s' w o r) := by
  unfold opC at h
  split at h
  · rename_i c hc
    split at h
    · rename_i f hf
      split at h
      · rename_i fid first cap hv
        refine callS_ok hcx hcf hex hρ hs h ?_ (by rw [hc]; rfl)
        obtain ⟨callee, args, ats⟩ := c
        simp only at hf
        subst hf
        simp only [execOp, hc, resolve, evO_den ht f, hv, SV.den, Deferred.ofValue, Sem.run_bind, Sem.run_pure, Result.andThen_ok, invoke, ops_map tm ht]
        congr 2
        apply Array.ext'
        simp
      · cases h
    · rename_i x name hf
      split at h
      · rename_i t v hv
        split at h
        · rename_i fid rv hm
          refine callS_ok hcx hcf hex hρ hs h ?_ (by rw [hc]; rfl)
          obtain ⟨callee, args, ats⟩ := c
          simp only at hf
          subst hf
          have hmm := methodS_ok hm ρ β w (cx.P.types.size + Made.depth - 1)
          have hdep : 0 < Made.depth := by decide
          rw [show cx.P.types.size + Made.depth - 1 + 1 = cx.P.types.size + Made.depth from by omega] at hmm
          simp only [execOp, hc, resolve, evO_den ht x, hv, SV.den, Sem.run_bind, Sem.run_pure, Result.andThen_ok, invoke, ops_map tm ht]
          simp only [callMethod, Array.getElem?_append, List.size_toArray, List.length_cons, List.length_nil]
          simp only [Nat.zero_add, Nat.zero_lt_one, if_true, List.getElem?_toArray, List.getElem?_cons_zero, Sem.run_bind, run_program, Result.andThen_ok, hmm]
          congr 2
          apply Array.ext'
          simp [SV.denL]
          rw [List.take_of_length_le (by simp)]
        · cases h
      · cases h
    · exact (opS_ok hρ ht hs h).good
  · exact (opS_ok hρ ht hs h).good

end
end Go.Eng
