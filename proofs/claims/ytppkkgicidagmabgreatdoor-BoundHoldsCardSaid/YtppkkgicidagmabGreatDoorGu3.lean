/-
  Parts of the engine, a program's symbolic run, proved sound; and of plain laws.
-/
import Derived.Test.YtppkkgicidagmabGreatDoorGu2
import Derived.Tactics
import Derived.LoopN
import Derived.Scope
import Derived.OrdersHeld
import Derived.RangeFuncLeaves
import Derived.OrdersIn
import Derived.TacticsIn
import Derived.LoopNIn
set_option linter.unusedVariables false
set_option linter.unusedSimpArgs false

/-!  -/
noncomputable section
namespace Go.Eng
def opt (s : St) : Option SV → R
 | some v => ret s v
 | none => .bad 20
def optM : Option (SV × St) → R
 | some r => .leaf r
 | none => .bad 21
def clearS (cx : Cx) (ats : Array TypeId) (x : SV) (s : St) : Option St := match x, ats.toList with
 | .slice j off m _, [t] => match cx.und t with
  | some (.slice el) => match zeroS cx el with
   | some z => match z.cells with
    | some [c] => setCells s j off (List.replicate m c)
    | _ => none
   | none => none
  | _ => none
 | _, _ => none
theorem clearS_ok {cx : Cx} {ρ : Env} (hρ : EnvOk cx ρ) {β : Bt} {s s' : St} {w : World} {ats : Array TypeId} {ty : TypeId} {x : SV} (hs : Sat ρ β s w) (h : clearS cx ats x s = some s') :
  ∃ w', (Builtin.clear_ ats ty #[x.den ρ β]).run cx.P w = .ok (.tuple #[]) w' ∧ Sat ρ β s' w' ∧ Ext s s' β β w w' := by
 unfold clearS at h
 split at h <;> try (cases h; done)
 rename_i j off m c t hat
 have hats : ats = #[t] := by cases ats; simp_all
 subst hats
 split at h <;> try (cases h; done)
 rename_i el hu
 split at h <;> try (cases h; done)
 rename_i z hz
 split at h <;> try (cases h; done)
 rename_i k hc
 have hzc := (SV.cells_den hρ β hc).1
 have hzv := zeroS_ok (ρ := ρ) (β := β) (w := w) hz
 obtain ⟨w', hr, h1, h2, _⟩ := setCells_ok hρ off (List.replicate m k) 0 hs (by simpa using h)
 have hrep : (Builtin.zeroCells (z.den ρ β).cells m).toList = SV.denL ρ β (List.replicate m k) := by
  rw [hzc]
  unfold Builtin.zeroCells
  have h1 : ∀ m, SV.denL ρ β (List.replicate m k) = List.replicate m (k.den ρ β) := fun m => by
   induction m with
   | zero => rfl
   | succ m ih => rw [List.replicate_succ, SV.denL, ih, List.replicate_succ]
  rw [h1]
  simp [SV.denL, Nat.mod_one]
  rw [List.eq_replicate_iff]
  simp
 refine ⟨w', ?_, h1, h2⟩
 cases m with
 | zero =>
  simp [SV.denL, storeCells] at hr
  subst hr
  simp [Builtin.clear_, SV.den, qQx hu, Result.andThen]
 | succ m =>
  simp [Builtin.clear_, SV.den, qQx hu, Result.andThen, hzv, hrep, hr]
def isTextK : Operand → Bool
 | .const (.string _) => true
 | _ => false
def chg : Op → Bool
 | .convert a b x => a == b || isTextK x
 | .alloc _ | .box _ _ | .buildSlice _ _ _ | .call _ | .makeSlice _ _ _ | .makeMap _ _ => true
 | _ => false
def cksOf (cx : Cx) : Nat → TypeId → Option (List CK)
 | 0, _ => none
 | d + 1, t => match cx.und t with
  | some (.int k) => some [.int k]
  | some .bool => some [.bool]
  | some .string => some [.str]
  | some (.struct fs) => fs.toList.foldr (fun f acc => match acc, cksOf cx d f.type with
   | some l, some m => some (m ++ l)
   | _, _ => none) (some [])
  | some (.array n e) => match cksOf cx d e with
   | some m => some ((List.replicate n m).flatten)
   | none => none
  | _ => none
def elemCks (cx : Cx) (t : TypeId) : List CK := match cx.und t with
 | some (.slice e) => (cksOf cx 6 e).getD []
 | _ => []
def isRowV : SV → Bool
 | .sl _ _ _ _ _ => true
 | _ => false
def nilT (cx : Cx) (x : SV) (s : St) : R :=
 match x with
 | .ep b z i f => (match qKv cx s b with
  | some (_, _, n) => obl s (leE cx (.c 0) i) fun s => obl s (ltE cx i n) fun s => ret s (.ep b z i f)
  | none => .bad 292)
 | .cp j b z l i f => ret s (.cp j b z l i f)
 | x => (match nilS x with
  | some v => ret s v
  | none => .bad 293)
def faddrT (cx : Cx) (t : TypeId) (x : SV) (f : Nat) (s : St) : R :=
 match cx.und t, x with
 | some (.struct fs), .ep b z i f0 => (match fs[f]?, qKv cx s b with
  | some fl, some (_, _, n) => (match szT cx fl.type with
   | some (_ + 1) => obl s (leE cx (.c 0) i) fun s => obl s (ltE cx i n) fun s => ret s (.ep b z i (f0 + fl.offset))
   | _ => .bad 294)
  | _, _ => .bad 295)
 | some (.struct fs), .cp j b z l i f0 => (match fs[f]? with
  | some fl => (match szT cx fl.type with
   | some (_ + 1) => ret s (.cp j b z l i (f0 + fl.offset))
   | _ => .bad 297)
  | none => .bad 298)
 | _, _ => (match faddrS cx t x f with
  | some v => ret s v
  | none => .bad 296)
def valOp : Op → Bool
 | .convert a b x => !(a == b || isTextK x)
 | .move _ | .assign _ | .pick _ _ _ | .build _ _ | .load _ _ | .nilCheck _ | .binOp _ _ _ _ _ | .unOp _ _ _ | .makeInterface _ _ | .typeAssert _ _ _ _ | .makeFunc _ _ _
 | .slice _ _ _ _ _ | .fieldAddr _ _ _ | .field _ _ _ | .indexAddr _ _ _ | .index _ _ _ | .extract _ _ | .lookup _ _ _ _ => true
 | .call c => match c.callee with
  | .builtin .len => true
  | .builtin .min => true
  | .builtin .max => true
  | _ => false
 | _ => false
def opS (cx : Cx) (tm : List SV) (s : St) (o : Oper) : R :=
 match o.op with
 | .move x => ret s (evO tm x)
 | .assign x => ret s (evO tm x)
 | .pick c x y => match evO tm c with
  | .bool e => fork s e (fun s => ret s (evO tm x)) (fun s => ret s (evO tm y))
  | _ => .bad 22
 | .alloc el => match zeroS cx el with
  | some z => optM (boxS el z s)
  | none => .bad 23
 | .box el x => optM (boxS el (evO tm x) s)
 | .build t parts => opt s (buildS cx t (parts.toList.map fun p => (p.1, evO tm p.2)))
 | .buildSlice t len parts => optM (rowS cx t len (parts.toList.map fun p => (p.1, evO tm p.2)) s)
 | .load t x => loadT cx t (evO tm x) s
 | .store t x y => (storeT cx t (evO tm x) (evO tm y) s).bind fun s' => .leaf (qZq, s')
 | .nilCheck x => nilT cx (evO tm x) s
 | .makeSlice t l c => makeT cx (elemCks cx t) t (evO tm l) (evO tm c) s
 | .binOp op xt x y _ => binV cx op xt x y (evO tm x) (evO tm y) s
 | .unOp op _ x => opt s (unS cx op (evO tm x))
 | .convert src dst x => if src = dst then (match convS cx src dst (evO tm x) with
  | some v => ret s v
  | none => markT cx src (evO tm x) s) else (match x with
  | .const (.string b) => bytesT cx src dst b s
  | x => textT cx src dst (evO tm x) s)
 | .makeInterface t x => opt s (mkIfS cx t (evO tm x))
 | .typeAssert x _ as ok => opt s (tasS cx (evO tm x) as ok)
 | .makeFunc fn first cap => ret s (.func fn (first.toList.map (evO tm)) (cap.toList.map (evO tm)))
 | .slice t x lo hi mx => (sliceU cx t (evO tm x) (lo.map (evO tm)) (hi.map (evO tm)) (mx.map (evO tm)) s).bind fun r => shrR cx (evO tm x) r.1 r.2
 | .fieldAddr t x f => faddrT cx t (evO tm x) f s
 | .field t x f => opt s (fieldS cx t (evO tm x) f)
 | .indexAddr t x i => iaddrT cx t (evO tm x) (evO tm i) s
 | .index t x i => indexT cx t (evO tm x) (evO tm i) s
 | .extract x i => opt s (extractS (evO tm x) i)
 | .makeMap t r => (match r with
  | none => makeMapT cx t s
  | some _ => .bad 29)
 | .lookup t x k ok => lookupT cx t (evO tm x) (evO tm k) ok s
 | .mapUpdate t m k v => (mapUpdT cx t (evO tm m) (evO tm k) (evO tm v) s).bind fun s' => .leaf (qZq, s')
 | .call c => match c.callee with
  | .builtin .len => match c.args.toList with
   | x :: _ => lenT cx c.argTypes (evO tm x) s
   | _ => .bad 25
  | .builtin .min => match c.args.toList.map (evO tm) with
   | .int k e :: l => match mmS cx .min k e l with
    | some r => ret s (.int k r)
    | none => .bad 26
   | _ => .bad 26
  | .builtin .max => match c.args.toList.map (evO tm) with
   | .int k e :: l => match mmS cx .max k e l with
    | some r => ret s (.int k r)
    | none => .bad 26
   | _ => .bad 26
  | .builtin .append => match c.args.toList with
   | [x, y] => if isRowV (evO tm x) || isRowV (evO tm y) then appendT cx (elemCks cx (c.argTypes.getD 0 0)) c.argTypes (evO tm x) (evO tm y) s else optM (appendS cx c.argTypes (evO tm x) (evO tm y) s)
   | _ => .bad 27
  | .builtin .copy => match c.args.toList with
   | [x, y] => copyT cx c.argTypes (evO tm x) (evO tm y) s
   | _ => .bad 27
  | .builtin .clear => match c.args.toList with
   | [x] => optM ((clearS cx c.argTypes (evO tm x) s).map fun s' => (.tup [], s'))
   | _ => .bad 27
  | _ => .bad 28
 | _ => .bad 29
def OpGood (P : Program) (o : Oper) (a : Act) (w : World) (post : Value → World → Prop) : Prop :=
 ∀ (K : Act → World → Prop) (Q : Exit → Act → World → Prop), (∀ V w', post V w' → K (a.put o.dst V) w') → o.wp P a w K Q
theorem Res.good {P : Program} {o : Oper} {a : Act} {w w' : World} {V : Value} (h : Res P o a w V w') {post : Value → World → Prop} (hp : post V w') : OpGood P o a w post :=
 fun _ _ hk => h.wp (hk _ _ hp)
structure CxOk (cx : Cx) : Prop where
 mixed : cx.P.follows .mixedOrders = true
 nogo : ∀ (f : FuncId) fn, cx.P.funcs[f]? = some fn → (fn.name == "runtime.NumGoroutine") = false
section
variable {cx : Cx} {ρ : Env} {β : Bt} {s s' : St} {w : World} {tm : List SV} {a : Act} {o : Oper} {r : SV}
theorem sel_opt {x : Option SV} (h : (opt s x).sel ρ = some (r, s')) : x = some r ∧ s' = s := by
 cases x with
 | none => cases h
 | some v => cases h; exact ⟨rfl, rfl⟩
theorem sel_optM {x : Option (SV × St)} (h : (optM x).sel ρ = some (r, s')) : x = some (r, s') := by
 cases x with
 | none => cases h
 | some v => cases h; rfl
def Same (cx : Cx) (ρ : Env) (β : Bt) (s s' : St) (w : World) (o : Oper) (a : Act) (r : SV) : Prop :=
 ∃ w', Res cx.P o a w (r.den ρ β) w' ∧ Sat ρ β s' w' ∧ Ext s s' β β w w'
def More (cx : Cx) (ρ : Env) (β : Bt) (s s' : St) (w : World) (o : Oper) (a : Act) (r : SV) : Prop :=
 ∃ β' w', Res cx.P o a w (r.den ρ β') w' ∧ Sat ρ β' s' w' ∧ Ext s s' β β' w w' ∧ (chg o.op = false → β' = β) ∧ (valOp o.op = true → (execOp a.eval o).run cx.P w = .ok (.value (r.den ρ β)) w)
theorem Same.more (hv : valOp o.op = false) (h : Same cx ρ β s s' w o a r) : More cx ρ β s s' w o a r :=
 let ⟨w', h1, h2, h3⟩ := h; ⟨β, w', h1, h2, h3, fun _ => rfl, fun h => Bool.noConfusion (h.symm.trans hv)⟩
theorem qXw {s1 : St} (hs : Sat ρ β s1 w) (hx : Ext s s1 β β w w) (h : (execOp a.eval o).run cx.P w = .ok (.value (r.den ρ β)) w) : More cx ρ β s s1 w o a r :=
 ⟨β, w, .inl h, hs, hx, fun _ => rfl, fun _ => h⟩
theorem qZc (hs : Sat ρ β s w) (h : (execOp a.eval o).run cx.P w = .ok (.value (r.den ρ β)) w) : More cx ρ β s s w o a r :=
 qXw hs (Ext.refl _ _ _) h
theorem qQs {s s1 : St} (e : s1.bl = s.bl) (β : Bt) (w : World) : Ext s s1 β β w w := by
 have hl : ∀ j, live β s1 j ↔ live β s j := fun j => by unfold live; rw [e]
 exact ⟨fun _ _ => rfl, fun j _ h => (hl j).1 h, fun j hj h => absurd (qQt ((hl j).1 h)) (by omega), Nat.le_refl _, fun _ _ _ => rfl, by rw [e]; exact Nat.le_refl _, rfl, rfl, rfl⟩
theorem parts_map (tm : List SV) (ht : a.tmps = (SV.denL ρ β tm).toArray) (parts : Array (Nat × Operand)) :
  (parts.map fun (i, x) => (i, a.eval x)) = ((parts.toList.map fun p => (p.1, evO tm p.2)).map fun p => (p.1, p.2.den ρ β)).toArray := by
 apply Array.ext'
 simp [qQb ht]
theorem ops_map (tm : List SV) (ht : a.tmps = (SV.denL ρ β tm).toArray) (xs : Array Operand) :
  xs.map a.eval = (SV.denL ρ β (xs.toList.map (evO tm))).toArray := by
 apply Array.ext'
 simp [qQa, qQb ht]
theorem opt_map (tm : List SV) (ht : a.tmps = (SV.denL ρ β tm).toArray) (x : Option Operand) : x.map a.eval = (x.map (evO tm)).map (SV.den ρ β) := by
 cases x <;> simp [qQb ht]
theorem qJq {x : Sem Value} {V : Value} {w w' : World} {P : Program} (h : x.run P w = .ok V w') : (do pure (Next.value (← x)) : Sem Next).run P w = .ok (.value V) w' := by
 simp only [Sem.run_bind, h, Result.andThen_ok, Sem.run_pure]
def sure (v : Value) : Prop := ∀ (P : Program) (ev : Operand → Value) (x : Operand) (o : Oper) (w : World), ev x = v → o.op = .nilCheck x → (execOp ev o).run P w = .ok (.value v) w
theorem nilT_ok (hρ : EnvOk cx ρ) (hs : Sat ρ β s w) {X : SV} (h : (nilT cx X s).sel ρ = some (r, s')) : sure (X.den ρ β) ∧ r.den ρ β = X.den ρ β ∧ s'.bl = s.bl ∧ Sat ρ β s' w := by
 unfold nilT at h
 split at h
 ·rename_i b z i f
  split at h
  ·rename_i cks q n hrow
   obtain ⟨s1, e1, hs1, h1, hA⟩ := qQk hs h
   obtain ⟨s2, e2, hs2, h2, hB⟩ := qQk hs1 hA
   cases hB
   have g1 := qQw hρ h1
   have g2 := qJh hρ h2
   simp only [E.ev] at g1
   obtain ⟨a, ha, _⟩ := qJr hρ hs hrow (i := (i.ev ρ).toNat) (by omega)
   refine ⟨?_, rfl, e2.trans e1, hs2⟩
   rw [qKc ρ β b z i f ha]
   intro P ev x o w he ho
   simp [execOp, ho, he]
  ·cases h
 ·cases h
  refine ⟨?_, rfl, rfl, hs⟩
  intro P ev x o w he ho
  simp [execOp, ho, he, SV.den]
 ·split at h
  ·rename_i v hv
   cases h
   unfold nilS at hv
   split at hv <;> cases hv <;> refine ⟨?_, rfl, rfl, hs⟩ <;> intro P ev x o w he ho
   ·simp [execOp, ho, he, SV.den]
   ·rename_i i _ _
    obtain ⟨ad, ha⟩ := hρ.hv i
    simp only [SV.den, ha] at he ⊢
    simp [execOp, ho, he]
   ·simp [execOp, ho, he, SV.den]
   ·simp [execOp, ho, he, SV.den]
  ·cases h
theorem faddrT_ok (hρ : EnvOk cx ρ) (hs : Sat ρ β s w) {t : TypeId} {X : SV} {f : Nat} (h : (faddrT cx t X f s).sel ρ = some (r, s')) : LookOk cx ρ β s s' w (Instr.fieldAt t (X.den ρ β) f) r := by
 unfold faddrT at h
 split at h
 ·rename_i fs b z i f0 hu
  split at h
  ·rename_i fl cks q n hf hrow
   split at h
   ·rename_i m hm
    obtain ⟨s1, e1, hs1, h1, hA⟩ := qQk hs h
    obtain ⟨s2, e2, hs2, h2, hB⟩ := qQk hs1 hA
    cases hB
    have g1 := qQw hρ h1
    have g2 := qJh hρ h2
    simp only [E.ev] at g1
    obtain ⟨a, ha, _⟩ := qJr hρ hs hrow (i := (i.ev ρ).toNat) (by omega)
    refine ⟨?_, e2.trans e1, hs2⟩
    rw [qKc ρ β b z i f0 ha, qKc ρ β b z i _ ha]
    simp [Instr.fieldAt, qQx hu, hf, Instr.sureAddr, fieldPlace, qQz hm, qJj, Nat.add_assoc]
   ·cases h
  ·cases h
 ·rename_i fs j b z l i f0 hu
  split at h
  ·rename_i fl hf
   split at h
   ·rename_i m hm
    cases h
    refine ⟨?_, rfl, hs⟩
    simp [SV.den, Instr.fieldAt, qQx hu, hf, Instr.sureAddr, fieldPlace, qQz hm, qQu, Nat.add_assoc]
   ·cases h
  ·cases h
 ·split at h
  ·rename_i v hv
   cases h
   exact ⟨faddrS_ok hv, rfl, hs⟩
  ·cases h
theorem opS_ok (hρ : EnvOk cx ρ) (ht : a.tmps = (SV.denL ρ β tm).toArray) (hs : Sat ρ β s w) (h : (opS cx tm s o).sel ρ = some (r, s')) : More cx ρ β s s' w o a r := by
 obtain ⟨dst, op, ty, pos, aft, gd⟩ := o
 unfold opS at h
 cases op <;> simp only at h <;> try (cases h; done)
 case move x => cases h; exact qZc hs (by simp [execOp, qQb ht])
 case assign x => cases h; exact qZc hs (by simp [execOp, qQb ht])
 case pick c x y =>
  split at h
  ·rename_i e he
   obtain ⟨s1, e1, hs1, ⟨hne, h⟩ | ⟨h0, h⟩⟩ := qKk hs h <;> cases h
   ·refine qXw hs1 (qQs e1 β w) ?_
    simp [execOp, qQb ht c, he, SV.den, asBool, hne, qQb ht]
   ·refine qXw hs1 (qQs e1 β w) ?_
    simp [execOp, qQb ht c, he, SV.den, asBool, h0, qQb ht]
  ·cases h
 case alloc el =>
  split at h
  ·rename_i z hz
   obtain ⟨β', w', h1, h2, h3, h4⟩ := boxS_ok hρ hs (sel_optM h)
   refine ⟨β', w', .inl ?_, h3, h4, fun h => (by cases h), fun h => (by cases h)⟩
   refine qJq ?_
   simp only [Instr.alloc, Sem.run_bind, zeroS_ok (ρ := ρ) (β := β) (w := w) hz, Result.andThen_ok, h1, h2, Sem.run_pure]
  ·cases h
 case box el x =>
  obtain ⟨β', w', h1, h2, h3, h4⟩ := boxS_ok hρ hs (sel_optM h)
  refine ⟨β', w', .inl ?_, h3, h4, fun h => (by cases h), fun h => (by cases h)⟩
  refine qJq ?_
  simp only [qQb ht, Instr.box, Sem.run_bind, h1, h2, Result.andThen_ok, Sem.run_pure]
 case build t parts =>
  obtain ⟨h', rfl⟩ := sel_opt h
  refine qZc hs (qJq ?_)
  rw [parts_map tm ht]
  exact buildS_ok hρ h'
 case buildSlice t len parts =>
  obtain ⟨β', w', h1, h2, h3⟩ := rowS_ok hρ hs (sel_optM h)
  refine ⟨β', w', .inl ?_, h2, h3, fun h => (by cases h), fun h => (by cases h)⟩
  refine qJq ?_
  rw [parts_map tm ht]
  exact h1
 case load t x =>
  obtain ⟨h1, h2, h3⟩ := loadT_ok hρ hs h
  exact qXw h3 (qQs h2 β w) (qJq (by simp only [qQb ht]; exact h1))
 case store t x y =>
  obtain ⟨s2, h2, h3⟩ := T.sel_bind_some h
  cases h3
  obtain ⟨w', h1, h2, h3⟩ := storeT_ok hρ hs h2
  exact Same.more rfl ⟨w', .inr ⟨by simp [execOp, qQb ht, h1], rfl⟩, h2, h3⟩
 case makeSlice t l c =>
  obtain ⟨β', w', h1, h2, h3⟩ := makeT_ok hρ hs h
  exact ⟨β', w', .inl (qJq (by simp only [qQb ht]; exact h1)), h2, h3, fun h => (by cases h), fun h => (by cases h)⟩
 case nilCheck x =>
  obtain ⟨h1, h0, h2, h3⟩ := nilT_ok hρ hs h
  refine qXw h3 (qQs h2 β w) ?_
  rw [h0]
  exact h1 cx.P a.eval x _ w (qQb ht x) rfl
 case binOp bop xt x y yt =>
  obtain ⟨h1, h2, h3⟩ := binV_ok (x := x) (y := y) hρ hs h
  refine qXw h3 (qQs h2 β w) ?_
  unfold qZn at h1
  refine qJq ?_
  simp only [qQb ht]
  exact h1
 case unOp uop xt x =>
  obtain ⟨h', rfl⟩ := sel_opt h
  exact qZc hs (qJq (by simp only [qQb ht]; exact unS_ok hρ h'))
 case convert src dst x =>
  split at h
  ·rename_i he
   subst he
   split at h
   ·rename_i v hv
    cases h
    exact qZc hs (qJq (by simp only [qQb ht]; exact convS_ok hρ hv))
   ·obtain ⟨β', w', h1, h2, h3⟩ := markT_ok hρ hs h
    exact ⟨β', w', .inl (qJq (by simp only [qQb ht]; exact h1)), h2, h3, fun h => (by simp [chg] at h), fun h => (by simp [valOp] at h)⟩
  ·rename_i hne
   split at h
   ·rename_i b
    obtain ⟨β', w', h1, h2, h3⟩ := bytesT_ok hρ hs h
    exact ⟨β', w', .inl (qJq h1), h2, h3, fun h => (by simp [chg, isTextK] at h), fun h => (by simp [valOp, isTextK] at h)⟩
   ·obtain ⟨h1, h2, h3⟩ := textT_ok hρ hs h
    exact qXw h3 (qQs h2 β w) (qJq (by simp only [qQb ht]; exact h1))
 case makeInterface t x =>
  obtain ⟨h', rfl⟩ := sel_opt h
  exact qZc hs (qJq (by simp only [qQb ht]; exact mkIfS_ok h'))
 case typeAssert x xt as ok =>
  obtain ⟨h', rfl⟩ := sel_opt h
  exact qZc hs (qJq (by simp only [qQb ht]; exact tasS_ok h'))
 case makeFunc fn first cap =>
  cases h
  refine qZc hs (qJq ?_)
  simp only [Instr.makeFunc, ops_map tm ht]
  rfl
 case slice t x lo hi mx =>
  obtain ⟨⟨v1, s1⟩, ha, hb⟩ := T.sel_bind_some h
  obtain ⟨h1, h2, h3⟩ := sliceU_ok hρ hs ha
  obtain ⟨rfl, h4, h5⟩ := shrR_ok hρ h3 hb
  refine qXw h4 ((qQs h2 β w).trans h5) (qJq ?_)
  simp only [opt_map tm ht, qQb ht x]
  exact h1
 case fieldAddr t x f =>
  obtain ⟨h1, h2, h3⟩ := faddrT_ok hρ hs h
  exact qXw h3 (qQs h2 β w) (qJq (by simp only [qQb ht]; exact h1))
 case field t x f =>
  obtain ⟨h', rfl⟩ := sel_opt h
  exact qZc hs (qJq (by simp only [qQb ht]; exact fieldS_ok h'))
 case indexAddr t x i =>
  obtain ⟨h1, h2, h3⟩ := iaddrT_ok hρ hs h
  exact qXw h3 (qQs h2 β w) (qJq (by simp only [qQb ht]; exact h1))
 case index t x i =>
  obtain ⟨h1, h2, h3⟩ := indexT_ok hρ hs h
  exact qXw h3 (qQs h2 β w) (qJq (by simp only [qQb ht]; exact h1))
 case makeMap t r =>
  split at h
  ·obtain ⟨β', w', h1, h2, h3⟩ := makeMapT_ok hs h
   exact ⟨β', w', .inl (qJq (by simp only [Option.map_none]; exact h1)), h2, h3, fun h => (by cases h), fun h => (by cases h)⟩
  ·cases h
 case lookup t x k ok =>
  obtain ⟨h1, h2, h3⟩ := lookupT_ok hρ hs h
  exact qXw h3 (qQs h2 β w) (qJq (by simp only [qQb ht]; exact h1))
 case mapUpdate t m k v =>
  obtain ⟨s2, h2, h3⟩ := T.sel_bind_some h
  cases h3
  obtain ⟨w', h1, h2, h3⟩ := mapUpdT_ok hρ hs h2
  exact Same.more rfl ⟨w', .inr ⟨by simp [execOp, qQb ht, h1], rfl⟩, h2, h3⟩
 case extract x i =>
  obtain ⟨h', rfl⟩ := sel_opt h
  exact qZc hs (qJq (by simp only [qQb ht]; exact extractS_ok h'))
 case call c =>
  obtain ⟨callee, args, ats⟩ := c
  simp only at h
  split at h
  ·split at h
   ·rename_i x l hx
    have hx0 : (args.map a.eval)[0]? = some ((evO tm x).den ρ β) := by
     rw [← Array.getElem?_toList, Array.toList_map, hx]; simp [qQb ht]
    obtain ⟨h1, h2, h3⟩ := lenT_ok (ty := ty) hρ hs hx0 h
    refine qXw h3 (qQs h2 β w) ?_
    show ((do pure (Next.value (← Builtin.len_ ats ty (args.map a.eval)))) : Sem Next).run cx.P w = _
    exact qJq h1
   ·cases h
  ·split at h
   ·rename_i k e l hx
    split at h
    ·rename_i q hq
     cases h
     refine qZc hs ?_
     show ((do pure (Next.value (← Builtin.min_ ats ty (args.map a.eval)))) : Sem Next).run cx.P w = _
     have hl : (args.map a.eval).toList = SV.denL ρ β (.int k e :: l) := by rw [ops_map tm ht, hx]
     refine qJq ?_
     simp only [Builtin.min_, hl, SV.denL, SV.den]
     exact mmS_min hρ k l e q hq
    ·cases h
   ·cases h
  ·split at h
   ·rename_i k e l hx
    split at h
    ·rename_i q hq
     cases h
     refine qZc hs ?_
     show ((do pure (Next.value (← Builtin.max_ ats ty (args.map a.eval)))) : Sem Next).run cx.P w = _
     have hl : (args.map a.eval).toList = SV.denL ρ β (.int k e :: l) := by rw [ops_map tm ht, hx]
     refine qJq ?_
     simp only [Builtin.max_, hl, SV.denL, SV.den]
     exact mmS_max hρ k l e q hq
    ·cases h
   ·cases h
  ·split at h
   ·rename_i x y hx
    have hargs : args.map a.eval = #[(evO tm x).den ρ β, (evO tm y).den ρ β] := by
     apply Array.ext'
     rw [Array.toList_map, hx]; simp [qQb ht]
    have happ : ∃ β' w', (Builtin.append_ ats ty #[(evO tm x).den ρ β, (evO tm y).den ρ β]).run cx.P w = .ok (r.den ρ β') w' ∧ Sat ρ β' s' w' ∧ Ext s s' β β' w w' := by
     split at h
     ·exact appendT_ok hρ hs h
     ·exact appendS_ok (ty := ty) hρ hs (sel_optM h)
    obtain ⟨β', w', h1, h2, h3⟩ := happ
    refine ⟨β', w', .inl ?_, h2, h3, fun h => (by cases h), fun h => (by cases h)⟩
    show ((do pure (Next.value (← Builtin.append_ ats ty (args.map a.eval)))) : Sem Next).run cx.P w = _
    rw [hargs]
    exact qJq h1
   ·cases h
  ·split at h
   ·rename_i x y hx
    have hargs : args.map a.eval = #[(evO tm x).den ρ β, (evO tm y).den ρ β] := by
     apply Array.ext'
     rw [Array.toList_map, hx]; simp [qQb ht]
    obtain ⟨w', h1, h2, h3⟩ := copyT_ok (ty := ty) hρ hs h
    refine ⟨β, w', .inl ?_, h2, h3, fun h => (by cases h), fun h => (by cases h)⟩
    show ((do pure (Next.value (← Builtin.copy_ ats ty (args.map a.eval)))) : Sem Next).run cx.P w = _
    rw [hargs]
    exact qJq h1
   ·cases h
  ·split at h
   ·rename_i x hx
    have hargs : args.map a.eval = #[(evO tm x).den ρ β] := by
     apply Array.ext'
     rw [Array.toList_map, hx]; simp [qQb ht]
    have h := sel_optM h
    obtain ⟨s2, hs2, he⟩ := Option.map_eq_some_iff.1 h
    cases he
    obtain ⟨w', h1, h2, h3⟩ := clearS_ok (ty := ty) hρ hs hs2
    refine ⟨β, w', .inl ?_, h2, h3, fun h => (by cases h), fun h => (by cases h)⟩
    show ((do pure (Next.value (← Builtin.clear_ ats ty (args.map a.eval)))) : Sem Next).run cx.P w = _
    rw [hargs]
    exact qJq h1
   ·cases h
  ·cases h
end
abbrev CF := FuncId → List SV → St → R
def qKe (cx : Cx) (cf : CF) : Prop :=
 ∀ (ρ : Env) (β : Bt) (s s' : St) (w : World) (f : FuncId) (args : List SV) (v : SV), EnvOk cx ρ → Sat ρ β s w → (cf f args s).sel ρ = some (v, s') →
  Calls cx.P f (SV.denL ρ β args).toArray w fun e w' => ∃ β', e = .returned (v.den ρ β') ∧ Sat ρ β' s' w' ∧ Ext s s' β β' w w'
abbrev XF := FuncId → List SV → Option SV
def XOk (cx : Cx) (ex : XF) : Prop :=
 ∀ (ρ : Env) (β : Bt) (w : World) (f : FuncId) (args : List SV) (v : SV), EnvOk cx ρ → ex f args = some v →
  (callFunc f (SV.denL ρ β args).toArray).run cx.P w = .ok (.value (v.den ρ β)) w
def hasBody (cx : Cx) (f : FuncId) : Bool := match cx.fn f with
 | some fn => fn.body.isSome
 | none => false
def methodS (cx : Cx) (t : TypeId) (x : SV) (name : String) (s : St) : Option (FuncId × SV) :=
 match cx.inf t with
 | some i => match i.methods.find? (·.name == name) with
  | some m => if m.path.isEmpty then
    match m.func, cx.und t with
    | some (f, true), some (.pointer _) => some (f, x)
    | some (f, false), some (.pointer e) => (loadS cx e x s).map fun v => (f, v)
    | some (f, false), some _ => some (f, x)
    | _, _ => none
   else none
  | none => none
 | none => none
theorem wrapNil {P : Program} {w : World} (xt : TypeId) (a : Addr) (n : String) : (Builtin.ssaWrapNilChk_ #[xt] xt #[.pointer (some a), strVal "", strVal n]).run P w = .ok (.pointer (some a)) w := rfl
theorem methodS_ok {cx : Cx} {t : TypeId} {x r : SV} {name : String} {f : FuncId} {s : St} {ρ : Env} {β : Bt} {w : World} (h : methodS cx t x name s = some (f, r)) (hs : Sat ρ β s w) (n : Nat) :
  (method (n + 1) t (x.den ρ β) name).run cx.P w = .ok (f, r.den ρ β) w := by
 unfold methodS at h
 split at h
 case h_2 => cases h
 rename_i i hi
 split at h
 case h_2 => cases h
 rename_i m hm
 split at h
 case isFalse => cases h
 rename_i hp
 have hp' : m.path.toList = [] := by simpa [Array.isEmpty_iff] using hp
 split at h
 ·rename_i f' e hf hu
  cases h
  simp [method, qZa hi, hm, hp', follow, hf, receiverAt, qQx hu, Place.get]
 ·rename_i f' e hf hu
  obtain ⟨v, hv, h⟩ := Option.map_eq_some_iff.1 h
  cases h
  have hl := loadS_ok hs hv
  cases x with
  | ptr j off =>
   simp only [SV.den, Instr.loadAt, Instr.sureAddr, Sem.run_bind, Sem.run_pure, Result.andThen_ok] at hl
   have he : m.path = #[] := by simpa [Array.isEmpty_iff] using hp
   simp [method, qZa hi, hm, he, follow, hf, receiverAt, qQx hu, Place.get, SV.den, wrapNil, asAddr, hl]
  | _ => simp [loadS] at hv
 ·rename_i f' d hn hf hu
  cases h
  simp only [method, Sem.run_bind, qZa hi, Result.andThen_ok, hm, hp', follow, hf, receiverAt, qQx hu, Sem.run_pure]
  cases d <;> simp_all [Place.get]
 ·cases h
def callS (cx : Cx) (cf : CF) (ex : XF) (f : FuncId) (args : List SV) (s : St) : R :=
 match ex f args with
 | some v => ret s v
 | none => if hasBody cx f then cf f args s else .bad 30
def opC (cx : Cx) (cf : CF) (ex : XF) (tm : List SV) (s : St) (o : Oper) : R :=
 match o.op with
 | .call c => match c.callee with
  | .value f => match evO tm f with
   | .func (.func fid) first cap => callS cx cf ex fid (first ++ c.args.toList.map (evO tm) ++ cap) s
   | _ => .bad 31
  | .invoke x name => match evO tm x with
   | .iface t v => match methodS cx t v name s with
    | some (fid, rv) => callS cx cf ex fid (rv :: c.args.toList.map (evO tm)) s
    | none => .bad 32
   | _ => .bad 33
  | .builtin _ => opS cx tm s o
 | _ => opS cx tm s o
def Post (_cx : Cx) (ρ : Env) (β : Bt) (s s' : St) (w : World) (o : Oper) (r : SV) (V : Value) (w' : World) : Prop :=
 ∃ β', V = r.den ρ β' ∧ Sat ρ β' s' w' ∧ Ext s s' β β' w w' ∧ (chg o.op = false → β' = β)
section
variable {cx : Cx} {ρ : Env} {β : Bt} {s s' : St} {w : World} {tm : List SV} {a : Act} {o : Oper} {r : SV} {cf : CF} {ex : XF}
theorem More.good (h : More cx ρ β s s' w o a r) : OpGood cx.P o a w (Post cx ρ β s s' w o r) :=
 let ⟨β', _, h1, h2, h3, h4, _⟩ := h; h1.good ⟨β', rfl, h2, h3, h4⟩
theorem callS_ok (hcx : CxOk cx) (hcf : qKe cx cf) (hex : XOk cx ex) (hρ : EnvOk cx ρ) (hs : Sat ρ β s w) {f : FuncId} {args : List SV} (h : (callS cx cf ex f args s).sel ρ = some (r, s'))
  (hrun : (execOp a.eval o).run cx.P w = (callFunc f (SV.denL ρ β args).toArray).run cx.P w) (hch : chg o.op = true) : OpGood cx.P o a w (Post cx ρ β s s' w o r) := by
 unfold callS at h
 split at h
 ·rename_i v hv
  cases h
  have := hex ρ β w f args _ hρ hv
  exact (Res.good (.inl (hrun.trans this))) ⟨β, rfl, hs, Ext.refl _ _ _, fun h' => Bool.noConfusion (hch.symm.trans h')⟩
 ·split at h
  ·rename_i hb
   unfold hasBody at hb
   split at hb
   ·rename_i fn hfn
    intro K Q hk
    unfold Oper.wp
    rw [hrun]
    have hcall : (callFunc f (SV.denL ρ β args).toArray).run cx.P w = .ok (.enter f (SV.denL ρ β args).toArray) w := by
     have hfn := cx.fnOk _ _ hfn
     have hn := hcx.nogo f fn hfn
     obtain ⟨bd, hbd⟩ := Option.isSome_iff_exists.1 hb
     simp only [callFunc, Sem.run_bind, run_program, Result.andThen_ok, hfn, hn, hbd]
     simp
    rw [hcall, Oper.upon_enter]
    refine (hcf ρ β s s' w f args r hρ hs h).mono ?_
    rintro e w' ⟨β', rfl, h1, h2⟩
    exact hk _ _ ⟨β', rfl, h1, h2, fun h' => Bool.noConfusion (hch.symm.trans h')⟩
   ·cases hb
  ·cases h
theorem opC_ok (hcx : CxOk cx) (hcf : qKe cx cf) (hex : XOk cx ex) (hρ : EnvOk cx ρ) (ht : a.tmps = (SV.denL ρ β tm).toArray) (hs : Sat ρ β s w) (h : (opC cx cf ex tm s o).sel ρ = some (r, s')) :
  OpGood cx.P o a w (Post cx ρ β s s' w o r) := by
 unfold opC at h
 split at h
 ·rename_i c hc
  split at h
  ·rename_i f hf
   split at h
   ·rename_i fid first cap hv
    refine callS_ok hcx hcf hex hρ hs h ?_ (by rw [hc]; rfl)
    obtain ⟨callee, args, ats⟩ := c
    simp only at hf
    subst hf
    simp only [execOp, hc, resolve, qQb ht f, hv, SV.den, Deferred.ofValue, Sem.run_bind, Sem.run_pure, Result.andThen_ok, invoke, ops_map tm ht]
    congr 2
    apply Array.ext'
    simp
   ·cases h
  ·rename_i x name hf
   split at h
   ·rename_i t v hv
    split at h
    ·rename_i fid rv hm
     refine callS_ok hcx hcf hex hρ hs h ?_ (by rw [hc]; rfl)
     obtain ⟨callee, args, ats⟩ := c
     simp only at hf
     subst hf
     have hmm := methodS_ok hm hs (cx.P.types.size + Made.depth - 1)
     have hdep : 0 < Made.depth := by decide
     rw [show cx.P.types.size + Made.depth - 1 + 1 = cx.P.types.size + Made.depth from by omega] at hmm
     simp only [execOp, hc, resolve, qQb ht x, hv, SV.den, Sem.run_bind, Sem.run_pure, Result.andThen_ok, invoke, ops_map tm ht]
     simp only [callMethod, Array.getElem?_append, List.size_toArray, List.length_cons, List.length_nil]
     simp only [Nat.zero_add, Nat.zero_lt_one, if_true, List.getElem?_toArray, List.getElem?_cons_zero, Sem.run_bind, run_program, Result.andThen_ok, hmm]
     congr 2
     apply Array.ext'
     simp [SV.denL]
     rw [List.take_of_length_le (by simp)]
    ·cases h
   ·cases h
  ·exact (opS_ok hρ ht hs h).good
 ·exact (opS_ok hρ ht hs h).good
end
end Go.Eng
end

/-!  -/
noncomputable section
namespace Go.Eng
def putS (tm : List SV) (d : Option Tmp) (v : SV) : List SV :=
 match d with
 | some d => tm.set d v
 | none => tm
theorem qZj {ρ : Env} {β : Bt} {tm : List SV} {a : Act} (ht : a.tmps = (SV.denL ρ β tm).toArray) (d : Option Tmp) (v : SV) :
  (a.put d (v.den ρ β)).tmps = (SV.denL ρ β (putS tm d v)).toArray := by
 cases d with
 | none => exact ht
 | some d => simp [Act.put, putS, ht, denL_set]
theorem qQg (a : Act) (d : Option Tmp) (v : Value) : (a.put d v).defers = a.defers := by cases d <;> rfl
inductive Wd where
 | yes | no | on (e : E) (want : Bool) | unk
def wantS (ops : Array Oper) (tm : List SV) (o : Oper) : Wd :=
 match o.guard with
 | none => .yes
 | some (j, want) => match (ops[j]?).bind (·.dst) with
  | none => .no
  | some d => match tm[d]? with
   | none => .no
   | some (.bool e) => .on e want
   | some (.tup _) => .no
   | some (.int _ _) => .no
   | _ => .unk
theorem qXd {ρ : Env} {β : Bt} {ops : Array Oper} {tm : List SV} {o : Oper} {a : Act} (ht : a.tmps = (SV.denL ρ β tm).toArray) :
  match wantS ops tm o with
  | .yes => Region.wanted o (yielded ops a.tmps) = true
  | .no => Region.wanted o (yielded ops a.tmps) = false
  | .on e want => Region.wanted o (yielded ops a.tmps) = ((e.ev ρ != 0) == want)
  | .unk => True := by
 unfold wantS Region.wanted
 cases o.guard with
 | none => rfl
 | some g =>
  obtain ⟨j, want⟩ := g
  simp only [yielded, ht]
  cases hd : (ops[j]?).bind (·.dst) with
  | none => rfl
  | some d =>
   simp only [Option.bind_some, List.getElem?_toArray, qJa]
   cases htm : tm[d]? with
   | none => rfl
   | some v => cases v <;> simp [SV.den]
abbrev RR := T (List SV × St)
def runOps (cx : Cx) (cf : CF) (ex : XF) (ops : Array Oper) : List Oper → List SV → St → RR
 | [], tm, s => .leaf (tm, s)
 | o :: rest, tm, s =>
  let go (s : St) : RR := (opC cx cf ex tm s o).bind fun r =>
   if !chg o.op || SV.scL s.bl.length tm then SV.share cx r.1 r.2 fun v s2 => runOps cx cf ex ops rest (putS tm o.dst v) s2 else .bad 40
  let pass (s : St) : RR := runOps cx cf ex ops rest (putS tm o.dst qZq) s
  match wantS ops tm o with
  | .yes => go s
  | .no => pass s
  | .on e want => if want then fork s e go pass else fork s e pass go
  | .unk => .bad 41
def Beh (ρ : Env) (β : Bt) (s : St) (w : World) (ds : List Deferred) (tm' : List SV) (s' : St) (a' : Act) (w' : World) : Prop :=
 ∃ β', a'.tmps = (SV.denL ρ β' tm').toArray ∧ a'.defers = ds ∧ Sat ρ β' s' w' ∧ Ext s s' β β' w w'
theorem Beh.of {ρ : Env} {β β1 : Bt} {s s1 : St} {w w1 : World} {ds : List Deferred} {tm' : List SV} {s' : St} {a' : Act} {w' : World} (h : Ext s s1 β β1 w w1) (k : Beh ρ β1 s1 w1 ds tm' s' a' w') :
  Beh ρ β s w ds tm' s' a' w' :=
 let ⟨β', h1, h2, h3, h4⟩ := k; ⟨β', h1, h2, h3, h.trans h4⟩
section
variable {cx : Cx} {ρ : Env} {cf : CF} {ex : XF}
theorem runOps_ok (hcx : CxOk cx) (hcf : qKe cx cf) (hex : XOk cx ex) (hρ : EnvOk cx ρ) (ops : Array Oper) : ∀ (l : List Oper) {tm tm' : List SV} {s s' : St} {β : Bt} {w : World} {a : Act} {Q : Exit → Act → World → Prop},
  a.tmps = (SV.denL ρ β tm).toArray → Sat ρ β s w → (runOps cx cf ex ops l tm s).sel ρ = some (tm', s') →
  (∀ a' w', Beh ρ β s w a.defers tm' s' a' w' → Q .normal a' w') → wpList cx.P ops Q l a w
 | [], tm, tm', s, s', β, w, a, Q, ht, hs, h, hQ => by
  cases h
  exact hQ _ _ ⟨β, ht, rfl, hs, Ext.refl _ _ _⟩
 | o :: rest, tm, tm', s, s', β, w, a, Q, ht, hs, h, hQ => by
  have ih := fun {tm s β w a Q} => runOps_ok hcx hcf hex hρ ops rest (tm := tm) (tm' := tm') (s := s) (s' := s') (β := β) (w := w) (a := a) (Q := Q)
  have hw := qXd (ops := ops) (o := o) ht
  -- the operation is done
  have go : ∀ s1, s1.bl = s.bl → Sat ρ β s1 w → Region.wanted o (yielded ops a.tmps) = true →
    ((opC cx cf ex tm s1 o).bind fun r => if !chg o.op || SV.scL s1.bl.length tm then SV.share cx r.1 r.2 fun v s2 => runOps cx cf ex ops rest (putS tm o.dst v) s2 else .bad 40).sel ρ = some (tm', s') → wpList cx.P ops Q (o :: rest) a w := by
   intro s1 e1 hs1 hwant h
   obtain ⟨⟨r, s2⟩, h1, h2⟩ := T.sel_bind_some h
   simp only [wpList, hwant, if_true]
   refine .inl (opC_ok hcx hcf hex hρ ht hs1 h1 _ _ ?_)
   rintro V w' ⟨β', rfl, hs2, hx2, hch⟩
   split at h2
   ·rename_i hc
    have htm : (SV.denL ρ β tm) = SV.denL ρ β' tm := by
     simp only [Bool.or_eq_true, Bool.not_eq_true'] at hc
     rcases hc with hc | hc
     ·rw [hch hc]
     ·exact (SV.denL_sc hx2.ag tm hc).symm
    rw [htm] at ht
    obtain ⟨v1, s3, hv1, hbl, hs3, h3⟩ := SV.share_ok hρ r hs2 h2
    rw [← hv1 β']
    refine ih (qZj ht _ _) hs3 h3 fun a' w'' hb => hQ a' w'' ?_
    rw [qQg] at hb
    exact (((qQs e1 β w).trans hx2).trans (qQs hbl β' w') |> fun x => hb.of x)
   ·cases h2
  have pass : ∀ s1, s1.bl = s.bl → Sat ρ β s1 w → Region.wanted o (yielded ops a.tmps) = false →
    (runOps cx cf ex ops rest (putS tm o.dst qZq) s1).sel ρ = some (tm', s') → wpList cx.P ops Q (o :: rest) a w := by
   intro s1 e1 hs1 hwant h
   simp only [wpList, hwant, Bool.false_eq_true, if_false]
   refine ih (qZj ht o.dst qZq) hs1 h fun a' w'' hb => hQ a' w'' ?_
   rw [qQg] at hb
   exact hb.of (qQs e1 β w)
  simp only [runOps] at h
  cases hwd : wantS ops tm o with
  | yes => rw [hwd] at h hw; exact go s rfl hs hw h
  | no => rw [hwd] at h hw; exact pass s rfl hs hw h
  | unk => rw [hwd] at h; cases h
  | on e want =>
   rw [hwd] at h hw
   simp only at h hw
   cases want
   ·simp only [Bool.false_eq_true, if_false] at h
    obtain ⟨s1, e1, hs1, ⟨hne, h⟩ | ⟨h0, h⟩⟩ := qKk hs h
    ·exact pass s1 e1 hs1 (by rw [hw]; simpa using hne) h
    ·exact go s1 e1 hs1 (by rw [hw]; simpa using h0) h
   ·simp only [if_true] at h
    obtain ⟨s1, e1, hs1, ⟨hne, h⟩ | ⟨h0, h⟩⟩ := qKk hs h
    ·exact go s1 e1 hs1 (by rw [hw]; simpa using hne) h
    ·exact pass s1 e1 hs1 (by rw [hw]; simpa using h0) h
end
end Go.Eng
end

/-!  -/
noncomputable section
namespace Go.Eng
def Bs.av (n : Nat) : Bs → Bool
 | .own j => j != n
 | .inp _ => true
mutual
def SV.av (n : Nat) : SV → Bool
 | .sl b _ _ _ _ => b.av n
 | .ep b _ _ _ => b.av n
 | .cp j _ _ _ _ _ => j != n
 | .wild j => j != n
 | .yld j => j != n
 | .mp j => j != n
 | .ptr j _ => j != n
 | .slice j _ _ _ => j != n
 | .func _ a c => SV.avL n a && SV.avL n c
 | .iface _ x => x.av n
 | .agg l => SV.avL n l
 | .tup l => SV.avL n l
 | _ => true
def SV.avL (n : Nat) : List SV → Bool
 | [] => true
 | x :: l => x.av n && SV.avL n l
end
mutual
theorem SV.den_av {ρ : Env} {β β' : Bt} {n : Nat} (hb : ∀ j, j ≠ n → β' j = β j) : ∀ (s : SV), s.av n = true → s.den ρ β' = s.den ρ β
 | .int _ _, _ => rfl
 | .bool _, _ => rfl
 | .ptr j off, h => by simp [SV.av] at h; simp [SV.den, hb j h]
 | .lit _, _ => rfl
 | .any _, _ => rfl
 | .slice j off len cap, h => by simp [SV.av] at h; simp [SV.den, hb j h]
 | .func fn a c, h => by simp [SV.av] at h; simp [SV.den, SV.denL_av hb a h.1, SV.denL_av hb c h.2]
 | .iface t x, h => by simp [SV.av] at h; simp [SV.den, SV.den_av hb x h]
 | .agg l, h => by simp [SV.av] at h; simp [SV.den, SV.denL_av hb l h]
 | .tup l, h => by simp [SV.av] at h; simp [SV.den, SV.denL_av hb l h]
 | .str _, _ => rfl
 | .sl (.own j) _ _ _ _, h => by simp [SV.av, Bs.av] at h; simp [SV.den, hb j h]
 | .sl (.inp _) _ _ _ _, _ => by simp [SV.den]
 | .ep (.own j) _ _ _, h => by simp [SV.av, Bs.av] at h; simp [SV.den, hb j h]
 | .ep (.inp _) _ _ _, _ => by simp [SV.den]
 | .cp j _ _ _ _ _, h => by simp [SV.av] at h; simp [SV.den, hb j h]
 | .wild j, h => by simp [SV.av] at h; simp [SV.den, hb j h]
 | .yld j, h => by simp [SV.av] at h; simp [SV.den, hb j h]
 | .mp j, h => by simp [SV.av] at h; simp [SV.den, hb j h]
theorem SV.denL_av {ρ : Env} {β β' : Bt} {n : Nat} (hb : ∀ j, j ≠ n → β' j = β j) : ∀ (l : List SV), SV.avL n l = true → SV.denL ρ β' l = SV.denL ρ β l
 | [], _ => rfl
 | x :: l, h => by simp [SV.avL] at h; simp [SV.denL, SV.den_av hb x h.1, SV.denL_av hb l h.2]
end
def SBlk.av (n : Nat) : SBlk → Bool
 | .gone => true
 | .cells l _ _ => SV.avL n l
 | .arr _ _ _ _ => true
 | .rcd _ _ tm _ _ => SV.avL n tm
 | .map _ _ _ _ => true
theorem blkOk_av {ρ : Env} {β β' : Bt} {n : Nat} (hb : ∀ j, j ≠ n → β' j = β j) {b : SBlk} (hs : b.av n = true) {q : Nat} {o : Option Obj} (h : qZw ρ β q b o) : qZw ρ β' q b o := by
 cases b with
 | gone => trivial
 | cells l e op =>
  simp only [SBlk.av] at hs
  obtain ⟨tl, h1, h2, h3⟩ := h
  exact ⟨tl, by rw [SV.denL_av hb l hs]; exact h1, h2, fun sz hsz => by rw [SV.denL_av hb l hs]; exact h3 sz hsz⟩
 | arr cks e c n => exact h
 | rcd fn o tm st pend =>
  simp only [SBlk.av] at hs
  obtain ⟨r, d, g, h1, h2⟩ := h
  exact ⟨r, d, g, h1, by rw [SV.denL_av hb tm hs]; exact h2⟩
 | map kk vk q n => exact h
def St.isGone (s : St) (j : Nat) : Bool := match s.bl[j]? with
 | some .gone => true
 | _ => false
def reviveS (s : St) (j : Nat) (l : List SV) (e : TypeId) : Option St :=
 if s.isGone j && s.bl.all (·.av j) && SV.avL j l then some { s with bl := s.bl.set j (.cells l e none) } else none
def bset (β : Bt) (n m : Nat) : Bt := fun j => if j = n then (m, 0, .nilIface) else β j
theorem reviveS_ok {ρ : Env} {β β0 : Bt} {s s' s0 : St} {w w0 : World} {j : Nat} {l : List SV} {e : TypeId} (hs : Sat ρ β s w) (hx : Ext s0 s β0 β w0 w) (hj : s0.bl.length ≤ j)
  (h : reviveS s j l e = some s') :
  Sat ρ (bset β j w.heap.size) s' (w.alloc (.cells (SV.denL ρ β l).toArray e)) ∧ Ext s0 s' β0 (bset β j w.heap.size) w0 (w.alloc (.cells (SV.denL ρ β l).toArray e)) ∧
   (∀ i, i ≠ j → bset β j w.heap.size i = β i) ∧ s'.bl.length = s.bl.length ∧ s'.kn = s.kn := by
 unfold reviveS at h
 split at h <;> cases h
 rename_i hc
 simp only [Bool.and_eq_true] at hc
 obtain ⟨⟨hg, hav⟩, hl⟩ := hc
 have hag : ∀ i, i ≠ j → bset β j w.heap.size i = β i := fun i hi => by unfold bset; rw [if_neg hi]
 have hgj : s.bl[j]? = some .gone := by
  unfold St.isGone at hg
  split at hg
  ·assumption
  ·cases hg
 have hlt := (List.getElem?_eq_some_iff.1 hgj).1
 have hold : ∀ b, b < w.heap.size → (w.alloc (.cells (SV.denL ρ β l).toArray e)).heap[b]? = w.heap[b]? := by
  intro b hb
  show (w.heap.push _)[b]? = _
  rw [Array.getElem?_push, if_neg (by omega)]
 have hlive : ∀ i, live (bset β j w.heap.size) { s with bl := s.bl.set j (.cells l e none) } i → (live β s i ∧ i ≠ j) ∨ i = j := by
  rintro i ⟨b, hi, ho⟩
  by_cases hij : i = j
  ·exact .inr hij
  ·rw [List.getElem?_set_ne (Ne.symm hij)] at hi
   exact .inl ⟨⟨b, hi, by rw [← hag i hij]; exact ho⟩, hij⟩
 have hx' : Ext s0 { s with bl := s.bl.set j (.cells l e none) } β0 (bset β j w.heap.size) w0 (w.alloc (.cells (SV.denL ρ β l).toArray e)) := by
  refine ⟨fun i hi => (hag i (by omega)).trans (hx.ag i hi), fun i hi hl' => ?_, fun i hi hl' => ?_, by simp only [World.size_alloc]; have := hx.size; omega,
   fun b hb hn => (hold b (by have := hx.size; omega)).trans (hx.fr b hb hn), by simp [hx.len], hx.os, hx.tape, hx.output⟩
  ·rcases hlive i hl' with ⟨hl', _⟩ | rfl
   ·exact hx.old i hi hl'
   ·omega
  ·rcases hlive i hl' with ⟨hl', hij⟩ | rfl
   ·rw [hag i hij]; exact hx.fresh i hi hl'
   ·exact .inl (by simp [bset]; exact hx.size)
 have hx2 : Ext s { s with bl := s.bl.set j (.cells l e none) } β β w (w.alloc (.cells (SV.denL ρ β l).toArray e)) → True := fun _ => trivial
 refine ⟨⟨?_, ?_, hs.kn, ?_⟩, hx', hag, by simp, rfl⟩
 ·intro i b hi
  by_cases hij : i = j
  ·subst hij
   simp [hlt] at hi
   subst hi
   refine ⟨[], ?_, fun _ => rfl, fun _ h => by cases h⟩
   rw [SV.denL_av hag l hl]
   show (w.heap.push _)[(bset β i w.heap.size i).1]? = _
   simp [bset]
  ·rw [List.getElem?_set_ne (Ne.symm hij)] at hi
   rw [hag i hij]
   have hb := blkOk_av hag (List.all_eq_true.1 hav b (List.mem_of_getElem? hi)) (hs.blk i b hi)
   exact qZd (fun ho => hold _ (hs.lt ⟨b, hi, ho⟩)) hb
 ·intro a b ha hb he
  rcases hlive a ha with ⟨ha1, ha'⟩ | ha1 <;> rcases hlive b hb with ⟨hb1, hb'⟩ | hb1
  ·rw [hag a ha', hag b hb'] at he; exact hs.inj a b ha1 hb1 he
  ·rw [hag a ha', hb1] at he
   have := hs.lt ha1
   simp [bset] at he
   omega
  ·rw [hag b hb', ha1] at he
   have := hs.lt hb1
   simp [bset] at he
   omega
  ·rw [ha1, hb1]
 ·intro k a i x ha hi
  obtain ⟨h1, h2⟩ := hs.ro k a i x ha hi
  have hlt2 := hs.roLt ha hi
  refine ⟨?_, fun i' hi' => ?_⟩
  ·rw [← h1]
   exact roc_same (hold _ hlt2)
  ·rcases hlive i' hi' with ⟨hl', hij⟩ | rfl
   ·rw [hag i' hij]; exact h2 i' hl'
   ·simp [bset]; omega
def SBlk.beq : SBlk → SBlk → Bool
 | .gone, .gone => true
 | .cells l e o, .cells l' e' o' => SV.beqL l l' && e == e' && decide (o = o')
 | .arr k e q n, .arr k' e' q' n' => decide (k = k') && e == e' && q.beq q' && n.beq n'
 | .rcd f o tm st p, .rcd f' o' tm' st' p' => f == f' && o == o' && SV.beqL tm tm' && stBeq st st' && decide (p = p')
 | .map k e q n, .map k' e' q' n' => decide (k = k') && decide (e = e') && q.beq q' && n.beq n'
 | _, _ => false
theorem SBlk.eq_of_beq {a b : SBlk} (h : a.beq b = true) : a = b := by
 cases a <;> cases b <;> simp only [SBlk.beq, Bool.and_eq_true, decide_eq_true_eq, beq_iff_eq] at h <;> first | rfl | (cases h; done) | skip
 ·rw [SV.eqL_of_beq _ _ h.1.1, h.1.2, h.2]
 ·rw [h.1.1.1, h.1.1.2, E.eq_of_beq h.1.2, E.eq_of_beq h.2]
 ·rw [h.1.1.1.1, h.1.1.1.2, SV.eqL_of_beq _ _ h.1.1.2, stBeq_eq h.1.2, h.2]
 ·rw [h.1.1.1, h.1.1.2, E.eq_of_beq h.1.2, E.eq_of_beq h.2]
def qXx : List SBlk → List SBlk → Bool
 | [], _ => true
 | .gone :: l, _ :: m => qXx l m
 | b :: l, c :: m => b.beq c && qXx l m
 | _ :: _, [] => false
theorem stays_ok : ∀ {l m : List SBlk}, qXx l m = true → ∀ (j : Nat) (b : SBlk), l[j]? = some b → b = SBlk.gone ∨ m[j]? = some b
 | [], m, _, j, b, hj => by simp at hj
 | .gone :: l, c :: m, h, 0, b, hj => by simp at hj; exact .inl hj.symm
 | .gone :: l, c :: m, h, j + 1, b, hj => by
  simp only [qXx] at h
  simpa using stays_ok h j b (by simpa using hj)
 | .cells a e o :: l, c :: m, h, 0, b, hj => by
  simp only [qXx, Bool.and_eq_true] at h
  simp at hj
  right
  rw [← hj, SBlk.eq_of_beq h.1]; simp
 | .cells a e o :: l, c :: m, h, j + 1, b, hj => by
  simp only [qXx, Bool.and_eq_true] at h
  simpa using stays_ok h.2 j b (by simpa using hj)
 | .arr a e q n :: l, c :: m, h, 0, b, hj => by
  simp only [qXx, Bool.and_eq_true] at h
  simp at hj
  right
  rw [← hj, SBlk.eq_of_beq h.1]; simp
 | .arr a e q n :: l, c :: m, h, j + 1, b, hj => by
  simp only [qXx, Bool.and_eq_true] at h
  simpa using stays_ok h.2 j b (by simpa using hj)
 | .rcd f o tm st p :: l, c :: m, h, 0, b, hj => by
  simp only [qXx, Bool.and_eq_true] at h
  simp at hj
  right
  rw [← hj, SBlk.eq_of_beq h.1]; simp
 | .rcd f o tm st p :: l, c :: m, h, j + 1, b, hj => by
  simp only [qXx, Bool.and_eq_true] at h
  simpa using stays_ok h.2 j b (by simpa using hj)
 | .map a e q n :: l, c :: m, h, 0, b, hj => by
  simp only [qXx, Bool.and_eq_true] at h
  simp at hj
  right
  rw [← hj, SBlk.eq_of_beq h.1]; simp
 | .map a e q n :: l, c :: m, h, j + 1, b, hj => by
  simp only [qXx, Bool.and_eq_true] at h
  simpa using stays_ok h.2 j b (by simpa using hj)
 | .rcd _ _ _ _ _ :: l, [], h, _, _, _ => by simp [qXx] at h
 | .map _ _ _ _ :: l, [], h, _, _, _ => by simp [qXx] at h
 | .gone :: l, [], h, _, _, _ => by simp [qXx] at h
 | .cells _ _ _ :: l, [], h, _, _, _ => by simp [qXx] at h
 | .arr _ _ _ _ :: l, [], h, _, _, _ => by simp [qXx] at h
theorem Sat.mask {ρ : Env} {β : Bt} {s s1 : St} {w : World} (h : Sat ρ β s w) (hb : ∀ (j : Nat) (b : SBlk), s1.bl[j]? = some b → b = SBlk.gone ∨ s.bl[j]? = some b) (hk : ∀ e b, (e, b) ∈ s1.kn → (e.ev ρ != 0) = b) : Sat ρ β s1 w := by
 have hl : ∀ j, live β s1 j → live β s j := by
  rintro j ⟨b, hj, ho⟩
  rcases hb j _ hj with rfl | h
  ·cases ho
  ·exact ⟨b, h, ho⟩
 exact ⟨fun j b hj => by
  rcases hb j b hj with rfl | hj
  ·trivial
  ·exact h.blk j b hj, fun a b ha hb he => h.inj a b (hl a ha) (hl b hb) he, hk, h.ro.less hl⟩
theorem Sat.rename {ρ : Env} {β β' : Bt} {s : St} {w : World} (h : Sat ρ β s w) {n : Nat} (hn : s.bl.length ≤ n) (hag : ∀ j, j < n → β' j = β j) (hsc : s.sc n = true) : Sat ρ β' s w :=
 ⟨fun j b hj => by
  have := (List.getElem?_eq_some_iff.1 hj).1
  rw [hag j (by omega)]
  exact blkOk_sc hag (List.all_eq_true.1 hsc b (List.mem_of_getElem? hj)) (h.blk j b hj),
  fun a b ha hb he => by
   have h1 := qQt ha
   have h2 := qQt hb
   have e1 := hag a (by omega)
   have e2 := hag b (by omega)
   rw [e1, e2] at he
   exact h.inj a b (qXz e1 ha) (qXz e2 hb) he, h.kn, fun k a i x ha hi => by
   obtain ⟨h1, h2⟩ := h.ro k a i x ha hi
   refine ⟨h1, fun j hj => ?_⟩
   have h3 := qQt hj
   have e1 := hag j (by omega)
   rw [e1]
   exact h2 j (qXz e1 hj)⟩
inductive X where
 | ok (tm : List SV) (s : St)
 | need (e : E)
 | bad (n : Nat)
def blBeq : List SBlk → List SBlk → Bool
 | [], [] => true
 | a :: l, b :: m => a.beq b && blBeq l m
 | _, _ => false
theorem bl_of_beq : ∀ {l m : List SBlk}, blBeq l m = true → l = m
 | [], [], _ => rfl
 | a :: l, b :: m, h => by
  simp only [blBeq, Bool.and_eq_true] at h
  rw [SBlk.eq_of_beq h.1, bl_of_beq h.2]
 | [], _ :: _, h => by cases h
 | _ :: _, [], h => by cases h
structure D where
 cx : Cx
 cf : CF
 ex : XF
 ops : Array Oper
 s0 : St        -- what qXx, of the beginning
 n0 : Nat
def isAlloc : Op → Bool
 | .alloc _ | .box _ _ | .buildSlice _ _ _ => true
 | _ => false
def qQm (ops : Array Oper) (i : Nat) : Nat := ((ops.toList.take i).filter fun o => isAlloc o.op).length
inductive Gd where
 | yes | no | need (e : E) | unk
def gdS (ops : Array Oper) (tm : List SV) (s : St) (o : Oper) : Gd :=
 match wantS ops tm o with
 | .yes => .yes
 | .no => .no
 | .unk => .unk
 | .on e want => match e with
  | .c n => if (n != 0) == want then .yes else .no
  | e => match knows s e with
   | some b => if b == want then .yes else .no
   | none => .need e
def D.step (d : D) (i : Nat) (tm : List SV) (s : St) : X :=
 match d.ops[i]? with
 | none => .bad 51
 | some o =>
  match gdS d.ops tm s o with
  | .unk => .bad 52
  | .need e => .need e
  | .no => .ok (putS tm o.dst qZq) s
  | .yes =>
   let j := d.n0 + qQm d.ops i
   let mk (el : TypeId) (l : List SV) : X := match reviveS s j l el with
    | some s1 => if SV.avL j tm && qXx d.s0.bl s1.bl then .ok (putS tm o.dst (.ptr j 0)) s1 else .bad 53
    | none => .bad 54
   match o.op with
   | .alloc el => match zeroS d.cx el with
    | some z => match z.cells with
     | some l => mk el l
     | none => .bad 55
    | none => .bad 55
   | .box el x => match (evO tm x).cells with
    | some l => mk el l
    | none => .bad 56
   | .buildSlice t len parts => match rowC d.cx t len (parts.toList.map fun p => (p.1, evO tm p.2)) with
    | some (el, l) => match reviveS s j l el with
     | some s1 => if SV.avL j tm && qXx d.s0.bl s1.bl then .ok (putS tm o.dst (.slice j 0 len (some len))) s1 else .bad 53
     | none => .bad 54
    | none => .bad 59
   | _ => match opC d.cx d.cf d.ex tm s o with
    | .leaf r => if (!chg o.op || SV.scL s.bl.length tm) && qXx d.s0.bl r.2.bl then .ok (putS tm o.dst (r.1.ren d.cx d.s0.kn)) r.2 else .bad 57
    | .new _ _ _ => .bad 64
    | .br e _ _ => .need e
    | .bad n => .bad n
def D.take (d : D) (listed : Array Bool) (i : Nat) (tm : List SV) : Option SV :=
 match d.ops[i]? with
 | none => none
 | some o =>
  match gdS d.ops tm d.s0 o with
  | .no => if Region.free .any d.ops listed i then some qZq else none
  | .yes => if valOp o.op then
    match opS d.cx tm d.s0 o with
    | .leaf r => if Region.free .any d.ops listed i then some (r.1.ren d.cx d.s0.kn) else none
    | _ => none
   else none
  | _ => none
def dstOf (ops : Array Oper) (i : Nat) : Option Tmp := (ops[i]?).bind (·.dst)
structure Cur (d : D) (ρ : Env) (β0 : Bt) (s00 : St) (w0 : World) (ds : List Deferred) (tm : List SV) (s : St) (a : Act) (w : World) : Prop where
 ex : ∃ β, a.tmps = (SV.denL ρ β tm).toArray ∧ Sat ρ β s w ∧ Ext s00 s β0 β w0 w
 ds : a.defers = ds
 st : Sat ρ β0 d.s0 w
structure DOk (d : D) (ρ : Env) (β0 : Bt) (s00 : St) : Prop where
 hcx : CxOk d.cx
 hcf : qKe d.cx d.cf
 hex : XOk d.cx d.ex
 hρ : EnvOk d.cx ρ
 len : s00.bl.length = d.n0
 sc : d.s0.sc d.n0 = true
 le : d.s0.bl.length ≤ d.n0
 kn : ∀ e b, (e, b) ∈ d.s0.kn → (e.ev ρ != 0) = b
 inj : ∀ i j, live β0 d.s0 i → live β0 d.s0 j → (β0 i).1 = (β0 j).1 → i = j
section
variable {d : D} {ρ : Env} {β0 : Bt} {s00 : St} {w0 : World} {ds : List Deferred}
theorem gdS_ok {ops : Array Oper} {tm : List SV} {s : St} {o : Oper} {a : Act} {β : Bt} {w : World} (ht : a.tmps = (SV.denL ρ β tm).toArray) (hs : Sat ρ β s w) :
  (gdS ops tm s o = .yes → Region.wanted o (yielded ops a.tmps) = true) ∧ (gdS ops tm s o = .no → Region.wanted o (yielded ops a.tmps) = false) := by
 have hw := qXd (ops := ops) (o := o) ht
 unfold gdS
 cases hwd : wantS ops tm o with
 | yes => rw [hwd] at hw; exact ⟨fun _ => hw, fun h => (by cases h)⟩
 | no => rw [hwd] at hw; exact ⟨fun h => (by cases h), fun _ => hw⟩
 | unk => exact ⟨fun h => (by cases h), fun h => (by cases h)⟩
 | on e want =>
  rw [hwd] at hw
  simp only at hw ⊢
  split
  ·rename_i n
   split
   ·rename_i h; exact ⟨fun _ => by rw [hw]; exact h, fun h => (by cases h)⟩
   ·rename_i h; exact ⟨fun h => (by cases h), fun _ => by rw [hw]; simpa [E.ev] using h⟩
  ·split
   ·rename_i b hb
    have hk := knows_ok hs hb
    split
    ·rename_i h; exact ⟨fun _ => by rw [hw, hk]; exact h, fun h => (by cases h)⟩
    ·rename_i h; exact ⟨fun h => (by cases h), fun _ => by rw [hw, hk]; simpa using h⟩
   ·exact ⟨fun h => (by cases h), fun h => (by cases h)⟩
theorem qKm (hd : DOk d ρ β0 s00) {β : Bt} {s : St} {w : World} (hs : Sat ρ β s w) (hst : qXx d.s0.bl s.bl = true) (hx : ∀ j, j < d.n0 → β j = β0 j) : Sat ρ β0 d.s0 w := by
 have h1 := hs.mask (s1 := d.s0) (stays_ok hst) hd.kn
 exact h1.rename hd.le (fun j hj => (hx j hj).symm) hd.sc
theorem step_ok (hd : DOk d ρ β0 s00) {i : Nat} {tm tm1 : List SV} {s s1 : St} {a : Act} {w : World} (hc : Cur d ρ β0 s00 w0 ds tm s a w) (h : d.step i tm s = .ok tm1 s1)
  {K : Act → World → Prop} {Q : Exit → Act → World → Prop} (hK : ∀ a' w', Cur d ρ β0 s00 w0 ds tm1 s1 a' w' → K a' w') : wpOp d.cx.P d.ops Q i K a w := by
 obtain ⟨⟨β, ht, hs, hx⟩, hds, hst⟩ := hc
 unfold D.step at h
 split at h
 ·cases h
 ·rename_i o ho
  unfold wpOp
  simp only [ho]
  obtain ⟨gy, gn⟩ := gdS_ok (ops := d.ops) (o := o) ht hs
  split at h
  ·cases h
  ·cases h
  ·rename_i hg
   cases h
   rw [gn hg]
   simp only [Bool.false_eq_true, if_false]
   exact hK _ _ ⟨⟨β, qZj ht o.dst qZq, hs, hx⟩, by rw [qQg]; exact hds, hst⟩
  ·rename_i hg
   rw [gy hg]
   simp only [if_true]
   left
   simp only at h
   -- a box
   have mk : ∀ (el : TypeId) (l : List SV), (match reviveS s (d.n0 + qQm d.ops i) l el with
     | some s1 => if SV.avL (d.n0 + qQm d.ops i) tm && qXx d.s0.bl s1.bl then X.ok (putS tm o.dst (.ptr (d.n0 + qQm d.ops i) 0)) s1 else .bad 53
     | none => .bad 54) = .ok tm1 s1 →
     (execOp a.eval o).run d.cx.P w = .ok (.value (.pointer (some ⟨w.heap.size, 0, none⟩))) (w.alloc (.cells (SV.denL ρ β l).toArray el)) → o.wp d.cx.P a w K Q := by
    intro el l h hrun
    split at h
    ·rename_i s2 h2
     split at h <;> cases h
     rename_i hh
     simp only [Bool.and_eq_true] at hh
     obtain ⟨r1, r2, r3, _, _⟩ := reviveS_ok hs hx (by have := hd.len; omega) h2
     refine Res.wp (.inl hrun) (hK _ _ ⟨⟨_, ?_, r1, r2⟩, by rw [qQg]; exact hds, ?_⟩)
     ·have hp : Value.pointer (some ⟨w.heap.size, 0, none⟩) = (SV.ptr (d.n0 + qQm d.ops i) 0).den ρ (bset β (d.n0 + qQm d.ops i) w.heap.size) := by simp [SV.den, bset]
      rw [hp]
      refine qZj (ρ := ρ) ?_ _ _
      rw [ht, SV.denL_av r3 tm hh.1]
     ·exact qKm hd r1 hh.2 (fun j hj => r2.ag j (by rw [hd.len]; exact hj))
    ·cases h
   split at h
   ·rename_i el hop
    split at h
    ·rename_i z hz
     split at h
     ·rename_i l hl
      refine mk el l h ?_
      simp only [execOp, hop]
      refine qJq ?_
      simp only [Instr.alloc, Sem.run_bind, zeroS_ok (ρ := ρ) (β := β) (w := w) hz, Result.andThen_ok]
      simp [newVar, newRow, (SV.cells_den hd.hρ β hl).1]
     ·cases h
    ·cases h
   ·rename_i el x hop
    split at h
    ·rename_i l hl
     refine mk el l h ?_
     simp only [execOp, hop]
     refine qJq ?_
     simp only [qQb ht, Instr.box, Sem.run_bind]
     simp [newVar, newRow, (SV.cells_den hd.hρ β hl).1]
    ·cases h
   ·rename_i bt len parts hop
    split at h
    ·rename_i el l hl
     split at h
     ·rename_i s2 h2
      split at h <;> cases h
      rename_i hh
      simp only [Bool.and_eq_true] at hh
      obtain ⟨r1, r2, r3, _, _⟩ := reviveS_ok hs hx (by have := hd.len; omega) h2
      have hrun : (execOp a.eval o).run d.cx.P w = .ok (.value (.slice (some ⟨w.heap.size, 0, none⟩) len len)) (w.alloc (.cells (SV.denL ρ β l).toArray el)) := by
       simp only [execOp, hop]
       refine qJq ?_
       rw [parts_map tm ht]
       exact rowC_ok hd.hρ hl
      refine Res.wp (.inl hrun) (hK _ _ ⟨⟨_, ?_, r1, r2⟩, by rw [qQg]; exact hds, ?_⟩)
      ·have hp : Value.slice (some ⟨w.heap.size, 0, none⟩) len len = (SV.slice (d.n0 + qQm d.ops i) 0 len (some len)).den ρ (bset β (d.n0 + qQm d.ops i) w.heap.size) := by simp [SV.den, bset]
       rw [hp]
       refine qZj (ρ := ρ) ?_ _ _
       rw [ht, SV.denL_av r3 tm hh.1]
      ·exact qKm hd r1 hh.2 (fun j hj => r2.ag j (by rw [hd.len]; exact hj))
     ·cases h
    ·cases h
   ·split at h
    ·rename_i r hr
     split at h <;> cases h
     rename_i hh
     simp only [Bool.and_eq_true] at hh
     obtain ⟨hch, hstay⟩ := hh
     refine opC_ok hd.hcx hd.hcf hd.hex hd.hρ ht hs (r := r.1) (s' := r.2) (by rw [hr]; rfl) _ _ ?_
     rintro V w' ⟨β', rfl, hs2, hx2, hc2⟩
     have htm : (SV.denL ρ β tm) = SV.denL ρ β' tm := by
      simp only [Bool.or_eq_true, Bool.not_eq_true'] at hch
      rcases hch with hch | hch
      ·rw [hc2 hch]
      ·exact (SV.denL_sc hx2.ag tm hch).symm
     rw [htm] at ht
     have hx3 := hx.trans hx2
     refine hK _ _ ⟨⟨β', ?_, hs2, hx3⟩, by rw [qQg]; exact hds, qKm hd hs2 hstay (fun j hj => hx3.ag j (by rw [hd.len]; exact hj))⟩
     rw [← SV.ren_den (cx := d.cx) hd.kn r.1]
     exact qZj ht _ _
    ·cases h
    ·cases h
    ·cases h
theorem take_ok (hd : DOk d ρ β0 s00) {listed : Array Bool} {i : Nat} {tm : List SV} {s : St} {v : SV} {a : Act} {w : World} {β : Bt} (ht : a.tmps = (SV.denL ρ β tm).toArray) (hx : Ext s00 s β0 β w0 w) (hst : Sat ρ β0 d.s0 w)
  (h : d.take listed i tm = some v) : ∃ o, d.ops[i]? = some o ∧ Region.free .any d.ops listed i = true ∧ YieldsIf d.cx.P d.ops (Sat ρ β0 d.s0) o (v.den ρ β) a := by
 unfold D.take at h
 split at h
 ·cases h
 ·rename_i o ho
  have hren : ∀ w', Sat ρ β0 d.s0 w' → Sat ρ β d.s0 w' := fun w' h' => h'.rename hd.le (fun j hj => hx.ag j (by rw [hd.len]; exact hj)) hd.sc
  obtain ⟨gy, gn⟩ := gdS_ok (ops := d.ops) (o := o) ht (hren w hst)
  split at h
  ·rename_i hg
   split at h <;> cases h
   exact ⟨o, ho, by assumption, .inr ⟨gn hg, rfl⟩⟩
  ·rename_i hg
   split at h
   ·rename_i hv
    split at h
    ·rename_i r hr
     split at h <;> cases h
     refine ⟨o, ho, by assumption, .inl ⟨gy hg, fun w' hw' => ?_⟩⟩
     obtain ⟨_, _, _, _, _, _, hrun⟩ := opS_ok (s := d.s0) (s' := r.2) (r := r.1) hd.hρ ht (hren w' hw') (by rw [hr]; rfl)
     rw [SV.ren_den (cx := d.cx) hd.kn r.1]
     exact hrun hv
    ·cases h
   ·cases h
  ·cases h
theorem Cur.kn {tm : List SV} {s s2 : St} {a : Act} {w : World} (hd : DOk d ρ β0 s00) (h : Cur d ρ β0 s00 w0 ds tm s a w) (e : s2.bl = s.bl) (hk : s2.kn = d.s0.kn) : Cur d ρ β0 s00 w0 ds tm s2 a w := by
 obtain ⟨⟨β, h1, h2, h3⟩, h4, h5⟩ := h
 exact ⟨⟨β, h1, h2.mask (fun j b hj => .inr (by rw [← e]; exact hj)) (by rw [hk]; exact hd.kn), h3.trans (qQs e β w)⟩, h4, h5⟩
end
end Go.Eng
end

/-!  -/
noncomputable section
set_option linter.unusedSectionVars false
namespace Go.Eng
def fen (r : Option Nat) : Fence := { Fence.wide with round := r }
theorem calls_fen {r : Option Nat} {n : Nat} {P : Program} {f : FuncId} {args : Array Value} {w : World} {R : Ending → World → Prop} (h : Calls P f args w R) : CallsIn (fen r) n P f args w R :=
 (callsIn_wide (n := n)).2 h
theorem fen_calls {r : Option Nat} {n : Nat} {P : Program} {f : FuncId} {args : Array Value} {w : World} {R : Ending → World → Prop} (h : CallsIn (fen r) n P f args w R) : Calls P f args w R :=
 (callsIn_wide (n := n)).1 h
theorem rows_fen {r : Option Nat} {n : Nat} {P : Program} {row : String} {args : Array Value} {w : World} {R : Value → World → Prop} (h : Rows P row args w R) : RowsIn (fen r) n P row args w R :=
 fun c cs _ => let ⟨v, w', hr, s⟩ := h c cs; ⟨v, w', hr, (stepsIn_wide).2 s⟩
def qKx (o : Oper) : Bool := match o.op with
 | .defer _ => true
 | _ => false
theorem not_defer {o : Oper} (h : qKx o = false) : ∀ c, o.op ≠ .defer c := fun c hc => by unfold qKx at h; rw [hc] at h; cases h
def noDefer (ops : Array Oper) : Bool := ops.toList.all fun o => !qKx o
theorem noDefer_get {ops : Array Oper} (h : noDefer ops = true) {i : Nat} {o : Oper} (ho : ops[i]? = some o) : qKx o = false := by
 have := List.all_eq_true.1 h o (List.mem_of_getElem? (by rw [Array.getElem?_toList]; exact ho))
 simpa using this
section
variable {r : Option Nat} {n : Nat} {P : Program} {a : Act} {w : World} {K : Act → World → Prop} {Q : Exit → Act → World → Prop}
theorem opIn_of_wp {o : Oper} (hd : ∀ c, o.op ≠ .defer c) (h : o.wp P a w K Q) : o.wpIn (fen r) n P a w K Q := by
 refine ⟨fun _ _ => trivial, ?_⟩
 rw [Oper.semAt_eq _ _ _ hd]
 unfold Oper.wp at h
 generalize (execOp a.eval o).run P w = x at h ⊢
 cases x with
 | ok v w' =>
  cases v <;> simp only [Oper.upon] at h <;> simp only [Oper.uponIn] <;>
   first
    | exact h
    | exact h.elim
    | exact ⟨(fun h => by cases h), calls_fen h⟩
    | exact ⟨(fun h => by cases h), rows_fen h⟩
 | halt v w' => cases v <;> simp only [Oper.upon] at h <;> simp only [Oper.uponIn] <;> first | exact h | exact h.elim
theorem anyIn_of_held {md : Region.Mode} {ops : Array Oper} {S : World → Prop} (hd : noDefer ops = true) (hQ : ¬ LetsOut Q) : ∀ (fuel : Nat) {li : Array Bool} {a : Act} {w : World},
  wpAnyH P md ops Q S fuel li a w → wpAnyIn (fen r) n P md ops Q fuel li a w
 | 0, _, _, _, h => h
 | fuel + 1, li, a, w, h => ⟨h.1, fun i hi => by
  have h2 := h.2 i hi
  refine wpOpIn_mono (K := fun a' w' => S w' ∧ wpAnyH P md ops Q S fuel (li.setIfInBounds i true) a' w') (fun a' w' h' => anyIn_of_held hd hQ fuel h'.2) ?_
  unfold wpOp at h2
  unfold wpOpIn
  split
  ·rename_i ho; simp only [ho] at h2; exact h2
  ·rename_i o ho
   simp only [ho] at h2
   split
   ·rename_i hw
    simp only [hw, if_true] at h2
    rcases h2 with h2 | h2
    ·exact opIn_of_wp (not_defer (noDefer_get hd ho)) h2
    ·exact absurd h2.2 hQ
   ·rename_i hw
    simp only [hw] at h2
    exact ⟨fun _ _ => trivial, h2⟩⟩
theorem wpIn_held {id : Nat} {ops : Array Oper} {S : World → Prop} (hm : P.follows .mixedOrders = true) (hd : noDefer ops = true) (hQ : ¬ LetsOut Q)
  (h : wpAnyH P .any ops Q S ops.size (Array.replicate ops.size false) a { w with drawn := w.drawn + 1 }) : (Code.region id ops true).wpIn (fen r) n P Q a w :=
 wpIn_region_any hm (anyIn_of_held hd hQ _ h)
end
end Go.Eng
end
