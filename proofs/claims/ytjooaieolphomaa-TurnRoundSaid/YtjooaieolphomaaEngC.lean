/-
  A symbolic executor, part C: single operations that make no memory, and that they do what the model does.
-/
import Derived.Test.YtjooaieolphomaaEngB
import Derived.Laws.Cells
import Derived.Laws.Build
import Derived.ChangeKeysEq
set_option linter.unusedVariables false
set_option linter.unusedSimpArgs false
namespace Go.Eng

/-- the operation's run: its value and the world behind it -/
def Res (P : Program) (o : Oper) (a : Act) (w : World) (V : Value) (w' : World) : Prop :=
  (execOp a.eval o).run P w = .ok (.value V) w' ∨ ((execOp a.eval o).run P w = .ok .skip w' ∧ V = undef)

theorem Res.wp {P : Program} {o : Oper} {a : Act} {w w' : World} {V : Value} (h : Res P o a w V w') {K : Act → World → Prop} {Q : Exit → Act → World → Prop}
    (hk : K (a.put o.dst V) w') : o.wp P a w K Q := by
  unfold Oper.wp
  rcases h with h | ⟨h, rfl⟩ <;> rw [h] <;> exact hk

def evO (tm : List SV) : Operand → SV
  | .tmp t => tm.getD t undefS
  | .const v => toS v
  | .global g => .lit (.pointer (some ⟨g, 0, none⟩))
  | .func f => .func (.func f) [] []

theorem evO_den {ρ : Env} {β : Nat → Nat × Nat} {tm : List SV} {a : Act} (h : a.tmps = (SV.denL ρ β tm).toArray) (x : Operand) : a.eval x = (evO tm x).den ρ β := by
  cases x with
  | tmp t => simp only [Act.eval, h, denL_getD, evO]
  | const v => simp only [Act.eval, evO, toS_den]
  | global g => rfl
  | func f => rfl

abbrev R := T (SV × St)
def ret (s : St) (v : SV) : R := .leaf (v, s)

/-! ### types -/

def isAggT (cx : Cx) (t : TypeId) : Option Bool :=
  match cx.und t with
  | some (.struct _) => some true
  | some (.array _ _) => some true
  | some _ => some false
  | none => none
def szT (cx : Cx) (t : TypeId) : Option Nat := match cx.inf t with
  | some i => some i.size
  | none => none

section
variable {cx : Cx} {w : World} {t : TypeId}
theorem run_und {d : TypeDesc} (h : cx.und t = some d) : (underlying t).run cx.P w = .ok d w := run_underlying (cx.undOk _ _ h) w
theorem run_typeInfo_of {i : TypeInfo} (h : cx.inf t = some i) : (typeInfo t).run cx.P w = .ok i w := by
  simp [typeInfo, cx.infOk _ _ h]
theorem szT_info {n : Nat} (h : szT cx t = some n) : ∃ i, cx.inf t = some i ∧ i.size = n := by
  unfold szT at h
  split at h <;> cases h
  rename_i i hi
  exact ⟨i, hi, rfl⟩
theorem run_sizeOf_of {n : Nat} (h : szT cx t = some n) : (sizeOf t).run cx.P w = .ok n w := by
  obtain ⟨i, hi, rfl⟩ := szT_info h
  simp [sizeOf, run_typeInfo_of hi]
theorem run_isAgg_of {b : Bool} (h : isAggT cx t = some b) : (isAgg t).run cx.P w = .ok b w := by
  unfold isAggT at h
  unfold isAgg
  split at h <;> simp at h <;> subst h <;> rename_i hu <;> simp [run_und hu]
end

/-! ### arithmetic -/

def lo0 (p : Iv) : Bool := match p with | some p => decide (0 ≤ p.1) | none => false
def non0 (p : Iv) : Bool := match p with | some p => decide (1 ≤ p.1) || decide (p.2 ≤ -1) | none => false
theorem lo0_ok {p : Iv} {x : Int} (h : lo0 p = true) (hx : inIv x p) : 0 ≤ x := by
  cases p <;> simp [lo0, inIv] at *; omega
theorem non0_ok {p : Iv} {x : Int} (h : non0 p = true) (hx : inIv x p) : x ≠ 0 := by
  cases p <;> simp [non0, inIv] at *; omega

def arOp : BinOp → Option BO
  | .add => some .add | .sub => some .sub | .mul => some .mul
  | .and => some .and | .or => some .or | .xor => some .xor | .andNot => some .andNot
  | _ => none
def cmOp (op : BinOp) (x y : E) : Option (BO × E × E) :=
  match op with
  | .eql => some (.eq, x, y) | .neq => some (.ne, x, y) | .lss => some (.lt, x, y) | .leq => some (.le, x, y) | .gtr => some (.lt, y, x) | .geq => some (.le, y, x)
  | _ => none

def knows (s : St) (e : E) : Option Bool := (s.kn.find? fun p => p.1.beq e).map (·.2)
theorem knows_ok {ρ : Env} {β : Nat → Nat × Nat} {s : St} {w : World} (h : Sat ρ β s w) {e : E} {b : Bool} (hk : knows s e = some b) : (e.ev ρ != 0) = b := by
  unfold knows at hk
  obtain ⟨p, hp, rfl⟩ := Option.map_eq_some_iff.1 hk
  have h1 := List.mem_of_find?_eq_some hp
  have h2 := List.find?_some hp
  have := E.eq_of_beq h2
  subst this
  exact h.kn _ _ h1

/-- a condition under which two things may go on: what is known decides it, or the tree parts -/
def fork {α : Type} (s : St) (e : E) (t f : St → T α) : T α :=
  match e with
  | .c n => if n ≠ 0 then t s else f s
  | e =>
    match knows s e with
    | some true => t s
    | some false => f s
    | none => .br e (t { s with kn := (e, true) :: s.kn }) (f { s with kn := (e, false) :: s.kn })

theorem fork_ok {ρ : Env} {β : Nat → Nat × Nat} {s : St} {w : World} (h : Sat ρ β s w) {α : Type} {e : E} {t f : St → T α} {r : α} (hr : (fork s e t f).sel ρ = some r) :
    ∃ s1, s1.bl = s.bl ∧ Sat ρ β s1 w ∧ ((e.ev ρ ≠ 0 ∧ (t s1).sel ρ = some r) ∨ (e.ev ρ = 0 ∧ (f s1).sel ρ = some r)) := by
  unfold fork at hr
  split at hr
  · rename_i n
    split at hr
    · exact ⟨s, rfl, h, .inl ⟨by assumption, hr⟩⟩
    · rename_i hn
      exact ⟨s, rfl, h, .inr ⟨by simpa [E.ev] using hn, hr⟩⟩
  · split at hr
    · rename_i hk
      have := knows_ok h hk
      exact ⟨s, rfl, h, .inl ⟨by simpa using this, hr⟩⟩
    · rename_i hk
      have := knows_ok h hk
      exact ⟨s, rfl, h, .inr ⟨by simpa using this, hr⟩⟩
    · simp only [T.sel] at hr
      split at hr
      · rename_i hne
        exact ⟨{ s with kn := (e, true) :: s.kn }, rfl, h.kn_cons (by simpa using hne), .inl ⟨hne, hr⟩⟩
      · rename_i hne
        exact ⟨{ s with kn := (e, false) :: s.kn }, rfl, h.kn_cons (by simpa using hne), .inr ⟨by simpa using hne, hr⟩⟩

/-- a name for a number: from here on it is known by a bounded variable -/
def defn {α : Type} (cx : Cx) (i : Nat) (e : E) (s : St) (k : St → T α) : T α :=
  match e.iv cx with
  | some p => .new i e (k { s with kn := (.b .eq .i64 e (.cl i p.1 p.2), true) :: s.kn })
  | none => k s
theorem defn_ok {cx : Cx} {ρ : Env} (hρ : EnvOk cx ρ) {β : Nat → Nat × Nat} {s : St} {w : World} (h : Sat ρ β s w) {α : Type} {i : Nat} {e : E} {k : St → T α} {r : α} (hr : (defn cx i e s k).sel ρ = some r) :
    ∃ s1, s1.bl = s.bl ∧ Sat ρ β s1 w ∧ (k s1).sel ρ = some r := by
  unfold defn at hr
  split at hr
  · rename_i p hp
    simp only [T.sel] at hr
    split at hr
    · rename_i hi
      refine ⟨{ s with kn := (.b .eq .i64 e (.cl i p.1 p.2), true) :: s.kn }, rfl, h.kn_cons ?_, hr⟩
      have hb := E.iv_ok hρ e
      rw [hp] at hb
      simp only [E.ev, BO.ev, hi, clampZ_in hb.1 hb.2]
      simp [bool01]
    · cases hr
  · exact ⟨s, rfl, h, hr⟩

/-- the name that an expression has -/
def nameOf (e : E) : List (E × Bool) → Option E
  | [] => none
  | (.b .eq .i64 e' (.cl i l h), true) :: kn => if e'.beq e then some (.cl i l h) else nameOf e kn
  | _ :: kn => nameOf e kn
theorem nameOf_ok {ρ : Env} {e r : E} : ∀ {kn : List (E × Bool)}, (∀ e b, (e, b) ∈ kn → (e.ev ρ != 0) = b) → nameOf e kn = some r → r.ev ρ = e.ev ρ
  | [], _, h => by cases h
  | p :: kn, hk, h => by
    have ih : nameOf e kn = some r → r.ev ρ = e.ev ρ := fun h' => nameOf_ok (kn := kn) (fun e b hm => hk e b (List.mem_cons_of_mem _ hm)) h'
    unfold nameOf at h
    split at h
    · rename_i h'; cases h'
    · rename_i e' i l h' kn' he
      obtain ⟨rfl, rfl⟩ := List.cons.inj he
      split at h
      · rename_i hb
        have := E.eq_of_beq hb
        subst this
        cases h
        have := hk _ _ List.mem_cons_self
        simp only [E.ev, BO.ev, bool01] at this ⊢
        by_cases hq : e'.ev ρ = clampZ l h' (ρ.i i)
        · exact hq.symm
        · simp [hq] at this
      · exact ih h
    · rename_i he
      obtain ⟨rfl, rfl⟩ := List.cons.inj he
      exact ih h

/-- it is worth a name -/
def E.deep : Nat → E → Bool
  | 0, .c _ => false
  | 0, .v _ => false
  | 0, .cl _ _ _ => false
  | 0, _ => true
  | n + 1, .b _ _ x y => x.deep n || y.deep n
  | n + 1, .w _ x => x.deep n
  | n + 1, .nt x => x.deep n
  | n + 1, .ite t x y => t.deep n || x.deep n || y.deep n
  | n + 1, .f _ x y z => x.deep n || y.deep n || z.deep n
  | _, _ => false

/-- the number of the next name: one more than that of the name given last -/
def nextN : List (E × Bool) → Nat
  | (.b .eq .i64 _ (.cl i _ _), true) :: _ => i + 1
  | kn => 1000 + kn.length

/-- its name (of the latest ones), or a name for it -/
def shareE {α : Type} (cx : Cx) (e : E) (s : St) (k : E → St → T α) : T α :=
  if cx.sh != 0 && e.deep cx.sh then
    match nameOf e (s.kn.take 32) with
    | some r => k r s
    | none => match e.iv cx with
      | some p => .new (nextN s.kn) e (k (.cl (nextN s.kn) p.1 p.2) { s with kn := (.b .eq .i64 e (.cl (nextN s.kn) p.1 p.2), true) :: s.kn })
      | none => k e s
  else k e s
theorem shareE_ok {cx : Cx} {ρ : Env} (hρ : EnvOk cx ρ) {β : Nat → Nat × Nat} {s : St} {w : World} (h : Sat ρ β s w) {α : Type} {e : E} {k : E → St → T α} {r : α} (hr : (shareE cx e s k).sel ρ = some r) :
    ∃ e1 s1, e1.ev ρ = e.ev ρ ∧ s1.bl = s.bl ∧ Sat ρ β s1 w ∧ (k e1 s1).sel ρ = some r := by
  unfold shareE at hr
  split at hr
  · split at hr
    · rename_i r1 hn
      exact ⟨r1, s, nameOf_ok (fun e b hm => h.kn e b (List.mem_of_mem_take hm)) hn, rfl, h, hr⟩
    · split at hr
      · rename_i p hp
        simp only [T.sel] at hr
        split at hr
        · rename_i hi
          have hb := E.iv_ok hρ e
          rw [hp] at hb
          have he : (E.cl (nextN s.kn) p.1 p.2).ev ρ = e.ev ρ := by simp only [E.ev, hi, clampZ_in hb.1 hb.2]
          refine ⟨.cl (nextN s.kn) p.1 p.2, { s with kn := (.b .eq .i64 e (.cl (nextN s.kn) p.1 p.2), true) :: s.kn }, he, rfl, h.kn_cons ?_, hr⟩
          simp only [E.ev, BO.ev] at he ⊢
          rw [he]
          simp [bool01]
        · cases hr
      · exact ⟨e, s, rfl, rfl, h, hr⟩
  · exact ⟨e, s, rfl, rfl, h, hr⟩

mutual
def SV.share {α : Type} (cx : Cx) (x : SV) (s : St) (k : SV → St → T α) : T α :=
  match x with
  | .int ik e => shareE cx e s fun e s => k (.int ik e) s
  | .agg l => SV.shareL cx l s fun l s => k (.agg l) s
  | .tup l => SV.shareL cx l s fun l s => k (.tup l) s
  | x => k x s
def SV.shareL {α : Type} (cx : Cx) (l : List SV) (s : St) (k : List SV → St → T α) : T α :=
  match l with
  | [] => k [] s
  | x :: l => SV.share cx x s fun x s => SV.shareL cx l s fun l s => k (x :: l) s
end

mutual
theorem SV.share_ok {cx : Cx} {ρ : Env} (hρ : EnvOk cx ρ) {β : Nat → Nat × Nat} {w : World} {α : Type} {r : α} : ∀ (x : SV) {s : St} {k : SV → St → T α}, Sat ρ β s w → (SV.share cx x s k).sel ρ = some r →
    ∃ x1 s1, (∀ β', x1.den ρ β' = x.den ρ β') ∧ s1.bl = s.bl ∧ Sat ρ β s1 w ∧ (k x1 s1).sel ρ = some r
  | .int ik e, s, k, h, hr => by
    simp only [SV.share] at hr
    obtain ⟨e1, s1, h1, h2, h3, h4⟩ := shareE_ok hρ h hr
    exact ⟨_, s1, fun β' => by simp only [SV.den, h1], h2, h3, h4⟩
  | .agg l, s, k, h, hr => by
    simp only [SV.share] at hr
    obtain ⟨e1, s1, h1, h2, h3, h4⟩ := SV.shareL_ok hρ l h hr
    exact ⟨_, s1, fun β' => by simp only [SV.den, h1], h2, h3, h4⟩
  | .tup l, s, k, h, hr => by
    simp only [SV.share] at hr
    obtain ⟨e1, s1, h1, h2, h3, h4⟩ := SV.shareL_ok hρ l h hr
    exact ⟨_, s1, fun β' => by simp only [SV.den, h1], h2, h3, h4⟩
  | .bool _, s, k, h, hr | .ptr _ _, s, k, h, hr | .lit _, s, k, h, hr | .any _, s, k, h, hr | .slice _ _ _ _, s, k, h, hr | .func _ _ _, s, k, h, hr | .iface _ _, s, k, h, hr => by
    simp only [SV.share] at hr
    exact ⟨_, s, fun _ => rfl, rfl, h, hr⟩
theorem SV.shareL_ok {cx : Cx} {ρ : Env} (hρ : EnvOk cx ρ) {β : Nat → Nat × Nat} {w : World} {α : Type} {r : α} : ∀ (l : List SV) {s : St} {k : List SV → St → T α}, Sat ρ β s w → (SV.shareL cx l s k).sel ρ = some r →
    ∃ l1 s1, (∀ β', SV.denL ρ β' l1 = SV.denL ρ β' l) ∧ s1.bl = s.bl ∧ Sat ρ β s1 w ∧ (k l1 s1).sel ρ = some r
  | [], s, k, h, hr => by
    simp only [SV.shareL] at hr
    exact ⟨_, s, fun _ => rfl, rfl, h, hr⟩
  | x :: l, s, k, h, hr => by
    simp only [SV.shareL] at hr
    obtain ⟨x1, s1, a1, a2, a3, a4⟩ := SV.share_ok hρ x h hr
    obtain ⟨l1, s2, b1, b2, b3, b4⟩ := SV.shareL_ok hρ l a3 a4
    exact ⟨_, s2, fun β' => by simp only [SV.denL, a1, b1], b2.trans a2, b3, b4⟩
end

/-- the names that are there, without new ones -/
def renE (cx : Cx) (kn : List (E × Bool)) (e : E) : E := if cx.sh != 0 && e.deep cx.sh then (nameOf e kn).getD e else e
mutual
def SV.ren (cx : Cx) (kn : List (E × Bool)) : SV → SV
  | .int ik e => .int ik (renE cx kn e)
  | .agg l => .agg (SV.renL cx kn l)
  | .tup l => .tup (SV.renL cx kn l)
  | x => x
def SV.renL (cx : Cx) (kn : List (E × Bool)) : List SV → List SV
  | [] => []
  | x :: l => x.ren cx kn :: SV.renL cx kn l
end
theorem renE_ok {cx : Cx} {ρ : Env} {kn : List (E × Bool)} (hk : ∀ e b, (e, b) ∈ kn → (e.ev ρ != 0) = b) (e : E) : (renE cx kn e).ev ρ = e.ev ρ := by
  unfold renE
  split
  · cases h : nameOf e kn with
    | none => rfl
    | some r => exact nameOf_ok hk h
  · rfl
mutual
theorem SV.ren_den {cx : Cx} {ρ : Env} {β : Nat → Nat × Nat} {kn : List (E × Bool)} (hk : ∀ e b, (e, b) ∈ kn → (e.ev ρ != 0) = b) : ∀ (x : SV), (x.ren cx kn).den ρ β = x.den ρ β
  | .int ik e => by simp only [SV.ren, SV.den, renE_ok hk]
  | .agg l => by simp only [SV.ren, SV.den, SV.renL_den hk l]
  | .tup l => by simp only [SV.ren, SV.den, SV.renL_den hk l]
  | .bool _ | .ptr _ _ | .lit _ | .any _ | .slice _ _ _ _ | .func _ _ _ | .iface _ _ => rfl
theorem SV.renL_den {cx : Cx} {ρ : Env} {β : Nat → Nat × Nat} {kn : List (E × Bool)} (hk : ∀ e b, (e, b) ∈ kn → (e.ev ρ != 0) = b) : ∀ (l : List SV), SV.denL ρ β (SV.renL cx kn l) = SV.denL ρ β l
  | [] => rfl
  | x :: l => by simp only [SV.renL, SV.denL, SV.ren_den hk x, SV.renL_den hk l]
end

def isNilTest (cx : Cx) (xt : TypeId) (x y : SV) : Option Bool :=
  match cx.und xt, x, y with
  | some (.pointer _), .ptr _ _, .lit (.pointer none) => some false
  | some (.pointer _), .any _, .lit (.pointer none) => some false
  | some (.pointer _), .lit (.pointer none), .ptr _ _ => some false
  | some (.pointer _), .lit (.pointer none), .lit (.pointer none) => some true
  | some (.interface _), .iface _ _, .lit .nilIface => some false
  | some (.slice _), .slice _ _ _ _, .lit (.slice none _ _) => some false
  | some (.slice _), .lit (.slice none _ _), .lit (.slice none _ _) => some true
  | some (.func _ _ _), .func _ _ _, .lit .nilFunc => some false
  | some (.func _ _ _), .lit .nilFunc, .lit .nilFunc => some true
  | _, _, _ => none

/-- two rows of integers, one by one -/
def eqRow (cx : Cx) : List SV → List SV → Option E
  | [], [] => some (.c 1)
  | .int k e :: l, .int k' e' :: m => if k = k' then (match eqRow cx l m with
    | some r => some (match E.b' cx .eq k e e' with
      | .c 0 => .c 0
      | .c _ => r
      | t => .ite t r (.c 0))
    | none => none) else none
  | _, _ => none

def intElem (cx : Cx) (t : TypeId) : Bool :=
  match cx.und t, szT cx t with
  | some (.int _), some 1 => true
  | _, _ => false

def binS (cx : Cx) (op : BinOp) (xt : TypeId) (x y : SV) (s : St) : R :=
  match op, x, y with
  | .shl, .int k e, .int _ f =>
    if lo0 (f.iv cx) then ret s (.int k (E.b' cx .shl k e f)) else fork s (E.b' cx .lt .i64 f (.c 0)) (fun _ => .bad 1) (fun s => ret s (.int k (E.b' cx .shl k e f)))
  | .shr, .int k e, .int _ f =>
    if lo0 (f.iv cx) then ret s (.int k (E.b' cx .shr k e f)) else fork s (E.b' cx .lt .i64 f (.c 0)) (fun _ => .bad 1) (fun s => ret s (.int k (E.b' cx .shr k e f)))
  | .quo, .int k e, .int k' f =>
    if k ≠ k' then .bad 2 else
    if non0 (f.iv cx) then ret s (.int k (E.b' cx .quo k e f)) else fork s (E.b' cx .eq k f (.c 0)) (fun _ => .bad 3) (fun s => ret s (.int k (E.b' cx .quo k e f)))
  | .rem, .int k e, .int k' f =>
    if k ≠ k' then .bad 2 else
    if non0 (f.iv cx) then ret s (.int k (E.b' cx .rem k e f)) else fork s (E.b' cx .eq k f (.c 0)) (fun _ => .bad 3) (fun s => ret s (.int k (E.b' cx .rem k e f)))
  | op, .int k e, .int k' f =>
    if k ≠ k' then .bad 2 else
    match arOp op with
    | some b => ret s (.int k (E.b' cx b k e f))
    | none =>
      match cmOp op e f with
      | some (b, u, v) => ret s (.bool (E.b' cx b k u v))
      | none => .bad 4
  | .eql, .bool e, .bool f => if (cx.und xt).any (fun d => d matches .bool) then ret s (.bool (E.b' cx .eq .i64 (E.nt' e) (E.nt' f))) else .bad 5
  | .neq, .bool e, .bool f => if (cx.und xt).any (fun d => d matches .bool) then ret s (.bool (E.b' cx .ne .i64 (E.nt' e) (E.nt' f))) else .bad 5
  | .eql, .agg l, .agg m =>
    match cx.und xt with
    | some (.array n e) => if intElem cx e && l.length == n && m.length == n then (match eqRow cx l m with | some r => ret s (.bool r) | none => .bad 6) else .bad 6
    | _ => .bad 6
  | .neq, .agg l, .agg m =>
    match cx.und xt with
    | some (.array n e) => if intElem cx e && l.length == n && m.length == n then (match eqRow cx l m with | some r => ret s (.bool (E.nt' r)) | none => .bad 6) else .bad 6
    | _ => .bad 6
  | .eql, x, y => match isNilTest cx xt x y with | some b => ret s (.bool (.c (bool01 b))) | none => .bad 7
  | .neq, x, y => match isNilTest cx xt x y with | some b => ret s (.bool (.c (bool01 !b))) | none => .bad 7
  | _, _, _ => .bad 8

def BinOk (cx : Cx) (op : BinOp) (xt : TypeId) (x y : Operand) (X Y : SV) (ρ : Env) (β : Nat → Nat × Nat) (w : World) (v : SV) : Prop :=
  (do eqGuard op xt x y (X.den ρ β) (Y.den ρ β); binOp op xt (X.den ρ β) (Y.den ρ β)).run cx.P w = .ok (v.den ρ β) w

theorem eqGuard_int (op : BinOp) (t : TypeId) (x y : Operand) (k : IntKind) (n : Int) (v : Value) : eqGuard op t x y (.int k n) v = pure () := by cases op <;> rfl
theorem eqGuard_bool (op : BinOp) (t : TypeId) (x y : Operand) (b : Bool) (v : Value) : eqGuard op t x y (.bool b) v = pure () := by cases op <;> rfl

theorem bool_ne (b : Bool) : Value.bool (bool01 b != 0) = .bool b := by rw [bool01_ne]

section
variable {cx : Cx} {ρ : Env} {β : Nat → Nat × Nat} {s s' : St} {w : World} {op : BinOp} {xt : TypeId} {x y : Operand} {X Y v : SV}

theorem bin_int_ar {k : IntKind} {e f : E} {b : BO} (hρ : EnvOk cx ρ) (h : arOp op = some b) :
    BinOk cx op xt x y (.int k e) (.int k f) ρ β w (.int k (E.b' cx b k e f)) := by
  unfold BinOk
  simp only [SV.den, eqGuard_int, E.b'_ev hρ]
  cases op <;> simp [arOp] at h <;> subst h <;> simp [binOp, Op.intArith, Op.intBits, BO.ev]

theorem bin_int_cm {k : IntKind} {e f u z : E} {b : BO} (hρ : EnvOk cx ρ) (h : cmOp op e f = some (b, u, z)) :
    BinOk cx op xt x y (.int k e) (.int k f) ρ β w (.bool (E.b' cx b k u z)) := by
  unfold BinOk
  simp only [SV.den, eqGuard_int, E.b'_ev hρ]
  cases op <;> simp [cmOp] at h <;> obtain ⟨rfl, rfl, rfl⟩ := h <;> simp [binOp, Op.intCmp, BO.ev, bool01_ne]

theorem bin_shl {k k' : IntKind} {e f : E} (hρ : EnvOk cx ρ) (h : 0 ≤ f.ev ρ) :
    BinOk cx .shl xt x y (.int k e) (.int k' f) ρ β w (.int k (E.b' cx .shl k e f)) := by
  unfold BinOk
  simp only [SV.den, eqGuard_int, E.b'_ev hρ]
  simp [binOp, Op.shift, BO.ev, show ¬ f.ev ρ < 0 by omega]
theorem bin_shr {k k' : IntKind} {e f : E} (hρ : EnvOk cx ρ) (h : 0 ≤ f.ev ρ) :
    BinOk cx .shr xt x y (.int k e) (.int k' f) ρ β w (.int k (E.b' cx .shr k e f)) := by
  unfold BinOk
  simp only [SV.den, eqGuard_int, E.b'_ev hρ]
  simp [binOp, Op.shift, BO.ev, show ¬ f.ev ρ < 0 by omega]
theorem bin_quo {k : IntKind} {e f : E} (hρ : EnvOk cx ρ) (h : f.ev ρ ≠ 0) :
    BinOk cx .quo xt x y (.int k e) (.int k f) ρ β w (.int k (E.b' cx .quo k e f)) := by
  unfold BinOk
  simp only [SV.den, eqGuard_int, E.b'_ev hρ]
  simp [binOp, Op.intDiv, BO.ev, h]
theorem bin_rem {k : IntKind} {e f : E} (hρ : EnvOk cx ρ) (h : f.ev ρ ≠ 0) :
    BinOk cx .rem xt x y (.int k e) (.int k f) ρ β w (.int k (E.b' cx .rem k e f)) := by
  unfold BinOk
  simp only [SV.den, eqGuard_int, E.b'_ev hρ]
  simp [binOp, Op.intDiv, BO.ev, h]

theorem lt0_ev (hρ : EnvOk cx ρ) (f : E) : (E.b' cx .lt .i64 f (.c 0)).ev ρ = 0 → 0 ≤ f.ev ρ := by
  rw [E.b'_ev hρ]; simp only [BO.ev, E.ev, bool01]
  by_cases h : f.ev ρ < 0
  · simp [h]
  · intro _; omega
theorem eq0_ev (hρ : EnvOk cx ρ) (k : IntKind) (f : E) : (E.b' cx .eq k f (.c 0)).ev ρ = 0 → f.ev ρ ≠ 0 := by
  rw [E.b'_ev hρ]; simp [BO.ev, E.ev, bool01]

theorem bin_bool {e f : E} (hρ : EnvOk cx ρ) (ht : (cx.und xt).any (fun d => d matches .bool) = true) :
    BinOk cx .eql xt x y (.bool e) (.bool f) ρ β w (.bool (E.b' cx .eq .i64 (E.nt' e) (E.nt' f))) ∧
    BinOk cx .neq xt x y (.bool e) (.bool f) ρ β w (.bool (E.b' cx .ne .i64 (E.nt' e) (E.nt' f))) := by
  have ht' : cx.und xt = some .bool := by
    cases hu : cx.und xt with
    | none => simp [hu] at ht
    | some d => simp [hu] at ht; cases d <;> simp_all
  have h1 : ∀ p q : Int, ((p != 0) == (q != 0)) = (bool01 (p == 0) == bool01 (q == 0)) := by
    intro p q
    unfold bne
    cases (p == 0) <;> cases (q == 0) <;> rfl
  constructor <;> unfold BinOk <;> simp only [SV.den, eqGuard_bool, E.b'_ev hρ, E.nt'_ev, BO.ev, bool01_ne]
  · show (do let z ← Op.equal xt _ _; pure (Value.bool z) : Sem Value).run cx.P w = _
    rw [Sem.run_bind, run_equal_bool w xt _ _ (cx.undOk _ _ ht'), Result.andThen_ok, h1]
    rfl
  · show (do let z ← Op.equal xt _ _; pure (Value.bool !z) : Sem Value).run cx.P w = _
    rw [Sem.run_bind, run_equal_bool w xt _ _ (cx.undOk _ _ ht'), Result.andThen_ok, h1]
    rfl

end

/-! ### rows of integers, held against each other -/
theorem intElem_ok {cx : Cx} {t : TypeId} (h : intElem cx t = true) : (∃ k, cx.und t = some (.int k)) ∧ szT cx t = some 1 ∧ isAggT cx t = some false := by
  unfold intElem at h
  split at h
  · rename_i k hu hs
    exact ⟨⟨_, hu⟩, hs, by simp [isAggT, hu]⟩
  · cases h

theorem eqRow_step {cx : Cx} {ρ : Env} (hρ : EnvOk cx ρ) {k : IntKind} {e e' r : E} :
    (match E.b' cx .eq k e e' with
      | .c 0 => E.c 0
      | .c _ => r
      | t => .ite t r (.c 0)).ev ρ = if e.ev ρ = e'.ev ρ then r.ev ρ else 0 := by
  have h := E.b'_ev hρ .eq k e e'
  simp only [BO.ev] at h
  split
  · rename_i h2; rw [h2] at h; simp [E.ev, bool01] at h; rw [if_neg h]; rfl
  · rename_i n h1 h2; rw [h2] at h; simp only [E.ev, bool01] at h
    split at h
    · rename_i hh; rw [if_pos (by simpa using hh)]
    · exact absurd h h1
  · simp only [E.ev, h, bool01]
    split
    · rename_i hh; simp at hh; simp [hh]
    · rename_i hh; simp at hh; simp [hh]

theorem run_part_int {cx : Cx} {w : World} {e : TypeId} (h : isAggT cx e = some false) {cs : Array Value} {i : Nat} {v : Value} (hv : cs[i]? = some v) :
    (part e cs i).run cx.P w = .ok v w := by
  simp [part, run_isAgg_of h, hv]

theorem eqRow_ok {cx : Cx} {ρ : Env} (hρ : EnvOk cx ρ) (β : Nat → Nat × Nat) (w : World) {el : TypeId} (hel : intElem cx el = true) (d : Nat) (L M : List SV) :
    ∀ (n i : Nat) (r : E), i + n = L.length → i + n = M.length → eqRow cx (L.drop i) (M.drop i) = some r →
      (Op.eqItems (d + 1) el 1 (SV.denL ρ β L).toArray (SV.denL ρ β M).toArray (List.range' i n)).run cx.P w = .ok (r.ev ρ != 0) w
  | 0, i, r, h1, h2, hr => by
    rw [List.drop_eq_nil_of_le (by omega), List.drop_eq_nil_of_le (by omega)] at hr
    cases hr
    simp [Op.eqItems, E.ev]
  | n + 1, i, r, h1, h2, hr => by
    rw [List.drop_eq_getElem_cons (by omega), List.drop_eq_getElem_cons (l := M) (by omega)] at hr
    generalize hx : L[i] = x at hr
    generalize hy : M[i] = y at hr
    obtain ⟨⟨kk, hk⟩, _, ha⟩ := intElem_ok hel
    cases x <;> cases y <;> simp only [eqRow] at hr <;> first | (cases hr; done) | skip
    rename_i k e k' e'
    split at hr
    case isFalse => cases hr
    rename_i hkk
    subst hkk
    split at hr
    case h_2 => cases hr
    rename_i r' hr'
    simp only [Option.some.injEq] at hr
    have ih := eqRow_ok hρ β w hel d L M n (i + 1) r' (by omega) (by omega) hr'
    have hxl : (SV.denL ρ β L)[i]? = some (.int k (e.ev ρ)) := by rw [denL_get, List.getElem?_eq_getElem (by omega), hx]; rfl
    have hyl : (SV.denL ρ β M)[i]? = some (.int k (e'.ev ρ)) := by rw [denL_get, List.getElem?_eq_getElem (by omega), hy]; rfl
    simp only [List.range'_succ, Op.eqItems, Sem.run_bind, Nat.mul_one]
    rw [run_part_int ha (by simpa using hxl), Result.andThen_ok, run_part_int ha (by simpa using hyl), Result.andThen_ok, run_equalIn_int w d el k kk _ _ (cx.undOk _ _ hk), Result.andThen_ok]
    rw [← hr, eqRow_step hρ]
    by_cases he : e.ev ρ = e'.ev ρ
    · simp [he]; exact ih
    · simp [he]

theorem eqGuardType_int {P : Program} {t e : TypeId} {n : Nat} (h : P.underlying t = some (.array n e)) {k : IntKind} (he : P.underlying e = some (.int k)) : P.eqGuardType P.depth t = false := by
  unfold Program.depth
  simp only [Program.eqGuardType, h, he]

theorem bin_agg {cx : Cx} {ρ : Env} {β : Nat → Nat × Nat} {w : World} {xt : TypeId} {x y : Operand} (hρ : EnvOk cx ρ) {n : Nat} {el : TypeId} (hu : cx.und xt = some (.array n el)) (hel : intElem cx el = true)
    {L M : List SV} (hL : L.length = n) (hM : M.length = n) {r : E} (hr : eqRow cx L M = some r) :
    BinOk cx .eql xt x y (.agg L) (.agg M) ρ β w (.bool r) ∧ BinOk cx .neq xt x y (.agg L) (.agg M) ρ β w (.bool (E.nt' r)) := by
  obtain ⟨⟨kk, hk⟩, hsz, ha⟩ := intElem_ok hel
  have hg : ∀ op, (eqGuard op xt x y (.agg (SV.denL ρ β L).toArray) (.agg (SV.denL ρ β M).toArray)).run cx.P w = .ok () w := by
    intro op
    simp [eqGuard, eqGuardType_int (cx.undOk _ _ hu) (cx.undOk _ _ hk)]
  obtain ⟨i, hi0, hi1⟩ := szT_info hsz
  have hi := cx.infOk _ _ hi0
  have hc : cx.P.cellsOf el = 1 := by simp [Program.cellsOf, hi, hi1]
  have he : (Op.equal xt (.agg (SV.denL ρ β L).toArray) (.agg (SV.denL ρ β M).toArray)).run cx.P w = .ok (r.ev ρ != 0) w := by
    unfold Op.equal Op.maxDepth
    rw [run_equalIn_array w 9999 _ _ (cx.undOk _ _ hu) hi, hc, List.range_eq_range']
    exact eqRow_ok hρ β w hel 9998 L M n 0 r (by omega) (by omega) (by simpa using hr)
  constructor <;> unfold BinOk <;> simp only [SV.den, Sem.run_bind, hg, Result.andThen_ok, E.nt'_ev, bool01_ne]
  · simp [binOp, he]
  · simp [binOp, he, bne]

theorem bin_nil {cx : Cx} {ρ : Env} {β : Nat → Nat × Nat} {w : World} {xt : TypeId} {x y : Operand} {X Y : SV} (hρ : EnvOk cx ρ) {b : Bool} (h : isNilTest cx xt X Y = some b) :
    BinOk cx .eql xt x y X Y ρ β w (.bool (.c (bool01 b))) ∧ BinOk cx .neq xt x y X Y ρ β w (.bool (.c (bool01 !b))) := by
  have key : ∀ d, (Op.equalIn (d + 1) xt (X.den ρ β) (Y.den ρ β)).run cx.P w = .ok b w ∧ (∀ op, eqGuard op xt x y (X.den ρ β) (Y.den ρ β) = pure ()) ∧
      (∀ op, op = .eql → binOp op xt (X.den ρ β) (Y.den ρ β) = do let z ← Op.equal xt (X.den ρ β) (Y.den ρ β); pure (Value.bool z)) ∧
      (∀ op, op = .neq → binOp op xt (X.den ρ β) (Y.den ρ β) = do let z ← Op.equal xt (X.den ρ β) (Y.den ρ β); pure (Value.bool !z)) := by
    intro d
    unfold isNilTest at h
    split at h <;> cases h <;> rename_i hu
    case h_2 i => 
      obtain ⟨a, ha⟩ := hρ.hv i
      simp only [SV.den, ha]
      refine ⟨by simp [Op.equalIn, run_und hu], fun op => by cases op <;> rfl, fun op ho => by subst ho; rfl, fun op ho => by subst ho; rfl⟩
    all_goals
      simp only [SV.den]
      refine ⟨by simp [Op.equalIn, run_und hu], fun op => by cases op <;> rfl, fun op ho => by subst ho; rfl, fun op ho => by subst ho; rfl⟩
  obtain ⟨k1, k2, k3, k4⟩ := key 9999
  have k1' : (Op.equal xt (X.den ρ β) (Y.den ρ β)).run cx.P w = .ok b w := k1
  constructor <;> unfold BinOk <;> rw [k2]
  · rw [k3 _ rfl]
    show (do let z ← Op.equal xt _ _; pure (Value.bool z) : Sem Value).run cx.P w = _
    rw [Sem.run_bind, k1', Result.andThen_ok]
    simp only [SV.den, E.ev, bool01_ne]; rfl
  · rw [k4 _ rfl]
    show (do let z ← Op.equal xt _ _; pure (Value.bool !z) : Sem Value).run cx.P w = _
    rw [Sem.run_bind, k1', Result.andThen_ok]
    simp only [SV.den, E.ev, bool01_ne]; rfl

end Go.Eng
