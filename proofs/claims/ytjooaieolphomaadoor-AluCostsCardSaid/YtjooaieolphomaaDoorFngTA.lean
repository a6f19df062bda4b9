/-
  A symbolic executor, part TA: environments that agree; trees with loops, what they select.
-/
import Derived.Test.YtjooaieolphomaaDoorFngK
set_option linter.unusedVariables false
set_option linter.unusedSimpArgs false
namespace Go.Eng

/-! ### environments that agree below a number -/

structure Agn (n : Nat) (ρ ρ' : Env) : Prop where
  i : ∀ j, j < n → ρ'.i j = ρ.i j
  f : ρ'.f = ρ.f
  v : ρ'.v = ρ.v
  ro : ρ'.ro = ρ.ro

theorem Agn.refl (n : Nat) (ρ : Env) : Agn n ρ ρ := ⟨fun _ _ => rfl, rfl, rfl, rfl⟩
theorem Agn.trans {n : Nat} {ρ ρ1 ρ2 : Env} (h : Agn n ρ ρ1) (k : Agn n ρ1 ρ2) : Agn n ρ ρ2 :=
  ⟨fun j hj => (k.i j hj).trans (h.i j hj), k.f.trans h.f, k.v.trans h.v, k.ro.trans h.ro⟩
theorem Agn.mono {n m : Nat} {ρ ρ' : Env} (h : Agn n ρ ρ') (hm : m ≤ n) : Agn m ρ ρ' := ⟨fun j hj => h.i j (by omega), h.f, h.v, h.ro⟩
theorem Agn.symm {n : Nat} {ρ ρ' : Env} (h : Agn n ρ ρ') : Agn n ρ' ρ := ⟨fun j hj => (h.i j hj).symm, h.f.symm, h.v.symm, h.ro.symm⟩

/-- all variables are below n -/
def E.vb (n : Nat) : E → Bool
  | .c _ => true
  | .v i => Nat.blt i n
  | .b _ _ x y => x.vb n && y.vb n
  | .w _ x => x.vb n
  | .nt x => x.vb n
  | .ite t x y => t.vb n && x.vb n && y.vb n
  | .f _ x y z => x.vb n && y.vb n && z.vb n
  | .cl i _ _ => Nat.blt i n
theorem E.vb_ev {ρ ρ' : Env} {n : Nat} (ha : Agn n ρ ρ') : ∀ (e : E), e.vb n = true → e.ev ρ' = e.ev ρ := by
  intro e
  induction e with
  | c m => intro _; rfl
  | v i => intro h; exact ha.i i (by simpa [E.vb] using h)
  | b o k x y hx hy => intro h; simp only [E.vb, Bool.and_eq_true] at h; simp only [E.ev, hx h.1, hy h.2]
  | w k x hx => intro h; simp only [E.ev, hx h]
  | nt x hx => intro h; simp only [E.ev, hx h]
  | ite t x y ht hx hy => intro h; simp only [E.vb, Bool.and_eq_true] at h; simp only [E.ev, ht h.1.1, hx h.1.2, hy h.2]
  | f m x y z hx hy hz => intro h; simp only [E.vb, Bool.and_eq_true] at h; simp only [E.ev, hx h.1.1, hy h.1.2, hz h.2, ha.f]
  | cl i l h => intro h; simp only [E.ev, ha.i i (by simpa [E.vb] using h)]
theorem E.vb_mono {n m : Nat} (hm : n ≤ m) : ∀ (e : E), e.vb n = true → e.vb m = true := by
  intro e
  induction e with
  | c _ => intro _; rfl
  | v i => intro h; simp only [E.vb, Nat.blt_eq] at *; omega
  | b o k x y hx hy => intro h; simp only [E.vb, Bool.and_eq_true] at *; exact ⟨hx h.1, hy h.2⟩
  | w k x hx => intro h; exact hx h
  | nt x hx => intro h; exact hx h
  | ite t x y ht hx hy => intro h; simp only [E.vb, Bool.and_eq_true] at *; exact ⟨⟨ht h.1.1, hx h.1.2⟩, hy h.2⟩
  | f m x y z hx hy hz => intro h; simp only [E.vb, Bool.and_eq_true] at *; exact ⟨⟨hx h.1.1, hy h.1.2⟩, hz h.2⟩
  | cl i l h => intro h; simp only [E.vb, Nat.blt_eq] at *; omega

def optVb (n : Nat) : Option E → Bool
  | none => true
  | some e => e.vb n
mutual
def SV.vb (n : Nat) : SV → Bool
  | .int _ e => e.vb n
  | .bool e => e.vb n
  | .func _ a c => SV.vbL n a && SV.vbL n c
  | .iface _ x => x.vb n
  | .agg l => SV.vbL n l
  | .tup l => SV.vbL n l
  | .str e => e.vb n
  | .sl _ _ o l c => o.vb n && l.vb n && optVb n c
  | .ep _ _ i _ => i.vb n
  | .cp _ _ _ _ i => i.vb n
  | _ => true
def SV.vbL (n : Nat) : List SV → Bool
  | [] => true
  | x :: l => x.vb n && SV.vbL n l
end
mutual
theorem SV.vb_den {ρ ρ' : Env} {n : Nat} (ha : Agn n ρ ρ') (β : Bt) : ∀ (x : SV), x.vb n = true → x.den ρ' β = x.den ρ β
  | .int k e, h => by simp only [SV.den, E.vb_ev ha e h]
  | .bool e, h => by simp only [SV.den, E.vb_ev ha e h]
  | .func fn a c, h => by simp only [SV.vb, Bool.and_eq_true] at h; simp only [SV.den, SV.vbL_den ha β a h.1, SV.vbL_den ha β c h.2]
  | .iface t x, h => by simp only [SV.vb] at h; simp only [SV.den, SV.vb_den ha β x h]
  | .agg l, h => by simp only [SV.vb] at h; simp only [SV.den, SV.vbL_den ha β l h]
  | .tup l, h => by simp only [SV.vb] at h; simp only [SV.den, SV.vbL_den ha β l h]
  | .any i, _ => by simp only [SV.den, ha.v]
  | .str e, h => by simp only [SV.den, E.vb_ev ha e h]
  | .sl (.own j) z o l none, h => by simp only [SV.vb, Bool.and_eq_true] at h; simp only [SV.den, E.vb_ev ha o h.1.1, E.vb_ev ha l h.1.2]
  | .sl (.own j) z o l (some c), h => by simp only [SV.vb, Bool.and_eq_true, optVb] at h; simp only [SV.den, E.vb_ev ha o h.1.1, E.vb_ev ha l h.1.2, E.vb_ev ha c h.2]
  | .sl (.inp j) z o l none, h => by simp only [SV.vb, Bool.and_eq_true] at h; simp only [SV.den, E.vb_ev ha o h.1.1, E.vb_ev ha l h.1.2, ha.ro]
  | .sl (.inp j) z o l (some c), h => by simp only [SV.vb, Bool.and_eq_true, optVb] at h; simp only [SV.den, E.vb_ev ha o h.1.1, E.vb_ev ha l h.1.2, E.vb_ev ha c h.2, ha.ro]
  | .ep (.own j) z i f, h => by simp only [SV.vb] at h; simp only [SV.den, E.vb_ev ha i h]
  | .ep (.inp j) z i f, h => by simp only [SV.vb] at h; simp only [SV.den, E.vb_ev ha i h, ha.ro]
  | .cp j b z l i, h => by simp only [SV.vb] at h; simp only [SV.den, E.vb_ev ha i h]
  | .ptr _ _, _ | .lit _, _ | .slice _ _ _ _, _ | .wild _, _ => rfl
theorem SV.vbL_den {ρ ρ' : Env} {n : Nat} (ha : Agn n ρ ρ') (β : Bt) : ∀ (l : List SV), SV.vbL n l = true → SV.denL ρ' β l = SV.denL ρ β l
  | [], _ => rfl
  | x :: l, h => by simp only [SV.vbL, Bool.and_eq_true] at h; simp only [SV.denL, SV.vb_den ha β x h.1, SV.vbL_den ha β l h.2]
end

def SBlk.vb (n : Nat) : SBlk → Bool
  | .gone => true
  | .cells l _ _ => SV.vbL n l
  | .arr _ _ q m => q.vb n && m.vb n
theorem SBlk.vb_ok {ρ ρ' : Env} {n : Nat} (ha : Agn n ρ ρ') {β : Bt} {q : Nat} {b : SBlk} {o : Option Obj} (hb : b.vb n = true) (h : blkOk ρ β q b o) : blkOk ρ' β q b o := by
  cases b with
  | gone => trivial
  | cells l e op => simp only [SBlk.vb] at hb; simp only [blkOk, SV.vbL_den ha β l hb] at h ⊢; exact h
  | arr cks e c m => simp only [SBlk.vb, Bool.and_eq_true] at hb; simp only [blkOk, E.vb_ev ha c hb.1, E.vb_ev ha m hb.2] at h ⊢; exact h

def blVb (n : Nat) (l : List SBlk) : Bool := l.all (·.vb n)
def knVb (n : Nat) (l : List (E × Bool)) : Bool := l.all (·.1.vb n)

theorem Sat.agn {ρ ρ' : Env} {n : Nat} (ha : Agn n ρ ρ') {β : Bt} {s : St} {w : World} (hb : blVb n s.bl = true) (hk : knVb n s.kn = true) (h : Sat ρ β s w) : Sat ρ' β s w :=
  ⟨fun j b hj => SBlk.vb_ok ha (List.all_eq_true.1 hb b (List.mem_of_getElem? hj)) (h.blk j b hj), h.inj,
   fun e b hm => by
    have := List.all_eq_true.1 hk _ hm
    rw [E.vb_ev ha e this]
    exact h.kn e b hm, fun k a i x h1 h2 => by rw [ha.ro] at h1 h2; exact h.ro k a i x h1 h2⟩

def Cx.okB (cx : Cx) (n : Nat) : Bool := Nat.ble cx.Γ.length n && cx.ins.all fun d => d.c.vb n && d.n.vb n && d.cap.vb n
theorem EnvOk.agn {cx : Cx} {ρ ρ' : Env} {n : Nat} (hn : cx.okB n = true) (hρ : EnvOk cx ρ) (ha : Agn n ρ ρ') : EnvOk cx ρ' := by
  unfold Cx.okB at hn
  simp only [Bool.and_eq_true] at hn
  have hl := Nat.le_of_ble_eq_true hn.1
  refine ⟨fun i p h => ?_, fun n p x y z h => ?_, fun i => ?_, ?_, fun k d hd => ?_⟩
  · rw [ha.i i (Nat.lt_of_lt_of_le (List.getElem?_eq_some_iff.1 h).1 hl)]; exact hρ.hi i p h
  · rw [ha.f]; exact hρ.hf n p x y z h
  · rw [ha.v]; exact hρ.hv i
  · rw [ha.f]; exact hρ.hF
  · have hv := List.all_eq_true.1 hn.2 d (List.mem_of_getElem? hd)
    simp only [Bool.and_eq_true] at hv
    rw [ha.ro, E.vb_ev ha _ hv.1.1, E.vb_ev ha _ hv.1.2, E.vb_ev ha _ hv.2]
    exact hρ.hro k d hd

/-! ### trees with loops -/

/-- a loop's names: the first one, their bounds, what they begin as; the name of the way out -/
structure Lp where
  base : Nat
  bds : List (Option (Int × Int))
  init : List E
  xid : Nat
  deriving Inhabited

inductive TB where
  | back (l : List E)
  | exit (n : Nat)
  | br (e : E) (t f : TB)
  | bad (n : Nat)
  | new (i : Nat) (e : E) (t : TB)
  | loop (L : Lp) (body rest : TB)

inductive TT (α : Type) where
  | leaf (a : α)
  | br (e : E) (t f : TT α)
  | bad (n : Nat)
  | new (i : Nat) (e : E) (t : TT α)
  | loop (L : Lp) (body : TB) (rest : TT α)

def Lp.vals (L : Lp) (ρ : Env) : List Int := (List.range L.bds.length).map fun k => ρ.i (L.base + k)
def inBd : List (Option (Int × Int)) → List Int → Prop
  | [], [] => True
  | p :: l, x :: m => inIv x p ∧ inBd l m
  | _, _ => False
theorem inBd_get : ∀ {l : List (Option (Int × Int))} {m : List Int}, inBd l m → l.length = m.length ∧ ∀ (k : Nat) p x, l[k]? = some p → m[k]? = some x → inIv x p
  | [], [], _ => ⟨rfl, fun k p x h => by simp at h⟩
  | p :: l, x :: m, h => by
    obtain ⟨h1, h2⟩ := inBd_get h.2
    refine ⟨by simp [h1], fun k q y hq hy => ?_⟩
    cases k with
    | zero => simp at hq hy; subst hq; subst hy; exact h.1
    | succ k => exact h2 k q y (by simpa using hq) (by simpa using hy)
  | [], _ :: _, h => by cases h
  | _ :: _, [], h => by cases h

/-- the rounds from a head on to the way out -/
inductive Chain (sb : Env → Option (List Int ⊕ Nat)) (L : Lp) (ρ : Env) : List Int → Prop where
  | last {n : Nat} : sb ρ = some (.inr n) → ρ.i L.xid = n → Chain sb L ρ (L.vals ρ)
  | step {σ' : List Int} (ρ' : Env) : Agn L.base ρ ρ' → sb ρ' = some (.inl σ') → Chain sb L ρ σ' → Chain sb L ρ (L.vals ρ')

open Classical in
noncomputable def TB.sel : TB → Env → Option (List Int ⊕ Nat)
  | .back l, ρ => some (.inl (l.map (E.ev ρ)))
  | .exit n, _ => some (.inr n)
  | .br e t f, ρ => if e.ev ρ ≠ 0 then t.sel ρ else f.sel ρ
  | .bad _, _ => none
  | .new i e t, ρ => if ρ.i i = e.ev ρ then t.sel ρ else none
  | .loop L body rest, ρ => if Chain (fun ρ' => body.sel ρ') L ρ (L.init.map (E.ev ρ)) then rest.sel ρ else none

open Classical in
noncomputable def TT.sel {α : Type} : TT α → Env → Option α
  | .leaf a, _ => some a
  | .br e t f, ρ => if e.ev ρ ≠ 0 then t.sel ρ else f.sel ρ
  | .bad _, _ => none
  | .new i e t, ρ => if ρ.i i = e.ev ρ then t.sel ρ else none
  | .loop L body rest, ρ => if Chain (fun ρ' => body.sel ρ') L ρ (L.init.map (E.ev ρ)) then rest.sel ρ else none

def TT.bind {α γ : Type} : TT α → (α → TT γ) → TT γ
  | .leaf a, f => f a
  | .br e t u, f => .br e (t.bind f) (u.bind f)
  | .bad n, _ => .bad n
  | .new i e t, f => .new i e (t.bind f)
  | .loop L b r, f => .loop L b (r.bind f)

theorem TT.sel_bind {α γ : Type} (ρ : Env) (t : TT α) (f : α → TT γ) : (t.bind f).sel ρ = (t.sel ρ).bind fun a => (f a).sel ρ := by
  induction t with
  | leaf a => rfl
  | br e t u ht hu => simp only [TT.bind, TT.sel]; split <;> assumption
  | bad n => rfl
  | new i e t ht => simp only [TT.bind, TT.sel]; split <;> first | assumption | rfl
  | loop L b r hr => simp only [TT.bind, TT.sel]; split <;> first | assumption | rfl
theorem TT.sel_bind_some {α γ : Type} {ρ : Env} {t : TT α} {f : α → TT γ} {c : γ} (h : (t.bind f).sel ρ = some c) : ∃ a, t.sel ρ = some a ∧ (f a).sel ρ = some c := by
  rw [TT.sel_bind] at h
  exact Option.bind_eq_some_iff.1 h

def T.lift {α : Type} : T α → TT α
  | .leaf a => .leaf a
  | .br e t f => .br e t.lift f.lift
  | .bad n => .bad n
  | .new i e t => .new i e t.lift
theorem T.lift_sel {α : Type} (ρ : Env) : ∀ (t : T α), t.lift.sel ρ = t.sel ρ
  | .leaf a => rfl
  | .br e t f => by simp only [T.lift, TT.sel, T.sel, T.lift_sel ρ t, T.lift_sel ρ f]
  | .bad n => rfl
  | .new i e t => by simp only [T.lift, TT.sel, T.sel, T.lift_sel ρ t]

/-- the greatest name that a tree gives, or n -/
def TT.top {α : Type} : TT α → Nat → Nat
  | .leaf _, n => n
  | .br _ t f, n => f.top (t.top n)
  | .bad _, n => n
  | .new i _ t, n => t.top (Nat.max n i)
  | .loop L _ r, n => r.top (Nat.max n L.xid)

/-- a condition under which two things may go on -/
def forkT {α : Type} (s : St) (e : E) (t f : St → TT α) : TT α :=
  match e with
  | .c n => if n ≠ 0 then t s else f s
  | e =>
    match knows s e with
    | some true => t s
    | some false => f s
    | none => .br e (t { s with kn := (e, true) :: s.kn }) (f { s with kn := (e, false) :: s.kn })

theorem forkT_ok {ρ : Env} {β : Bt} {s : St} {w : World} (h : Sat ρ β s w) {α : Type} {e : E} {t f : St → TT α} {r : α} (hr : (forkT s e t f).sel ρ = some r) :
    ∃ s1, s1.bl = s.bl ∧ Sat ρ β s1 w ∧ ((e.ev ρ ≠ 0 ∧ (t s1).sel ρ = some r) ∨ (e.ev ρ = 0 ∧ (f s1).sel ρ = some r)) := by
  unfold forkT at hr
  split at hr
  · rename_i n
    split at hr
    · exact ⟨s, rfl, h, .inl ⟨by assumption, hr⟩⟩
    · rename_i hn
      exact ⟨s, rfl, h, .inr ⟨by simpa [E.ev] using hn, hr⟩⟩
  · split at hr
    · rename_i hk
      have := knows_ok h hk
      exact ⟨s, rfl, h, .inl ⟨by simpa using this, hr⟩⟩
    · rename_i hk
      have := knows_ok h hk
      exact ⟨s, rfl, h, .inr ⟨by simpa using this, hr⟩⟩
    · simp only [TT.sel] at hr
      split at hr
      · rename_i hne
        exact ⟨{ s with kn := (e, true) :: s.kn }, rfl, h.kn_cons (by simpa using hne), .inl ⟨hne, hr⟩⟩
      · rename_i hne
        exact ⟨{ s with kn := (e, false) :: s.kn }, rfl, h.kn_cons (by simpa using hne), .inr ⟨by simpa using hne, hr⟩⟩

end Go.Eng
