/-
  Parts of the engine, a program's symbolic run, proved sound; and of plain laws.
-/
import Derived.Test.YtppkkgicidagmabGreatDoorGu6
import Derived.RangeFuncRecord
import Derived.RangeFuncNested
import Derived.RecoverIn
import Derived.Below
import Derived.ChangeSame
set_option linter.unusedVariables false
set_option linter.unusedSimpArgs false

/-!  -/
noncomputable section
namespace Go.Eng
structure Agn (n : Nat) (ρ ρ' : Env) : Prop where
 i : ∀ j, j < n → ρ'.i j = ρ.i j
 f : ρ'.f = ρ.f
 v : ρ'.v = ρ.v
 ro : ρ'.ro = ρ.ro
 pr : ρ'.pr = ρ.pr
theorem Agn.refl (n : Nat) (ρ : Env) : Agn n ρ ρ := ⟨fun _ _ => rfl, rfl, rfl, rfl, rfl⟩
theorem Agn.trans {n : Nat} {ρ ρ1 ρ2 : Env} (h : Agn n ρ ρ1) (k : Agn n ρ1 ρ2) : Agn n ρ ρ2 :=
 ⟨fun j hj => (k.i j hj).trans (h.i j hj), k.f.trans h.f, k.v.trans h.v, k.ro.trans h.ro, k.pr.trans h.pr⟩
theorem Agn.mono {n m : Nat} {ρ ρ' : Env} (h : Agn n ρ ρ') (hm : m ≤ n) : Agn m ρ ρ' := ⟨fun j hj => h.i j (by omega), h.f, h.v, h.ro, h.pr⟩
theorem Agn.symm {n : Nat} {ρ ρ' : Env} (h : Agn n ρ ρ') : Agn n ρ' ρ := ⟨fun j hj => (h.i j hj).symm, h.f.symm, h.v.symm, h.ro.symm, h.pr.symm⟩
def E.vb (n : Nat) : E → Bool
 | .c _ => true
 | .v i => Nat.blt i n
 | .b _ _ x y => x.vb n && y.vb n
 | .w _ x => x.vb n
 | .nt x => x.vb n
 | .ite t x y => t.vb n && x.vb n && y.vb n
 | .f _ x y z => x.vb n && y.vb n && z.vb n
 | .cl i _ _ => Nat.blt i n
theorem E.vb_ev {ρ ρ' : Env} {n : Nat} (ha : Agn n ρ ρ') : ∀ (e : E), e.vb n = true → e.ev ρ' = e.ev ρ := by
 intro e
 induction e with
 | c m => intro _; rfl
 | v i => intro h; exact ha.i i (by simpa [E.vb] using h)
 | b o k x y hx hy => intro h; simp only [E.vb, Bool.and_eq_true] at h; simp only [E.ev, hx h.1, hy h.2]
 | w k x hx => intro h; simp only [E.ev, hx h]
 | nt x hx => intro h; simp only [E.ev, hx h]
 | ite t x y ht hx hy => intro h; simp only [E.vb, Bool.and_eq_true] at h; simp only [E.ev, ht h.1.1, hx h.1.2, hy h.2]
 | f m x y z hx hy hz => intro h; simp only [E.vb, Bool.and_eq_true] at h; simp only [E.ev, hx h.1.1, hy h.1.2, hz h.2, ha.f]
 | cl i l h => intro h; simp only [E.ev, ha.i i (by simpa [E.vb] using h)]
theorem cutOf_vb {c e : E} {n : Nat} (h : qKy c = some e) (hv : c.vb n = true) : e.vb n = true := by
 unfold qKy at h
 split at h
 ·cases h
  simp only [E.vb, Bool.and_eq_true] at hv
  exact hv.1.1
 ·cases h
theorem E.vb_mono {n m : Nat} (hm : n ≤ m) : ∀ (e : E), e.vb n = true → e.vb m = true := by
 intro e
 induction e with
 | c _ => intro _; rfl
 | v i => intro h; simp only [E.vb, Nat.blt_eq] at *; omega
 | b o k x y hx hy => intro h; simp only [E.vb, Bool.and_eq_true] at *; exact ⟨hx h.1, hy h.2⟩
 | w k x hx => intro h; exact hx h
 | nt x hx => intro h; exact hx h
 | ite t x y ht hx hy => intro h; simp only [E.vb, Bool.and_eq_true] at *; exact ⟨⟨ht h.1.1, hx h.1.2⟩, hy h.2⟩
 | f m x y z hx hy hz => intro h; simp only [E.vb, Bool.and_eq_true] at *; exact ⟨⟨hx h.1.1, hy h.1.2⟩, hz h.2⟩
 | cl i l h => intro h; simp only [E.vb, Nat.blt_eq] at *; omega
def optVb (n : Nat) : Option E → Bool
 | none => true
 | some e => e.vb n
mutual
def SV.vb (n : Nat) : SV → Bool
 | .int _ e => e.vb n
 | .bool e => e.vb n
 | .func _ a c => SV.vbL n a && SV.vbL n c
 | .iface _ x => x.vb n
 | .agg l => SV.vbL n l
 | .tup l => SV.vbL n l
 | .str e => e.vb n
 | .sl _ _ o l c => o.vb n && l.vb n && optVb n c
 | .ep _ _ i _ => i.vb n
 | .cp _ _ _ _ i _ => i.vb n
 | _ => true
def SV.vbL (n : Nat) : List SV → Bool
 | [] => true
 | x :: l => x.vb n && SV.vbL n l
end
mutual
theorem SV.vb_den {ρ ρ' : Env} {n : Nat} (ha : Agn n ρ ρ') (β : Bt) : ∀ (x : SV), x.vb n = true → x.den ρ' β = x.den ρ β
 | .int k e, h => by simp only [SV.den, E.vb_ev ha e h]
 | .bool e, h => by simp only [SV.den, E.vb_ev ha e h]
 | .func fn a c, h => by simp only [SV.vb, Bool.and_eq_true] at h; simp only [SV.den, SV.vbL_den ha β a h.1, SV.vbL_den ha β c h.2]
 | .iface t x, h => by simp only [SV.vb] at h; simp only [SV.den, SV.vb_den ha β x h]
 | .agg l, h => by simp only [SV.vb] at h; simp only [SV.den, SV.vbL_den ha β l h]
 | .tup l, h => by simp only [SV.vb] at h; simp only [SV.den, SV.vbL_den ha β l h]
 | .any i, _ => by simp only [SV.den, ha.v]
 | .str e, h => by simp only [SV.den, E.vb_ev ha e h]
 | .sl (.own j) z o l none, h => by simp only [SV.vb, Bool.and_eq_true] at h; simp only [SV.den, E.vb_ev ha o h.1.1, E.vb_ev ha l h.1.2]
 | .sl (.own j) z o l (some c), h => by
  simp only [SV.vb, Bool.and_eq_true, optVb] at h
  simp only [SV.den, E.vb_ev ha o h.1.1, E.vb_ev ha l h.1.2, E.vb_ev ha c h.2]
  cases hq : qKy c with
  | none => rfl
  | some e => simp only [E.vb_ev ha e (cutOf_vb hq h.2)]
 | .sl (.inp j) z o l none, h => by simp only [SV.vb, Bool.and_eq_true] at h; simp only [SV.den, E.vb_ev ha o h.1.1, E.vb_ev ha l h.1.2, ha.ro]
 | .sl (.inp j) z o l (some c), h => by simp only [SV.vb, Bool.and_eq_true, optVb] at h; simp only [SV.den, E.vb_ev ha o h.1.1, E.vb_ev ha l h.1.2, E.vb_ev ha c h.2, ha.ro]
 | .ep (.own j) z i f, h => by simp only [SV.vb] at h; simp only [SV.den, E.vb_ev ha i h]
 | .ep (.inp j) z i f, h => by simp only [SV.vb] at h; simp only [SV.den, E.vb_ev ha i h, ha.ro]
 | .cp j b z l i _, h => by simp only [SV.vb] at h; simp only [SV.den, E.vb_ev ha i h]
 | .ptr _ _, _ | .lit _, _ | .slice _ _ _ _, _ | .wild _, _ | .yld _, _ | .mp _, _ => rfl
theorem SV.vbL_den {ρ ρ' : Env} {n : Nat} (ha : Agn n ρ ρ') (β : Bt) : ∀ (l : List SV), SV.vbL n l = true → SV.denL ρ' β l = SV.denL ρ β l
 | [], _ => rfl
 | x :: l, h => by simp only [SV.vbL, Bool.and_eq_true] at h; simp only [SV.denL, SV.vb_den ha β x h.1, SV.vbL_den ha β l h.2]
end
def SBlk.vb (n : Nat) : SBlk → Bool
 | .gone => true
 | .cells l _ _ => SV.vbL n l
 | .arr _ _ q m => q.vb n && m.vb n
 | .rcd _ _ l _ _ => SV.vbL n l
 | .map _ _ q m => q.vb n && m.vb n
theorem SBlk.vb_ok {ρ ρ' : Env} {n : Nat} (ha : Agn n ρ ρ') {β : Bt} {q : Nat} {b : SBlk} {o : Option Obj} (hb : b.vb n = true) (h : qZw ρ β q b o) : qZw ρ' β q b o := by
 cases b with
 | gone => trivial
 | cells l e op => simp only [SBlk.vb] at hb; simp only [qZw, SV.vbL_den ha β l hb] at h ⊢; exact h
 | arr cks e c m => simp only [SBlk.vb, Bool.and_eq_true] at hb; simp only [qZw, E.vb_ev ha c hb.1, E.vb_ev ha m hb.2] at h ⊢; exact h
 | map k e c m => simp only [SBlk.vb, Bool.and_eq_true] at hb; simp only [qZw, E.vb_ev ha c hb.1, E.vb_ev ha m hb.2] at h ⊢; exact h
 | rcd f o l st p => simp only [SBlk.vb] at hb; simp only [qZw, SV.vbL_den ha β l hb, ha.pr] at h ⊢; exact h
def blVb (n : Nat) (l : List SBlk) : Bool := l.all (·.vb n)
def knVb (n : Nat) (l : List (E × Bool)) : Bool := l.all (·.1.vb n)
theorem Sat.agn {ρ ρ' : Env} {n : Nat} (ha : Agn n ρ ρ') {β : Bt} {s : St} {w : World} (hb : blVb n s.bl = true) (hk : knVb n s.kn = true) (h : Sat ρ β s w) : Sat ρ' β s w :=
 ⟨fun j b hj => SBlk.vb_ok ha (List.all_eq_true.1 hb b (List.mem_of_getElem? hj)) (h.blk j b hj), h.inj,
  fun e b hm => by
   have := List.all_eq_true.1 hk _ hm
   rw [E.vb_ev ha e this]
   exact h.kn e b hm, fun k a i x h1 h2 => by rw [ha.ro] at h1 h2 ⊢; exact h.ro k a i x h1 h2⟩
def Cx.okB (cx : Cx) (n : Nat) : Bool := Nat.ble cx.Γ.length n && cx.ins.all fun d => d.c.vb n && d.n.vb n && d.cap.vb n
theorem EnvOk.agn {cx : Cx} {ρ ρ' : Env} {n : Nat} (hn : cx.okB n = true) (hρ : EnvOk cx ρ) (ha : Agn n ρ ρ') : EnvOk cx ρ' := by
 unfold Cx.okB at hn
 simp only [Bool.and_eq_true] at hn
 have hl := Nat.le_of_ble_eq_true hn.1
 refine ⟨fun i p h => ?_, fun n p x y z h => ?_, fun i => ?_, ?_, ?_, fun k d hd => ?_⟩
 ·rw [ha.i i (Nat.lt_of_lt_of_le (List.getElem?_eq_some_iff.1 h).1 hl)]; exact hρ.hi i p h
 ·rw [ha.f]; exact hρ.hf n p x y z h
 ·rw [ha.v]; exact hρ.hv i
 ·rw [ha.f]; exact hρ.hF
 ·rw [ha.pr]; exact hρ.hP
 ·have hv := List.all_eq_true.1 hn.2 d (List.mem_of_getElem? hd)
  simp only [Bool.and_eq_true] at hv
  rw [ha.ro, E.vb_ev ha _ hv.1.1, E.vb_ev ha _ hv.1.2, E.vb_ev ha _ hv.2]
  exact hρ.hro k d hd
structure Lp where
 base : Nat
 bds : List (Option (Int × Int))
 init : List E
 xid : Nat
 deriving Inhabited
inductive TB where
 | back (l : List E)
 | exit (n : Nat)
 | br (e : E) (t f : TB)
 | bad (n : Nat)
 | new (i : Nat) (e : E) (t : TB)
 | loop (L : Lp) (body rest : TB)
inductive TT (α : Type) where
 | leaf (a : α)
 | br (e : E) (t f : TT α)
 | bad (n : Nat)
 | new (i : Nat) (e : E) (t : TT α)
 | loop (L : Lp) (body : TB) (rest : TT α)
def Lp.vals (L : Lp) (ρ : Env) : List Int := (List.range L.bds.length).map fun k => ρ.i (L.base + k)
def inBd : List (Option (Int × Int)) → List Int → Prop
 | [], [] => True
 | p :: l, x :: m => inIv x p ∧ inBd l m
 | _, _ => False
theorem qXu : ∀ {l : List (Option (Int × Int))} {m : List Int}, inBd l m → l.length = m.length ∧ ∀ (k : Nat) p x, l[k]? = some p → m[k]? = some x → inIv x p
 | [], [], _ => ⟨rfl, fun k p x h => by simp at h⟩
 | p :: l, x :: m, h => by
  obtain ⟨h1, h2⟩ := qXu h.2
  refine ⟨by simp [h1], fun k q y hq hy => ?_⟩
  cases k with
  | zero => simp at hq hy; subst hq; subst hy; exact h.1
  | succ k => exact h2 k q y (by simpa using hq) (by simpa using hy)
 | [], _ :: _, h => by cases h
 | _ :: _, [], h => by cases h
inductive Chain (sb : Env → Option (List Int ⊕ Nat)) (L : Lp) (ρ : Env) : List Int → Prop where
 | last {n : Nat} : sb ρ = some (.inr n) → ρ.i L.xid = n → Chain sb L ρ (L.vals ρ)
 | step {σ' : List Int} (ρ' : Env) : Agn L.base ρ ρ' → sb ρ' = some (.inl σ') → Chain sb L ρ σ' → Chain sb L ρ (L.vals ρ')
open Classical in
def TB.sel : TB → Env → Option (List Int ⊕ Nat)
 | .back l, ρ => some (.inl (l.map (E.ev ρ)))
 | .exit n, _ => some (.inr n)
 | .br e t f, ρ => if e.ev ρ ≠ 0 then t.sel ρ else f.sel ρ
 | .bad _, _ => none
 | .new i e t, ρ => if ρ.i i = e.ev ρ then t.sel ρ else none
 | .loop L body rest, ρ => if Chain (fun ρ' => body.sel ρ') L ρ (L.init.map (E.ev ρ)) then rest.sel ρ else none
open Classical in
def TT.sel {α : Type} : TT α → Env → Option α
 | .leaf a, _ => some a
 | .br e t f, ρ => if e.ev ρ ≠ 0 then t.sel ρ else f.sel ρ
 | .bad _, _ => none
 | .new i e t, ρ => if ρ.i i = e.ev ρ then t.sel ρ else none
 | .loop L body rest, ρ => if Chain (fun ρ' => body.sel ρ') L ρ (L.init.map (E.ev ρ)) then rest.sel ρ else none
def TT.bind {α γ : Type} : TT α → (α → TT γ) → TT γ
 | .leaf a, f => f a
 | .br e t u, f => .br e (t.bind f) (u.bind f)
 | .bad n, _ => .bad n
 | .new i e t, f => .new i e (t.bind f)
 | .loop L b r, f => .loop L b (r.bind f)
theorem TT.sel_bind {α γ : Type} (ρ : Env) (t : TT α) (f : α → TT γ) : (t.bind f).sel ρ = (t.sel ρ).bind fun a => (f a).sel ρ := by
 induction t with
 | leaf a => rfl
 | br e t u ht hu => simp only [TT.bind, TT.sel]; split <;> assumption
 | bad n => rfl
 | new i e t ht => simp only [TT.bind, TT.sel]; split <;> first | assumption | rfl
 | loop L b r hr => simp only [TT.bind, TT.sel]; split <;> first | assumption | rfl
theorem TT.sel_bind_some {α γ : Type} {ρ : Env} {t : TT α} {f : α → TT γ} {c : γ} (h : (t.bind f).sel ρ = some c) : ∃ a, t.sel ρ = some a ∧ (f a).sel ρ = some c := by
 rw [TT.sel_bind] at h
 exact Option.bind_eq_some_iff.1 h
def T.lift {α : Type} : T α → TT α
 | .leaf a => .leaf a
 | .br e t f => .br e t.lift f.lift
 | .bad n => .bad n
 | .new i e t => .new i e t.lift
theorem T.lift_sel {α : Type} (ρ : Env) : ∀ (t : T α), t.lift.sel ρ = t.sel ρ
 | .leaf a => rfl
 | .br e t f => by simp only [T.lift, TT.sel, T.sel, T.lift_sel ρ t, T.lift_sel ρ f]
 | .bad n => rfl
 | .new i e t => by simp only [T.lift, TT.sel, T.sel, T.lift_sel ρ t]
def TT.top {α : Type} : TT α → Nat → Nat
 | .leaf _, n => n
 | .br _ t f, n => f.top (t.top n)
 | .bad _, n => n
 | .new i _ t, n => t.top (Nat.max n i)
 | .loop L _ r, n => r.top (Nat.max n L.xid)
def forkT {α : Type} (s : St) (e : E) (t f : St → TT α) : TT α :=
 match e with
 | .c n => if n ≠ 0 then t s else f s
 | e =>
  match knows s e with
  | some true => t s
  | some false => f s
  | none => .br e (t { s with kn := (e, true) :: s.kn }) (f { s with kn := (e, false) :: s.kn })
theorem forkT_ok {ρ : Env} {β : Bt} {s : St} {w : World} (h : Sat ρ β s w) {α : Type} {e : E} {t f : St → TT α} {r : α} (hr : (forkT s e t f).sel ρ = some r) :
  ∃ s1, s1.bl = s.bl ∧ Sat ρ β s1 w ∧ ((e.ev ρ ≠ 0 ∧ (t s1).sel ρ = some r) ∨ (e.ev ρ = 0 ∧ (f s1).sel ρ = some r)) := by
 unfold forkT at hr
 split at hr
 ·rename_i n
  split at hr
  ·exact ⟨s, rfl, h, .inl ⟨by assumption, hr⟩⟩
  ·rename_i hn
   exact ⟨s, rfl, h, .inr ⟨by simpa [E.ev] using hn, hr⟩⟩
 ·split at hr
  ·rename_i hk
   have := knows_ok h hk
   exact ⟨s, rfl, h, .inl ⟨by simpa using this, hr⟩⟩
  ·rename_i hk
   have := knows_ok h hk
   exact ⟨s, rfl, h, .inr ⟨by simpa using this, hr⟩⟩
  ·simp only [TT.sel] at hr
   split at hr
   ·rename_i hne
    exact ⟨{ s with kn := (e, true) :: s.kn }, rfl, h.kn_cons (by simpa using hne), .inl ⟨hne, hr⟩⟩
   ·rename_i hne
    exact ⟨{ s with kn := (e, false) :: s.kn }, rfl, h.kn_cons (by simpa using hne), .inr ⟨by simpa using hne, hr⟩⟩
end Go.Eng
end

/-!  -/
noncomputable section
set_option linter.unusedSectionVars false
namespace Go.Eng
inductive Tgt where
 | idx (j : Nat)
 | nil
 | conc (j : Nat) (q n : E) (c : Option Nat)
 | val (x : SV)
structure Ab where
 base : Nat
 bds : List (Option (Int × Int))
 es : List E
 mp : List (Nat × Tgt)
def lookT : List (Nat × Tgt) → Nat → Tgt
 | [], j => .idx j
 | (i, t) :: l, j => if i == j then t else lookT l j
def bdEq (p : Option (Int × Int)) (l h : Int) : Bool := match p with
 | some p => p.1 == l && p.2 == h
 | none => false
def E.sbN (b : Nat) (es : List E) : E → E
 | .c n => .c n
 | .v i => (match Nat.ble b i with
  | true => es.getD (i - b) (.c 0)
  | false => .v i)
 | .b o k x y => .b o k (x.sbN b es) (y.sbN b es)
 | .w k x => (match x.sbN b es with
  | .c n => .c (k.wrap n)
  | x => .w k x)
 | .nt x => .nt (x.sbN b es)
 | .ite t x y => .ite (t.sbN b es) (x.sbN b es) (y.sbN b es)
 | .f n x y z => (match n with
  | 13 => E.rdA (x.sbN b es) (y.sbN b es)
  | n => .f n (x.sbN b es) (y.sbN b es) (z.sbN b es))
 | .cl i l h => .cl i l h
def E.okN (b m : Nat) : E → Bool
 | .c _ => true
 | .v i => Nat.blt i (b + m)
 | .b _ _ x y => x.okN b m && y.okN b m
 | .w _ x => x.okN b m
 | .nt x => x.okN b m
 | .ite t x y => t.okN b m && x.okN b m && y.okN b m
 | .f _ x y z => x.okN b m && y.okN b m && z.okN b m
 | .cl i _ _ => Nat.blt i b
theorem E.rdA_evL {ρ : Env} (hL : ∀ n x y z, 10 < n → n < 30 → ρ.f n x y z = fL n x y z) (q ix : E) : (E.rdA q ix).ev ρ = rdZ (q.ev ρ) (ix.ev ρ) := by
 have h13 : ∀ q ix : E, (E.f 13 q ix (.c 0)).ev ρ = rdZ (q.ev ρ) (ix.ev ρ) := fun q ix => by
  simp only [E.ev, hL 13 _ _ _ (by omega) (by omega)]; rfl
 fun_induction E.rdA q ix with
 | case1 ix x q' z hk =>
  rw [qZi hk]
  simp only [E.ev, hL 11 _ _ _ (by omega) (by omega), fL]; exact (qQy _ _).symm
 | case2 ix x q' z n hk h0 h1 ih =>
  rw [ih, qZi hk]
  simp only [E.ev, hL 11 _ _ _ (by omega) (by omega), fL]; exact (qQh _ _ h1).symm
 | case3 ix x q' z n hk h0 h1 => exact h13 _ _
 | case4 ix x q' z hk => exact h13 _ _
 | case5 ix q' jx x hb =>
  have := E.eq_of_beq hb
  subst this
  simp only [E.ev, hL 14 _ _ _ (by omega) (by omega), fL, qZr, if_true]
 | case6 ix q' jx x hb m n h1 h2 h3 =>
  rw [qZi h1, qZi h2]
  simp only [E.ev, hL 14 _ _ _ (by omega) (by omega), fL, qZr, h3, if_true]
 | case7 ix q' jx x hb m n h1 h2 h3 ih =>
  rw [ih, qZi h1, qZi h2]
  simp only [E.ev, hL 14 _ _ _ (by omega) (by omega), fL, qZr, Ne.symm h3, if_false]
 | case8 => exact h13 _ _
 | case9 => simp only [E.ev, rdZ_nil]
 | case10 => exact h13 _ _
def Ab.ckE (a : Ab) (eH e : E) : Bool :=
 match eH with
 | .cl i l h => (match Nat.ble a.base i with
  | true => (match a.es[i - a.base]?, a.bds[i - a.base]? with
   | some x, some p => x.beq e && bdEq p l h
   | _, _ => false)
  | false => eH.beq e)
 | .v i => (match Nat.ble a.base i with
  | true => (match a.es[i - a.base]? with
   | some x => x.beq e
   | none => false)
  | false => eH.beq e)
 | eH => (eH.beq e && eH.vb a.base) || (eH.okN a.base a.es.length && (eH.sbN a.base a.es).beq e)
def Ab.ckP (a : Ab) : Option E → Option E → Bool
 | none, none => true
 | some x, some y => a.ckE x y
 | _, _ => false
def Ab.ckO (a : Ab) : Option E → Option E → Bool
 | none, none => true
 | some x, some y => (match qKy x, qKy y with
  | none, none => a.ckE x y
  | some e, some e' => a.ckE e e'
  | _, _ => false)
 | _, _ => false
def Tgt.isIdx (t : Tgt) (j : Nat) : Bool := match t with
 | .idx i => i == j
 | _ => false
def Ab.ckB (a : Ab) : Bs → Bs → Bool
 | .own i, .own j => (lookT a.mp i).isIdx j
 | .inp i, .inp j => i == j
 | _, _ => false
mutual
def Ab.ck (a : Ab) : SV → SV → Bool
 | .wild i, y => (match lookT a.mp i with
  | .val x => x.beq y
  | .idx j => (match y with
   | .wild k => k == j
   | _ => false)
  | _ => false)
 | .int k e, .int k' e' => decide (k = k') && a.ckE e e'
 | .bool e, .bool e' => a.ckE e e'
 | .ptr i o, .ptr j o' => (lookT a.mp i).isIdx j && o == o'
 | .yld i, .yld j => (lookT a.mp i).isIdx j
 | .mp i, .mp j => (lookT a.mp i).isIdx j
 | .lit v, .lit v' => vbeq v v'
 | .any i, .any j => i == j
 | .slice i o l c, .slice j o' l' c' => (lookT a.mp i).isIdx j && o == o' && l == l' && decide (c = c')
 | .func f x c, .func f' x' c' => Fn.beq f f' && a.ckL x x' && a.ckL c c'
 | .iface t x, .iface t' x' => t == t' && a.ck x x'
 | .agg l, .agg l' => a.ckL l l'
 | .tup l, .tup l' => a.ckL l l'
 | .str e, .str e' => a.ckE e e'
 | .str e, .lit (.string b) => decide (b.size ≤ 1000000) && a.ckE e (strLit b)
 | .sl (.own i) z o l q, y => (match lookT a.mp i, y with
  | .nil, .lit (.slice none 0 0) => a.ckE l (.c 0) && (match q with
   | none => true
   | _ => false)
  | .conc j _ n c, .slice j' 0 m c' => j == j' && isZero o && a.ckE l n && n.beq (.c m) && decide (c = c') && (match q with
   | none => true
   | _ => false)
  | .idx j, .sl (.own j') z' o' l' q' => j == j' && z == z' && a.ckE o o' && a.ckE l l' && a.ckO q q'
  | _, _ => false)
 | .sl (.inp i) z o l q, .sl (.inp j) z' o' l' q' => i == j && z == z' && a.ckE o o' && a.ckE l l' && a.ckP q q'
 | .ep b z i f, .ep b' z' i' f' => a.ckB b b' && z == z' && a.ckE i i' && f == f'
 | .cp i b z l e f, .cp j b' z' l' e' f' => (lookT a.mp i).isIdx j && b == b' && z == z' && l == l' && f == f' && a.ckE e e'
 | _, _ => false
def Ab.ckL (a : Ab) : List SV → List SV → Bool
 | [], [] => true
 | x :: l, y :: m => a.ck x y && a.ckL l m
 | _, _ => false
end
def Ab.β (a : Ab) (ρ : Env) (β : Bt) : Bt := fun i => match lookT a.mp i with
 | .idx j => β j
 | .nil => (0, 0, .nilIface)
 | .conc j _ _ c => ((β j).1, c.getD (β j).2.1 + 1, .nilIface)
 | .val x => (0, 0, x.den ρ β)
section
variable {a : Ab} {ρ ρ' : Env} {β : Bt} (hfl : ∀ n x y z, 10 < n → n < 30 → ρ.f n x y z = fL n x y z) (hag : Agn a.base ρ ρ') (hv : (List.range a.bds.length).map (fun k => ρ'.i (a.base + k)) = a.es.map (E.ev ρ)) (hb : inBd a.bds (a.es.map (E.ev ρ)))
include hfl hag hv hb
theorem Ab.name {k : Nat} {x : E} (hx : a.es[k]? = some x) : ρ'.i (a.base + k) = x.ev ρ := by
 have hl := (qXu hb).1
 have hk : k < a.bds.length := by
  have := (List.getElem?_eq_some_iff.1 hx).1
  simp at hl; omega
 have h1 : ((List.range a.bds.length).map (fun k => ρ'.i (a.base + k)))[k]? = some (ρ'.i (a.base + k)) := by simp [hk]
 rw [hv, List.getElem?_map, hx] at h1
 exact (Option.some.inj h1).symm
theorem Ab.sbN_ev : ∀ (e : E), e.okN a.base a.es.length = true → (e.sbN a.base a.es).ev ρ = e.ev ρ' := by
 intro e
 induction e with
 | c n => intro _; rfl
 | v i =>
  intro h
  simp only [E.okN, Nat.blt_eq] at h
  simp only [E.sbN]
  split
  ·rename_i hi
   have hi := Nat.le_of_ble_eq_true hi
   have hx : a.es[i - a.base]? = some (a.es[i - a.base]'(by omega)) := List.getElem?_eq_getElem (by omega)
   have hn := Ab.name hfl hag hv hb hx
   rw [show a.base + (i - a.base) = i by omega] at hn
   rw [List.getD_eq_getElem?_getD, hx, Option.getD_some]
   simp only [E.ev, hn]
  ·rename_i hi
   have : i < a.base := by
    rcases Nat.lt_or_ge i a.base with h1 | h1
    ·exact h1
    ·rw [Nat.ble_eq_true_of_le h1] at hi; cases hi
   simp only [E.ev, hag.i i this]
 | b o k x y hx hy => intro h; simp only [E.okN, Bool.and_eq_true] at h; simp only [E.sbN, E.ev, hx h.1, hy h.2]
 | w k x hx =>
  intro h
  have := hx h
  simp only [E.sbN]
  split
  ·rename_i n hn
   rw [hn] at this
   simp only [E.ev] at this ⊢
   rw [this]
  ·simp only [E.ev, this]
 | nt x hx => intro h; simp only [E.sbN, E.ev, hx h]
 | ite t x y ht hx hy => intro h; simp only [E.okN, Bool.and_eq_true] at h; simp only [E.sbN, E.ev, ht h.1.1, hx h.1.2, hy h.2]
 | f n x y z hx hy hz =>
  intro h
  simp only [E.okN, Bool.and_eq_true] at h
  simp only [E.sbN]
  split
  ·rw [E.rdA_evL hfl, hx h.1.1, hy h.1.2]
   simp only [E.ev, hag.f, hfl 13 _ _ _ (by omega) (by omega)]; rfl
  ·simp only [E.ev, hx h.1.1, hy h.1.2, hz h.2, hag.f]
 | cl i l h => intro h; simp only [E.okN, Nat.blt_eq] at h; simp only [E.sbN, E.ev, hag.i i h]
theorem Ab.ckE_ok {eH e : E} (h : a.ckE eH e = true) : eH.ev ρ' = e.ev ρ := by
 unfold Ab.ckE at h
 split at h
 ·rename_i i l h'
  split at h
  ·rename_i hi
   have hi := Nat.le_of_ble_eq_true hi
   split at h
   ·rename_i x p hx hp
    simp only [Bool.and_eq_true] at h
    have := E.eq_of_beq h.1
    subst this
    have hn := Ab.name hfl hag hv hb hx
    rw [show a.base + (i - a.base) = i by omega] at hn
    have hin := (qXu hb).2 (i - a.base) p (x.ev ρ) hp (by rw [List.getElem?_map, hx]; rfl)
    unfold bdEq at h
    split at h
    ·rename_i q
     simp only [Bool.and_eq_true, beq_iff_eq] at h
     obtain ⟨rfl, rfl⟩ := h.2
     simp only [E.ev, hn]
     exact clampZ_in hin.1 hin.2
    ·simp at h
   ·cases h
  ·rename_i hi
   have := E.eq_of_beq h
   subst this
   have : i < a.base := by
    rcases Nat.lt_or_ge i a.base with h1 | h1
    ·exact h1
    ·rw [Nat.ble_eq_true_of_le h1] at hi; cases hi
   simp only [E.ev, hag.i i this]
 ·rename_i i
  split at h
  ·rename_i hi
   have hi := Nat.le_of_ble_eq_true hi
   split at h
   ·rename_i x hx
    have := E.eq_of_beq h
    subst this
    have hn := Ab.name hfl hag hv hb hx
    rw [show a.base + (i - a.base) = i by omega] at hn
    exact hn
   ·cases h
  ·rename_i hi
   have := E.eq_of_beq h
   subst this
   have : i < a.base := by
    rcases Nat.lt_or_ge i a.base with h1 | h1
    ·exact h1
    ·rw [Nat.ble_eq_true_of_le h1] at hi; cases hi
   simp only [E.ev, hag.i i this]
 ·simp only [Bool.or_eq_true, Bool.and_eq_true] at h
  rcases h with h | h
  ·have := E.eq_of_beq h.1
   subst this
   exact E.vb_ev hag _ h.2
  ·rw [← E.eq_of_beq h.2, Ab.sbN_ev hfl hag hv hb _ h.1]
omit hfl hag hv hb in
theorem Ab.isIdx_ok {i j : Nat} (h : (lookT a.mp i).isIdx j = true) : a.β ρ β i = β j := by
 unfold Tgt.isIdx at h
 unfold Ab.β
 split at h
 ·rename_i k hk
  rw [hk]; simp at h; subst h; rfl
 ·cases h
mutual
theorem Ab.ck_ok : ∀ (x y : SV), a.ck x y = true → x.den ρ' (a.β ρ β) = y.den ρ β
 | .wild i, y, h => by
  simp only [Ab.ck] at h
  split at h
  ·rename_i x hx
   have := SV.eq_of_beq _ _ h
   subst this
   simp only [SV.den, Ab.β, hx]
  ·rename_i j hj
   split at h
   ·rename_i k
    simp at h
    subst h
    simp only [SV.den, Ab.β, hj]
   ·cases h
  ·cases h
 | .int k e, y, h => by
  cases y <;> simp only [Ab.ck] at h <;> try (cases h; done)
  simp only [Bool.and_eq_true, decide_eq_true_eq] at h
  simp only [SV.den, h.1, Ab.ckE_ok hfl hag hv hb h.2]
 | .bool e, y, h => by
  cases y <;> simp only [Ab.ck] at h <;> try (cases h; done)
  simp only [SV.den, Ab.ckE_ok hfl hag hv hb h]
 | .ptr i o, y, h => by
  cases y <;> simp only [Ab.ck] at h <;> try (cases h; done)
  simp only [Bool.and_eq_true, beq_iff_eq] at h
  simp only [SV.den, Ab.isIdx_ok h.1, h.2]
 | .yld i, y, h => by
  cases y <;> simp only [Ab.ck] at h <;> try (cases h; done)
  simp only [SV.den, Ab.isIdx_ok h]
 | .mp i, y, h => by
  cases y <;> simp only [Ab.ck] at h <;> try (cases h; done)
  simp only [SV.den, Ab.isIdx_ok h]
 | .lit v, y, h => by
  cases y <;> simp only [Ab.ck] at h <;> try (cases h; done)
  simp only [SV.den, vbeq_eq h]
 | .any i, y, h => by
  cases y <;> simp only [Ab.ck] at h <;> try (cases h; done)
  simp only [beq_iff_eq] at h
  simp only [SV.den, h, hag.v]
 | .slice i o l c, y, h => by
  cases y <;> simp only [Ab.ck] at h <;> try (cases h; done)
  simp only [Bool.and_eq_true, beq_iff_eq, decide_eq_true_eq] at h
  simp only [SV.den, Ab.isIdx_ok h.1.1.1, h.1.1.2, h.1.2, h.2]
 | .func f x c, y, h => by
  cases y <;> simp only [Ab.ck] at h <;> try (cases h; done)
  simp only [Bool.and_eq_true] at h
  simp only [SV.den, Fn.eq_of_beq h.1.1, Ab.ckL_ok _ _ h.1.2, Ab.ckL_ok _ _ h.2]
 | .iface t x, y, h => by
  cases y <;> simp only [Ab.ck] at h <;> try (cases h; done)
  simp only [Bool.and_eq_true, beq_iff_eq] at h
  simp only [SV.den, h.1, Ab.ck_ok _ _ h.2]
 | .agg l, y, h => by
  cases y <;> simp only [Ab.ck] at h <;> try (cases h; done)
  simp only [SV.den, Ab.ckL_ok _ _ h]
 | .tup l, y, h => by
  cases y <;> simp only [Ab.ck] at h <;> try (cases h; done)
  simp only [SV.den, Ab.ckL_ok _ _ h]
 | .str e, .str e', h => by
  simp only [Ab.ck] at h
  simp only [SV.den, Ab.ckE_ok hfl hag hv hb h]
 | .str e, .lit v, h => by
  cases v <;> simp only [Ab.ck] at h <;> try (cases h; done)
  simp only [Bool.and_eq_true, decide_eq_true_eq] at h
  simp only [SV.den, Ab.ckE_ok hfl hag hv hb h.2]
  rw [strLit_den' (fun x y z => hfl 11 _ _ _ (by omega) (by omega)) h.1]
 | .str e, .int _ _, h => by simp [Ab.ck] at h
 | .str e, .bool _, h => by simp [Ab.ck] at h
 | .str e, .ptr _ _, h => by simp [Ab.ck] at h
 | .str e, .any _, h => by simp [Ab.ck] at h
 | .str e, .slice _ _ _ _, h => by simp [Ab.ck] at h
 | .str e, .func _ _ _, h => by simp [Ab.ck] at h
 | .str e, .iface _ _, h => by simp [Ab.ck] at h
 | .str e, .agg _, h => by simp [Ab.ck] at h
 | .str e, .tup _, h => by simp [Ab.ck] at h
 | .str e, .sl _ _ _ _ _, h => by simp [Ab.ck] at h
 | .str e, .ep _ _ _ _, h => by simp [Ab.ck] at h
 | .str e, .wild _, h => by simp [Ab.ck] at h
 | .str e, .yld _, h => by simp [Ab.ck] at h
 | .str e, .mp _, h => by simp [Ab.ck] at h
 | .str e, .cp _ _ _ _ _ _, h => by simp [Ab.ck] at h
 | .sl (.own i) z o l q, y, h => by
  simp only [Ab.ck] at h
  split at h
  ·rename_i ht
   cases q with
   | some _ => simp at h
   | none =>
    simp only [Bool.and_true] at h
    have := Ab.ckE_ok hfl hag hv hb h
    simp only [SV.den, Ab.β, ht, this, E.ev]
    simp
  ·rename_i j q0 n c m c' ht
   cases q with
   | some _ => simp at h
   | none =>
    simp only [Bool.and_true, Bool.and_eq_true, beq_iff_eq, decide_eq_true_eq] at h
    obtain ⟨⟨⟨⟨rfl, ho⟩, hl⟩, hn⟩, rfl⟩ := h
    have hl := Ab.ckE_ok hfl hag hv hb hl
    have hn := E.eq_of_beq hn
    subst hn
    have ho := qKj ho
    subst ho
    simp only [SV.den, Ab.β, ht, hl, E.ev]
    simp
  ·rename_i j j' z' o' l' q' ht
   simp only [Bool.and_eq_true, beq_iff_eq] at h
   obtain ⟨⟨⟨⟨rfl, rfl⟩, ho⟩, hl⟩, hq⟩ := h
   have ho := Ab.ckE_ok hfl hag hv hb ho
   have hl := Ab.ckE_ok hfl hag hv hb hl
   cases q <;> cases q' <;> simp only [Ab.ckO] at hq <;> try (cases hq; done)
   ·simp only [SV.den, Ab.β, ht, ho, hl]
   ·split at hq
    ·rename_i n1 n2
     have hq := Ab.ckE_ok hfl hag hv hb hq
     simp only [SV.den, Ab.β, ht, ho, hl, hq, n1, n2]
    ·rename_i n1 n2
     have hq := Ab.ckE_ok hfl hag hv hb hq
     simp only [SV.den, Ab.β, ht, ho, hl, hq, n1, n2]
    ·cases hq
  ·cases h
 | .sl (.inp i) z o l q, y, h => by
  cases y with
  | sl b z' o' l' q' =>
   cases b with
   | own j => simp only [Ab.ck] at h; cases h
   | inp j =>
    simp only [Ab.ck, Bool.and_eq_true, beq_iff_eq] at h
    obtain ⟨⟨⟨⟨rfl, rfl⟩, ho⟩, hl⟩, hq⟩ := h
    have ho := Ab.ckE_ok hfl hag hv hb ho
    have hl := Ab.ckE_ok hfl hag hv hb hl
    cases q <;> cases q' <;> simp only [Ab.ckP] at hq <;> try (cases hq; done)
    ·simp only [SV.den, ho, hl, hag.ro]
    ·have hq := Ab.ckE_ok hfl hag hv hb hq
     simp only [SV.den, ho, hl, hq, hag.ro]
  | _ => simp only [Ab.ck] at h; cases h
 | .ep b z i f, y, h => by
  cases y with
  | ep b' z' i' f' =>
   simp only [Ab.ck, Bool.and_eq_true, beq_iff_eq] at h
   obtain ⟨⟨⟨hb', rfl⟩, hi⟩, rfl⟩ := h
   have hi := Ab.ckE_ok hfl hag hv hb hi
   cases b <;> cases b' <;> simp only [Ab.ckB] at hb' <;> try (cases hb'; done)
   ·simp only [SV.den, hi, Ab.isIdx_ok hb']
   ·simp only [beq_iff_eq] at hb'
    simp only [SV.den, hi, hb', hag.ro]
  | _ => simp only [Ab.ck] at h; cases h
 | .cp i b z l e f, y, h => by
  cases y <;> simp only [Ab.ck] at h <;> try (cases h; done)
  simp only [Bool.and_eq_true, beq_iff_eq] at h
  obtain ⟨⟨⟨⟨⟨h1, rfl⟩, rfl⟩, rfl⟩, rfl⟩, h2⟩ := h
  simp only [SV.den, Ab.isIdx_ok h1, Ab.ckE_ok hfl hag hv hb h2]
theorem Ab.ckL_ok : ∀ (x y : List SV), a.ckL x y = true → SV.denL ρ' (a.β ρ β) x = SV.denL ρ β y
 | [], y, h => by cases y <;> simp only [Ab.ckL] at h <;> first | rfl | cases h
 | x :: l, y, h => by
  cases y <;> simp only [Ab.ckL] at h <;> try (cases h; done)
  simp only [Bool.and_eq_true] at h
  simp only [SV.denL, Ab.ck_ok _ _ h.1, Ab.ckL_ok _ _ h.2]
end
end
def Ab.ckBl (cx : Cx) (a : Ab) (s : St) (i : Nat) : SBlk → Bool
 | .gone => true
 | .cells l e o => (match lookT a.mp i with
  | .idx j => (match s.bl[j]? with
   | some (.cells l' e' o') => a.ckL l l' && e == e' && decide (o = o')
   | _ => false)
  | _ => false)
 | .rcd f o l st p => (match lookT a.mp i with
  | .idx j => (match s.bl[j]? with
   | some (.rcd f' o' l' st' p') => f == f' && o == o' && a.ckL l l' && stBeq st st' && decide (p = p')
   | _ => false)
  | _ => false)
 | .map k e q n => (match lookT a.mp i with
  | .idx j => (match s.bl[j]? with
   | some (.map k' e' q' n') => decide (k = k') && decide (e = e') && a.ckE q q' && a.ckE n n'
   | _ => false)
  | _ => false)
 | .arr k e q n => (match lookT a.mp i with
  | .idx j => (match s.bl[j]? with
   | some (.arr k' e' q' n') => decide (k = k') && e == e' && a.ckE q q' && a.ckE n n'
   | _ => false)
  | .nil => a.ckE n (.c 0)
  | .conc j q' n' c => (match s.bl[j]?, n' with
   | some (.cells l e' o), .c m => a.ckE q q' && a.ckE n n' && e == e' && decide (0 ≤ m) && decide (m.toNat * k.length ≤ l.length) && capOk c o l.length k.length && decide (0 < k.length) &&
     (match chunkP cx k k.length m.toNat (l.take (m.toNat * k.length)) with
     | some es => (qQr es).beq q'
     | none => false)
   | _, _ => false)
  | .val _ => false)
def Ab.ckBls (cx : Cx) (a : Ab) (s : St) : Nat → List SBlk → Bool
 | _, [] => true
 | i, b :: l => a.ckBl cx s i b && a.ckBls cx s (i + 1) l
def tgtOf (a : Ab) (i : Nat) : List Nat := match lookT a.mp i with
 | .idx j => [j]
 | .conc j _ _ _ => [j]
 | _ => []
def tgts (a : Ab) : Nat → List SBlk → List Nat
 | _, [] => []
 | i, .gone :: l => tgts a (i + 1) l
 | i, _ :: l => tgtOf a i ++ tgts a (i + 1) l
def nodupB : List Nat → Bool
 | [] => true
 | x :: l => !l.contains x && nodupB l
theorem Ab.ckBls_get {cx : Cx} {a : Ab} {s : St} : ∀ {l : List SBlk} {i k : Nat} {b : SBlk}, a.ckBls cx s i l = true → l[k]? = some b → a.ckBl cx s (i + k) b = true
 | [], i, k, b, _, hk => by simp at hk
 | x :: l, i, 0, b, h, hk => by
  simp only [Ab.ckBls, Bool.and_eq_true] at h
  simp at hk; subst hk; exact h.1
 | x :: l, i, k + 1, b, h, hk => by
  simp only [Ab.ckBls, Bool.and_eq_true] at h
  have := Ab.ckBls_get h.2 (k := k) (by simpa using hk)
  rwa [show i + 1 + k = i + (k + 1) by omega] at this
theorem tgts_mem {a : Ab} : ∀ {l : List SBlk} {i k : Nat} {b : SBlk} {j : Nat}, l[k]? = some b → b ≠ .gone → j ∈ tgtOf a (i + k) → j ∈ tgts a i l
 | [], i, k, b, j, hk, _, _ => by simp at hk
 | x :: l, i, 0, b, j, hk, hb, hj => by
  simp at hk; subst hk
  cases x <;> first | exact absurd rfl hb | (simp only [tgts, List.mem_append]; exact .inl hj)
 | x :: l, i, k + 1, b, j, hk, hb, hj => by
  have := tgts_mem (i := i + 1) (k := k) (l := l) (by simpa using hk) hb (by rwa [show i + 1 + k = i + (k + 1) by omega])
  cases x <;> simp only [tgts] <;> first | exact this | exact List.mem_append.2 (.inr this)
theorem qXq {l m : List Nat} (h : nodupB (l ++ m) = true) : nodupB m = true ∧ ∀ x ∈ l, x ∉ m := by
 induction l with
 | nil => exact ⟨h, fun x hx => by cases hx⟩
 | cons y l ih =>
  simp only [List.cons_append, nodupB, Bool.and_eq_true] at h
  obtain ⟨h1, h2⟩ := ih h.2
  refine ⟨h1, fun x hx => ?_⟩
  rcases List.mem_cons.1 hx with rfl | hx
  ·intro hm
   have := h.1
   simp [hm] at this
  ·exact h2 x hx
theorem tgts_inj {a : Ab} : ∀ {l : List SBlk} {i : Nat}, nodupB (tgts a i l) = true → ∀ {k k' : Nat} {b b' : SBlk} {j : Nat}, l[k]? = some b → l[k']? = some b' → b ≠ .gone → b' ≠ .gone → j ∈ tgtOf a (i + k) → j ∈ tgtOf a (i + k') → k = k'
 | [], i, _, k, k', b, b', j, hk, _, _, _, _, _ => by simp at hk
 | x :: l, i, h, 0, 0, b, b', j, _, _, _, _, _, _ => rfl
 | x :: l, i, h, k + 1, k' + 1, b, b', j, hk, hk', hb, hb', hj, hj' => by
  have hn : nodupB (tgts a (i + 1) l) = true := by
   cases x <;> simp only [tgts] at h <;> first | exact h | exact (qXq h).1
  have := tgts_inj hn (k := k) (k' := k') (b := b) (b' := b') (j := j) (by simpa using hk) (by simpa using hk') hb hb' (by rwa [show i + 1 + k = i + (k + 1) by omega]) (by rwa [show i + 1 + k' = i + (k' + 1) by omega])
  omega
 | x :: l, i, h, 0, k' + 1, b, b', j, hk, hk', hb, hb', hj, hj' => by
  simp at hk; subst hk
  have hm := tgts_mem (a := a) (i := i + 1) (k := k') (l := l) (b := b') (j := j) (by simpa using hk') hb' (by rwa [show i + 1 + k' = i + (k' + 1) by omega])
  have h2 : j ∉ tgts a (i + 1) l := by
   cases x with
   | gone => exact absurd rfl hb
   | cells _ _ _ => simp only [tgts] at h; exact (qXq h).2 j hj
   | rcd _ _ _ _ _ => simp only [tgts] at h; exact (qXq h).2 j hj
   | arr _ _ _ _ => simp only [tgts] at h; exact (qXq h).2 j hj
   | map _ _ _ _ => simp only [tgts] at h; exact (qXq h).2 j hj
  exact absurd hm h2
 | x :: l, i, h, k + 1, 0, b, b', j, hk, hk', hb, hb', hj, hj' => by
  simp at hk'; subst hk'
  have hm := tgts_mem (a := a) (i := i + 1) (k := k) (l := l) (b := b) (j := j) (by simpa using hk) hb (by rwa [show i + 1 + k = i + (k + 1) by omega])
  have h2 : j ∉ tgts a (i + 1) l := by
   cases x with
   | gone => exact absurd rfl hb'
   | cells _ _ _ => simp only [tgts] at h; exact (qXq h).2 j hj'
   | rcd _ _ _ _ _ => simp only [tgts] at h; exact (qXq h).2 j hj'
   | arr _ _ _ _ => simp only [tgts] at h; exact (qXq h).2 j hj'
   | map _ _ _ _ => simp only [tgts] at h; exact (qXq h).2 j hj'
  exact absurd hm h2
def Ab.check (cx : Cx) (a : Ab) (n0 : Nat) (tmH : List SV) (blH : List SBlk) (tm : List SV) (s : St) : Bool :=
 a.ckL tmH tm && a.ckBls cx s 0 blH && nodupB (tgts a 0 blH) && a.mp.all (fun p => Nat.ble n0 p.1) && Nat.ble n0 blH.length
theorem lookT_lt {n0 : Nat} : ∀ {mp : List (Nat × Tgt)} {j : Nat}, mp.all (fun p => Nat.ble n0 p.1) = true → j < n0 → lookT mp j = .idx j
 | [], _, _, _ => rfl
 | (i, t) :: l, j, h, hj => by
  simp only [List.all_cons, Bool.and_eq_true] at h
  have := Nat.le_of_ble_eq_true h.1
  simp only [lookT]
  rw [if_neg (by simp; omega)]
  exact lookT_lt h.2 hj
theorem check_ok {cx : Cx} {a : Ab} {tmH tm : List SV} {s0 s sH : St} {ρ : Env} (hρ : EnvOk cx ρ) {β0 β : Bt} {w0 w : World} (h : a.check cx s0.bl.length tmH sH.bl tm s = true) (hs : Sat ρ β s w) (hx : Ext s0 s β0 β w0 w) (hb : inBd a.bds (a.es.map (E.ev ρ))) :
  Ext s0 sH β0 (a.β ρ β) w0 w ∧ (∀ i, live (a.β ρ β) sH i → ∃ j, live β s j ∧ (a.β ρ β i).1 = (β j).1) ∧ ∀ ρ', Agn a.base ρ ρ' → (List.range a.bds.length).map (fun k => ρ'.i (a.base + k)) = a.es.map (E.ev ρ) → (∀ e b, (e, b) ∈ sH.kn → (e.ev ρ' != 0) = b) →
   SV.denL ρ' (a.β ρ β) tmH = SV.denL ρ β tm ∧ Sat ρ' (a.β ρ β) sH w := by
 unfold Ab.check at h
 simp only [Bool.and_eq_true] at h
 obtain ⟨⟨⟨⟨hL, hB⟩, hN⟩, hM⟩, hlen⟩ := h
 have hfl : ∀ n x y z, 10 < n → n < 30 → ρ.f n x y z = fL n x y z := fun n x y z h1 h2 => qZu hρ h1 h2 x y z
 have hlen := Nat.le_of_ble_eq_true hlen
 -- a live block of the head stands for a live block
 have hlv : ∀ i, live (a.β ρ β) sH i → ∃ j, j ∈ tgtOf a i ∧ live β s j ∧ (a.β ρ β i).1 = (β j).1 ∧ (i < s0.bl.length → j = i) := by
  rintro i ⟨b, hbi, ho⟩
  have hck := Ab.ckBls_get hB hbi
  rw [Nat.zero_add] at hck
  have hid : i < s0.bl.length → lookT a.mp i = .idx i := lookT_lt hM
  cases b with
  | gone => cases ho
  | cells l e o =>
   simp only [Ab.ckBl] at hck
   split at hck
   ·rename_i j hj
    split at hck
    ·rename_i l' e' o' hsj
     refine ⟨j, by simp [tgtOf, hj], ⟨_, hsj, rfl⟩, by simp [Ab.β, hj], fun hi => ?_⟩
     rw [hid hi] at hj; cases hj; rfl
    ·cases hck
   ·cases hck
  | rcd f o l st p =>
   simp only [Ab.ckBl] at hck
   split at hck
   ·rename_i j hj
    split at hck
    ·rename_i hsj
     refine ⟨j, by simp [tgtOf, hj], ⟨_, hsj, rfl⟩, by simp [Ab.β, hj], fun hi => ?_⟩
     rw [hid hi] at hj; cases hj; rfl
    ·cases hck
   ·cases hck
  | map k e q n =>
   simp only [Ab.ckBl] at hck
   split at hck
   ·rename_i j hj
    split at hck
    ·rename_i hsj
     refine ⟨j, by simp [tgtOf, hj], ⟨_, hsj, rfl⟩, by simp [Ab.β, hj], fun hi => ?_⟩
     rw [hid hi] at hj; cases hj; rfl
    ·cases hck
   ·cases hck
  | arr k e q n =>
   simp only [Ab.ckBl] at hck
   split at hck
   ·rename_i j hj
    split at hck
    ·rename_i k' e' q' n' hsj
     have hbe : a.β ρ β i = β j := by simp [Ab.β, hj]
     refine ⟨j, by simp [tgtOf, hj], ⟨_, hsj, ?_⟩, by rw [hbe], fun hi => ?_⟩
     ·simp only [SBlk.occ] at ho ⊢
      rw [hbe] at ho; exact ho
     ·rw [hid hi] at hj; cases hj; rfl
    ·cases hck
   ·rename_i hj
    simp [SBlk.occ, Ab.β, hj] at ho
   ·rename_i j q' n' c hj
    split at hck
    ·rename_i l e' o m hsj
     refine ⟨j, by simp [tgtOf, hj], ⟨_, hsj, rfl⟩, by simp [Ab.β, hj], fun hi => ?_⟩
     rw [hid hi] at hj; cases hj
    ·cases hck
   ·cases hck
 have hext : Ext s0 sH β0 (a.β ρ β) w0 w := by
  refine ⟨fun j hj => ?_, fun j hj hl => ?_, fun j hj hl => ?_, hx.size, hx.fr, hlen, hx.os, hx.tape, hx.output⟩
  ·have : a.β ρ β j = β j := by simp [Ab.β, lookT_lt hM hj]
   rw [this]; exact hx.ag j hj
  ·obtain ⟨j', _, h2, _, h4⟩ := hlv j hl
   have := h4 hj
   subst this
   exact hx.old _ hj h2
  ·obtain ⟨j', _, h2, h3, _⟩ := hlv j hl
   rw [h3]
   rcases Nat.lt_or_ge j' s0.bl.length with h5 | h5
   ·exact .inr ⟨j', hx.old j' h5 h2, by rw [hx.ag j' h5]⟩
   ·exact hx.fresh j' h5 h2
 refine ⟨hext, fun i hi => (let ⟨j, _, h2, h3, _⟩ := hlv i hi; ⟨j, h2, h3⟩), fun ρ' hag hv hk => ⟨Ab.ckL_ok hfl hag hv hb _ _ hL, ?_, ?_, hk, ?_⟩⟩
 ·intro i b hbi
  have hck := Ab.ckBls_get hB hbi
  rw [Nat.zero_add] at hck
  cases b with
  | gone => trivial
  | cells l e o =>
   simp only [Ab.ckBl] at hck
   split at hck
   ·rename_i j hj
    split at hck
    ·rename_i l' e' o' hsj
     simp only [Bool.and_eq_true, beq_iff_eq, decide_eq_true_eq] at hck
     obtain ⟨⟨hl, rfl⟩, rfl⟩ := hck
     have hbe : a.β ρ β i = β j := by simp [Ab.β, hj]
     rw [hbe]
     have := hs.blk j _ hsj
     simp only [qZw] at this ⊢
     rw [Ab.ckL_ok hfl hag hv hb _ _ hl]
     exact this
    ·cases hck
   ·cases hck
  | rcd f o l st p =>
   simp only [Ab.ckBl] at hck
   split at hck
   ·rename_i j hj
    split at hck
    ·rename_i f' o' l' st' p' hsj
     simp only [Bool.and_eq_true, beq_iff_eq, decide_eq_true_eq] at hck
     obtain ⟨⟨⟨⟨rfl, rfl⟩, hl⟩, hst⟩, rfl⟩ := hck
     have hst := stBeq_eq hst
     subst hst
     have hbe : a.β ρ β i = β j := by simp [Ab.β, hj]
     rw [hbe]
     have := hs.blk j _ hsj
     simp only [qZw] at this ⊢
     rw [Ab.ckL_ok hfl hag hv hb _ _ hl, hag.pr]
     exact this
    ·cases hck
   ·cases hck
  | map k e q n =>
   simp only [Ab.ckBl] at hck
   split at hck
   ·rename_i j hj
    split at hck
    ·rename_i k' e' q' n' hsj
     simp only [Bool.and_eq_true, decide_eq_true_eq] at hck
     obtain ⟨⟨⟨rfl, rfl⟩, hq⟩, hn⟩ := hck
     have hbe : a.β ρ β i = β j := by simp [Ab.β, hj]
     rw [hbe]
     have := hs.blk j _ hsj
     simp only [qZw] at this ⊢
     rw [Ab.ckE_ok hfl hag hv hb hq, Ab.ckE_ok hfl hag hv hb hn]
     exact this
    ·cases hck
   ·cases hck
  | arr k e q n =>
   simp only [Ab.ckBl] at hck
   split at hck
   ·rename_i j hj
    split at hck
    ·rename_i k' e' q' n' hsj
     simp only [Bool.and_eq_true, beq_iff_eq, decide_eq_true_eq] at hck
     obtain ⟨⟨⟨rfl, rfl⟩, hq⟩, hn⟩ := hck
     have hbe : a.β ρ β i = β j := by simp [Ab.β, hj]
     rw [hbe]
     have := hs.blk j _ hsj
     simp only [qZw] at this ⊢
     rw [Ab.ckE_ok hfl hag hv hb hq, Ab.ckE_ok hfl hag hv hb hn]
     exact this
    ·cases hck
   ·rename_i hj
    have := Ab.ckE_ok hfl hag hv hb hck
    left
    refine ⟨by simp [Ab.β, hj], by rw [this]; rfl⟩
   ·rename_i j q' n' c hj
    split at hck
    ·rename_i l e' o m hsj
     simp only [Bool.and_eq_true, beq_iff_eq, decide_eq_true_eq] at hck
     obtain ⟨⟨⟨⟨⟨⟨⟨hq, hn⟩, rfl⟩, hm0⟩, hml⟩, hcap⟩, hk0⟩, hch⟩ := hck
     split at hch
     ·rename_i es hes
      have hqe := E.eq_of_beq hch
      subst hqe
      obtain ⟨g1, g2⟩ := qYj hρ β m.toNat hes (by simp; omega)
      have hd := g2 0 (fun i => rdZ ((qQr es).ev ρ) i) (fun i _ => by rw [Nat.zero_add, qJo hρ])
      obtain ⟨tl, hheap, htl, hcp⟩ := hs.blk j _ hsj
      have hbe : a.β ρ β i = ((β j).1, c.getD (β j).2.1 + 1, .nilIface) := by simp [Ab.β, hj]
      rw [hbe]
      right
      have hqv := Ab.ckE_ok hfl hag hv hb hq
      have hnv := Ab.ckE_ok hfl hag hv hb hn
      simp only [E.ev] at hnv
      rw [hqv, hnv]
      have hrow : rowV k ((qQr es).ev ρ) m.toNat ++ (SV.denL ρ β (l.drop (m.toNat * k.length)) ++ tl) = SV.denL ρ β l ++ tl := by
       unfold rowV
       rw [← hd, ← List.append_assoc, ← qQf, List.take_append_drop]
      refine ⟨SV.denL ρ β (l.drop (m.toNat * k.length)) ++ tl, by simp, by rw [hrow]; exact ⟨_, .inl rfl, hheap⟩, ?_⟩
      rw [hrow]
      simp only [Nat.add_sub_cancel]
      unfold capOk at hcap
      split at hcap
      ·simp only [Bool.and_eq_true, decide_eq_true_eq] at hcap
       rw [htl rfl]
       simp only [List.append_nil, qQe, Option.getD_some]
       exact ⟨hcap.1, by unfold maxLen; omega⟩
      ·simp only [decide_eq_true_eq] at hcap
       subst hcap
       exact hcp _ rfl
      ·cases hcap
     ·cases hch
    ·cases hck
   ·cases hck
 ·intro i j hi hj he
  obtain ⟨i', t1, l1, a1, _⟩ := hlv i hi
  obtain ⟨j', t2, l2, a2, _⟩ := hlv j hj
  have hij : i' = j' := hs.inj i' j' l1 l2 (by rw [← a1, ← a2]; exact he)
  subst hij
  obtain ⟨bi, hbi, hoi⟩ := hi
  obtain ⟨bj, hbj, hoj⟩ := hj
  exact tgts_inj hN (k := i) (k' := j) hbi hbj (by rintro rfl; cases hoi) (by rintro rfl; cases hoj) (by rwa [Nat.zero_add]) (by rwa [Nat.zero_add])
 ·intro k ad i x h1 h2
  rw [hag.ro] at h1 h2 ⊢
  obtain ⟨h3, h4⟩ := hs.ro k ad i x h1 h2
  refine ⟨h3, fun j hj => ?_⟩
  obtain ⟨j', _, l1, a1, _⟩ := hlv j hj
  rw [a1]
  exact h4 j' l1
end Go.Eng
end

/-!  -/
noncomputable section
set_option linter.unusedSectionVars false
namespace Go.Eng
inductive Mk where
 | num (lo hi : Int)
 | code
 | wild
 | arr (cks : List CK) (el : TypeId)
 | move
 | bank (n : Nat) (ks : List CK)
 | wilds (n : Nat)
 deriving Inhabited
abbrev qJb := List (List Nat × Mk)
def keyEq : List Nat → List Nat → Bool
 | [], [] => true
 | a :: l, b :: m => Nat.beq a b && keyEq l m
 | _, _ => false
def inRun : List Nat → List Nat → Nat → Bool
 | [0, a], [0, b], n => Nat.ble a b && Nat.blt b (a + n)
 | _, _, _ => false
def findMk : qJb → List Nat → Option Mk
 | [], _ => none
 | (k, m) :: l, κ => match m with
  | .wilds n => if inRun k κ n then some .wild else findMk l κ
  | m => if keyEq k κ then some m else findMk l κ
structure HS where
 nx : Nat
 bds : List (Option (Int × Int))
 bl : List SBlk
 mv : List (Nat × Nat)
 gn : List Nat
 bk : List (List Nat × Nat)
 xs : List SBlk
 nb : Nat
def bankAt : qJb → List Nat → Nat → Option (Nat × Nat × List CK)
 | [], _, _ => none
 | (k, .bank n q) :: l, κ, i => (match k.getLast? with
  | some i0 => if keyEq k (κ ++ [i0]) && Nat.ble i0 i && Nat.blt i (i0 + n * q.length) then some (i0, n, q) else bankAt l κ i
  | none => bankAt l κ i)
 | _ :: l, κ, i => bankAt l κ i
def lookBk : List (List Nat × Nat) → List Nat → Option Nat
 | [], _ => none
 | (k, i) :: l, κ => if keyEq k κ then some i else lookBk l κ
def mvOf : List (Nat × Nat) → Nat → Nat
 | [], j => j
 | (a, b) :: l, j => if Nat.beq a j then b else mvOf l j
def hdE (mk : qJb) (κ : List Nat) (e : E) (h : HS) : E × HS :=
 match findMk mk κ with
 | some (.num lo hi) => (.cl h.nx lo hi, { h with nx := h.nx + 1, bds := some (lo, hi) :: h.bds })
 | some .code => (.v h.nx, { h with nx := h.nx + 1, bds := none :: h.bds })
 | _ => (e, h)
def goneOf : SV → List Nat
 | .sl (.own j) _ _ _ _ => [j]
 | .slice j _ _ _ => [j]
 | _ => []
def bcell (q : E) (ks : List CK) (d : Nat) : SV :=
 let z := ks.length
 let e : E := if Nat.beq z 1 then .f 13 q (.c (d : Nat)) (.c 0) else .f 13 (.f 13 q (.c (d / z : Nat)) (.c 0)) (.c (d % z : Nat)) (.c 0)
 match ks[d % z]? with
 | some (.int k) => .int k (.w k e)
 | some .bool => .bool e
 | _ => .str e
mutual
def hdSV (mk : qJb) (κ : List Nat) (x : SV) (h : HS) : SV × HS :=
 match findMk mk κ with
 | some .wild => (.wild h.nb, { h with xs := .gone :: h.xs, nb := h.nb + 1 })
 | some (.arr cks el) =>
  let n : E := .cl (h.nx + 1) 0 1000000
  (.sl (.own h.nb) cks.length (.c 0) n none, { h with nx := h.nx + 2, bds := some (0, 1000000) :: none :: h.bds, xs := .arr cks el (.v h.nx) n :: h.xs, nb := h.nb + 1, gn := goneOf x ++ h.gn })
 | some (.num lo hi) => (match x with
  | .int k _ => (.int k (.cl h.nx lo hi), { h with nx := h.nx + 1, bds := some (lo, hi) :: h.bds })
  | .bool _ => (.bool (.cl h.nx 0 1), { h with nx := h.nx + 1, bds := some (0, 1) :: h.bds })
  | x => (x, h))
 | some .code => (match x with
  | .str _ => (.str (.v h.nx), { h with nx := h.nx + 1, bds := none :: h.bds })
  | .lit _ => (.str (.v h.nx), { h with nx := h.nx + 1, bds := none :: h.bds })
  | x => (x, h))
 | _ => (match x with
  | .ptr j o => (.ptr (mvOf h.mv j) o, h)
  | .yld j => (.yld (mvOf h.mv j), h)
  | .mp j => (.mp (mvOf h.mv j), h)
  | .slice j o l c => (.slice (mvOf h.mv j) o l c, h)
  | .sl b z o l c =>
   let r := hdE mk (κ ++ [0]) o h
   let r2 := hdE mk (κ ++ [1]) l r.2
   let r3 := (match c with
    | some (.f 10 e _ _) => (let r3 := hdE mk (κ ++ [2]) e r2.2; (some (E.f 10 r3.1 (.c 0) (.c 0)), r3.2))
    | c => (c, r2.2))
   (.sl (match b with | .own j => .own (mvOf h.mv j) | b => b) z r.1 r2.1 r3.1, r3.2)
  | .func f a c =>
   let r := hdL mk (κ ++ [0]) 0 a h
   let r2 := hdL mk (κ ++ [1]) 0 c r.2
   (.func f r.1 r2.1, r2.2)
  | .iface t x => let r := hdSV mk (κ ++ [0]) x h; (.iface t r.1, r.2)
  | .agg l => let r := hdL mk κ 0 l h; (.agg r.1, r.2)
  | .tup l => let r := hdL mk κ 0 l h; (.tup r.1, r.2)
  | x => (x, h))
def hdL (mk : qJb) (κ : List Nat) (i : Nat) (l : List SV) (h : HS) : List SV × HS :=
 match l with
 | [] => ([], h)
 | x :: l =>
  let r := match bankAt mk κ i with
   | some (i0, _, q) => (match lookBk h.bk (κ ++ [i0]) with
    | some v => (bcell (.v v) q (i - i0), h)
    | none => (bcell (.v h.nx) q (i - i0), { h with nx := h.nx + 1, bds := none :: h.bds, bk := (κ ++ [i0], h.nx) :: h.bk }))
   | none => hdSV mk (κ ++ [i]) x h
  let r2 := hdL mk κ (i + 1) l r.2
  (r.1 :: r2.1, r2.2)
end
def hdBl (mk : qJb) : Nat → List SBlk → HS → HS
 | _, [], h => h
 | j, b :: l, h => hdBl mk (j + 1) l (match b with
  | .gone => h
  | .cells L e o =>
   let r := hdL mk [1, j] 0 L h
   { r.2 with bl := r.2.bl.set (mvOf h.mv j) (.cells r.1 e o) }
  | .rcd f o L st p =>
   let r := hdL mk [1, j] 0 L h
   { r.2 with bl := r.2.bl.set (mvOf h.mv j) (.rcd f o r.1 st p) }
  | .arr k e q n =>
   let r := hdE mk [1, j, 0] q h
   let r2 := hdE mk [1, j, 1] n r.2
   { r2.2 with bl := r2.2.bl.set (mvOf h.mv j) (.arr k e r.1 r2.1) }
  | .map k e q n =>
   let r := hdE mk [1, j, 0] q h
   let r2 := hdE mk [1, j, 1] n r.2
   { r2.2 with bl := r2.2.bl.set (mvOf h.mv j) (.map k e r.1 r2.1) })
mutual
def getSV : SV → List Nat → Option SV
 | x, [] => some x
 | .func _ a _, 0 :: i :: κ => getL a i κ
 | .func _ _ c, 1 :: i :: κ => getL c i κ
 | .iface _ x, 0 :: κ => getSV x κ
 | .agg l, i :: κ => getL l i κ
 | .tup l, i :: κ => getL l i κ
 | _, _ => none
def getL : List SV → Nat → List Nat → Option SV
 | [], _, _ => none
 | x :: _, 0, κ => getSV x κ
 | _ :: l, i + 1, κ => getL l i κ
end
def getK (tm : List SV) (s : St) (κ : List Nat) : Option SV :=
 match κ with
 | 0 :: i :: κ => getL tm i κ
 | 1 :: j :: i :: κ => match s.bl[j]? with
  | some (.cells l _ _) => getL l i κ
  | some (.rcd _ _ l _ _) => getL l i κ
  | _ => none
 | _ => none
def movesOf (tm : List SV) (s : St) : qJb → List Nat → List Nat
 | [], acc => acc.reverse
 | (κ, .move) :: l, acc => movesOf tm s l (match getK tm s κ with
  | some (.ptr j _) => if acc.contains j then acc else j :: acc
  | _ => acc)
 | _ :: l, acc => movesOf tm s l acc
def setGone : List Nat → List SBlk → List SBlk
 | [], l => l
 | j :: js, l => setGone js (l.set j .gone)
def zipN : List Nat → Nat → List (Nat × Nat)
 | [], _ => []
 | j :: l, n => (j, n) :: zipN l (n + 1)
structure Hd where
 tm : List SV
 bl : List SBlk
 bds : List (Option (Int × Int))
 mv : List (Nat × Nat)
def mkHead (mk : qJb) (base : Nat) (tm : List SV) (s : St) : Hd :=
 let js := movesOf tm s mk []
 let n := s.bl.length
 let mv := zipN js n
 let r := hdL mk [0] 0 tm ⟨base, [], s.bl ++ List.replicate js.length .gone, mv, js, [], [], n + js.length⟩
 let h := hdBl mk 0 s.bl r.2
 ⟨r.1, setGone h.gn (h.bl ++ h.xs.reverse), h.bds.reverse, mv⟩
structure US where
 es : List (Nat × E)
 mp : List (Nat × Tgt)
 mks : qJb
 todo : List (Nat × Nat)
structure UC where
 cx : Cx
 base : Nat
 n0 : Nat
 hd : Hd
 s : St
def lookN2 : List (Nat × E) → Nat → Option E
 | [], _ => none
 | (i, e) :: l, j => if Nat.beq i j then some e else lookN2 l j
def hasT : List (Nat × Tgt) → Nat → Bool
 | [], _ => false
 | (i, _) :: l, j => Nat.beq i j || hasT l j
def qXp (κ : List Nat) (m : Mk) (u : US) : US := { u with mks := (κ, m) :: u.mks }
def E.sbU (b : Nat) (es : List (Nat × E)) : E → E
 | .v i => if Nat.ble b i then (lookN2 es (i - b)).getD (.v i) else .v i
 | .b o k x y => .b o k (x.sbU b es) (y.sbU b es)
 | .w k x => (match x.sbU b es with
  | .c n => .c (k.wrap n)
  | x => .w k x)
 | .nt x => .nt (x.sbU b es)
 | .ite t x y => .ite (t.sbU b es) (x.sbU b es) (y.sbU b es)
 | .f n x y z => (match n with
  | 13 => E.rdA (x.sbU b es) (y.sbU b es)
  | n => .f n (x.sbU b es) (y.sbU b es) (z.sbU b es))
 | e => e
def refB : E → Option (Nat × Int × Option Int)
 | .f 13 (.v i) (.c r) _ => some (i, r, none)
 | .f 13 (.f 13 (.v i) (.c r) _) (.c f) _ => some (i, r, some f)
 | _ => none
def cellB : SV → Option (CK × Nat × Int × Option Int)
 | .int k (.w _ e) => (refB e).map fun p => (.int k, p)
 | .bool e => (refB e).map fun p => (.bool, p)
 | _ => none
def runCks (i : Nat) : Nat → List SV → List CK
 | f, x :: l => (match cellB x with
  | some (k, j, r, some f') => if Nat.beq i j && r == 0 && f' == (f : Int) then k :: runCks i (f + 1) l else []
  | _ => [])
 | _, [] => []
def bankLen (i z : Nat) : Nat → List SV → Nat
 | d, x :: l => (match cellB x with
  | some (_, j, r, o) => if Nat.beq i j && (match o with
    | none => Nat.beq z 1 && r == (d : Int)
    | some f => r * (z : Int) + f == (d : Int)) then bankLen i z (d + 1) l else d
  | none => d)
 | d, [] => d
def bankOf (b : Nat) (l : List SV) : Option (Nat × List CK × Nat) :=
 match l with
 | [] => none
 | x :: _ => match cellB x with
  | some (k, i, 0, none) => if Nat.ble b i then some (i, [k], bankLen i 1 0 l) else none
  | some (_, i, 0, some 0) => if Nat.ble b i then
    let ks := runCks i 0 l
    some (i, ks, bankLen i ks.length 0 l / ks.length) else none
  | _ => none
def UC.bank (c : UC) (x : SV) (l : List SV) (m : List SV) (u : US) : US := match bankOf c.base (x :: l) with
 | none => u
 | some (i, ks, n) => match lookN2 u.es (i - c.base) with
  | some _ => u
  | none => match gatherZ c.cx ks n (m.take (n * ks.length)) with
   | some q => { u with es := (i - c.base, q) :: u.es }
   | none => u
def UC.uE (c : UC) (κ : List Nat) (d : Mk) (eH e : E) (u : US) : US :=
 let name (i : Nat) : US := match lookN2 u.es (i - c.base) with
  | some _ => u
  | none => { u with es := (i - c.base, e) :: u.es }
 match eH with
 | .cl i _ _ => if Nat.ble c.base i then name i else if eH.beq e then u else qXp κ d u
 | .v i => if Nat.ble c.base i then name i else if eH.beq e then u else qXp κ d u
 | eH => if eH.beq e || (eH.sbU c.base u.es).beq e then u else qXp κ d u
def arrOf (cx : Cx) (s : St) : SV → Option (List CK × TypeId)
 | .sl (.own j) _ _ _ _ => match s.bl[j]? with
  | some (.arr k e _ _) => some (k, e)
  | _ => none
 | .slice j _ _ _ => match s.bl[j]? with
  | some (.cells _ e _) => (cksOf cx 6 e).map fun k => (k, e)
  | _ => none
 | _ => none
def markArr (cx : Cx) (s : St) (κ : List Nat) (x y : SV) (u : US) : US :=
 match arrOf cx s y with
 | some (k, e) => qXp κ (.arr k e) u
 | none => match arrOf cx s x with
  | some (k, e) => qXp κ (.arr k e) u
  | none => qXp κ .wild u
def kindMk (k : IntKind) : Mk := .num (klo k) (khi k)
mutual
def UC.uSV (c : UC) (κ : List Nat) (x y : SV) (u : US) : US :=
 match x, y with
 | .wild i, y => if Nat.blt i c.n0 then (match y with
  | .wild j => if Nat.beq i j then u else qXp κ .wild u
  | _ => qXp κ .wild u) else if hasT u.mp i then u else { u with mp := (i, .val y) :: u.mp }
 | .int k e, .int k' e' => if k = k' then c.uE κ (kindMk k) e e' u else qXp κ .wild u
 | .bool e, .bool e' => c.uE κ (.num 0 1) e e' u
 | .str e, .str e' => c.uE κ .code e e' u
 | .lit (.string a), .lit (.string b) => if decide (a = b) then u else qXp κ .code u
 | .lit (.string _), .str _ => qXp κ .code u
 | .str e, .lit (.string b) => c.uE κ .code e (strLit b) u
 | .ptr i o, .ptr j o' =>
  if !(Nat.beq o o') then qXp κ .wild u
  else if Nat.beq i j && Nat.blt i c.n0 then { u with todo := (i, j) :: u.todo }
  else if Nat.ble c.n0 i then (if hasT u.mp i then u else { u with mp := (i, .idx j) :: u.mp, todo := (i, j) :: u.todo })
  else qXp κ .move u
 | .yld i, .yld j =>
  if Nat.beq i j && Nat.blt i c.n0 then { u with todo := (i, j) :: u.todo }
  else if Nat.ble c.n0 i then (if hasT u.mp i then u else { u with mp := (i, .idx j) :: u.mp, todo := (i, j) :: u.todo })
  else qXp κ .wild u
 | .mp i, .mp j =>
  if Nat.beq i j && Nat.blt i c.n0 then { u with todo := (i, j) :: u.todo }
  else if Nat.ble c.n0 i then (if hasT u.mp i then u else { u with mp := (i, .idx j) :: u.mp, todo := (i, j) :: u.todo })
  else qXp κ .wild u
 | .slice i o l q, .slice j o' l' q' => if Nat.beq i j && Nat.beq o o' && Nat.beq l l' && decide (q = q') then { u with todo := (i, j) :: u.todo } else markArr c.cx c.s κ x y u
 | .lit (.slice none a b), .lit (.slice none a' b') => if Nat.beq a a' && Nat.beq b b' then u else qXp κ .wild u
 | .lit (.slice none _ _), .slice _ _ _ _ => markArr c.cx c.s κ x y u
 | .lit (.slice none _ _), .sl _ _ _ _ _ => markArr c.cx c.s κ x y u
 | .slice _ _ _ _, .sl _ _ _ _ _ => markArr c.cx c.s κ x y u
 | .sl (.own i) z o l _, .lit (.slice none 0 0) => (match c.hd.bl[i]? with
  | some (.arr _ _ q n) => c.uE κ .wild q (.c 0) (c.uE κ .wild n (.c 0) (c.uE κ .wild l (.c 0) { u with mp := (i, .nil) :: u.mp }))
  | _ => qXp κ .wild u)
 | .sl (.own i) z o l _, .slice j 0 m cp => (match c.hd.bl[i]?, c.s.bl[j]? with
  | some (.arr k _ q n), some (.cells L _ _) => (match chunkP c.cx k k.length m (L.take (m * k.length)) with
   | some es => c.uE κ .wild q (qQr es) (c.uE κ .wild n (.c m) (c.uE κ .wild l (.c m) { u with mp := (i, .conc j (qQr es) (.c m) cp) :: u.mp }))
   | none => qXp κ .wild u)
  | _, _ => qXp κ .wild u)
 | .sl (.own i) z o l q, .sl (.own j) z' o' l' q' =>
  if Nat.beq i j || Nat.ble c.n0 i then
   let u := c.uE (κ ++ [0]) (.num 0 1000000) o o' (c.uE (κ ++ [1]) (.num 0 1000000) l l' u)
   let u := (match q, q' with
    | some (.f 10 e _ _), some (.f 10 e' _ _) => c.uE (κ ++ [2]) (.num 0 1000000) e e' u
    | _, _ => u)
   let u := if Nat.blt i c.n0 || hasT u.mp i then u else { u with mp := (i, .idx j) :: u.mp }
   { u with todo := (i, j) :: u.todo }
  else markArr c.cx c.s κ x y u
 | .sl (.inp i) z o l q, .sl (.inp j) z' o' l' q' => if Nat.beq i j then c.uE (κ ++ [0]) (.num 0 1000000) o o' (c.uE (κ ++ [1]) (.num 0 1000000) l l' u) else qXp κ .wild u
 | .func f a q, .func f' a' q' => if Fn.beq f f' && Nat.beq a.length a'.length && Nat.beq q.length q'.length then c.uL (κ ++ [1]) 0 q q' (c.uL (κ ++ [0]) 0 a a' u) else qXp κ .wild u
 | .iface t x, .iface t' y => if Nat.beq t t' then c.uSV (κ ++ [0]) x y u else qXp κ .wild u
 | .agg l, .agg m => if Nat.beq l.length m.length then c.uL κ 0 l m u else qXp κ .wild u
 | .tup l, .tup m => if Nat.beq l.length m.length then c.uL κ 0 l m u else qXp κ .wild u
 | x, y => if x.beq y then u else qXp κ .wild u
def UC.uL (c : UC) (κ : List Nat) (i : Nat) (x y : List SV) (u : US) : US :=
 match x, y with
 | x :: l, y :: m => c.uL κ (i + 1) l m (c.uSV (κ ++ [i]) x y (c.bank x l (y :: m) u))
 | _, _ => u
end
def backMv : List (Nat × Nat) → Nat → Nat
 | [], j => j
 | (a, b) :: l, j => if Nat.beq b j then a else backMv l j
def UC.uBl (c : UC) (i j : Nat) (u : US) : US :=
 match c.hd.bl[i]?, c.s.bl[j]? with
 | some (.cells l _ _), some (.cells m _ _) => c.uL [1, backMv c.hd.mv i] 0 l m u
 | some (.rcd _ _ l _ _), some (.rcd _ _ m _ _) => c.uL [1, backMv c.hd.mv i] 0 l m u
 | some (.map _ _ q n), some (.map _ _ q' n') => c.uE [1, backMv c.hd.mv i, 0] .code q q' (c.uE [1, backMv c.hd.mv i, 1] (.num 0 1000000) n n' u)
 | some (.arr _ _ q n), some (.arr _ _ q' n') => c.uE [1, backMv c.hd.mv i, 0] .code q q' (c.uE [1, backMv c.hd.mv i, 1] (.num 0 1000000) n n' u)
 | _, _ => u
def UC.uAll (c : UC) : Nat → List (Nat × Nat) → US → US
 | 0, _, u => u
 | f + 1, done, u => match u.todo with
  | [] => u
  | p :: l => if done.any (fun q => Nat.beq q.1 p.1 && Nat.beq q.2 p.2) then c.uAll f done { u with todo := l } else c.uAll f (p :: done) (c.uBl p.1 p.2 { u with todo := l })
def restB : Nat → List SBlk → List (Nat × Nat)
 | _, [] => []
 | i, .gone :: l => restB (i + 1) l
 | i, _ :: l => (i, i) :: restB (i + 1) l
def unify (cx : Cx) (base : Nat) (n0 : Nat) (hd : Hd) (tm : List SV) (s : St) : US :=
 let c : UC := ⟨cx, base, n0, hd, s⟩
 let u := c.uL [0] 0 hd.tm tm ⟨[], [], [], []⟩
 let u := c.uAll 200 [] u
 c.uAll 200 [] { u with todo := (restB 0 hd.bl).filter fun p => Nat.blt p.1 n0 }
def abOf (base : Nat) (hd : Hd) (u : US) : Ab :=
 ⟨base, hd.bds, (List.range hd.bds.length).map fun k => (lookN2 u.es k).getD (.c 0), u.mp⟩
def TT.nleaves : TT (Ex × List SV × St) → List (List SV × St)
 | .leaf (.normal, r) => [r]
 | .leaf _ => []
 | .br _ t f => t.nleaves ++ f.nleaves
 | .bad _ => []
 | .new _ _ t => t.nleaves
 | .loop _ _ r => r.nleaves
def countMk (k : IntKind) (e0 : E) (i : Nat) (e : E) : Option Mk :=
 let big : Int := match k with
  | .i64 => 4611686018427387904
  | .u64 => 4611686018427387904
  | .i32 => 1073741824
  | .u32 => 1073741824
  | .i16 => 16384
  | .u16 => 16384
  | _ => 64
 let go (n : Int) : Mk := if 0 < n then .num (match e0 with | .c a => a | _ => (if k.signed then -big else 0)) big else .num (if k.signed then -big else 0) (match e0 with | .c a => a | _ => big)
 match e with
 | .w k' (.b .padd _ (.cl j _ _) (.c n)) => if k' = k && Nat.beq i j then some (go n) else none
 | .w k' (.b .psub _ (.cl j _ _) (.c n)) => if k' = k && Nat.beq i j then some (go (-n)) else none
 | _ => none
def refine1 (cx : Cx) (tm : List SV) (s : St) (hd : Hd) (base : Nat) (u : US) : qJb → qJb
 | [] => []
 | (κ, .num lo hi) :: l =>
  let r := refine1 cx tm s hd base u l
  match getK tm s κ with
  | some (.int k e0) => if lo == klo k && hi == khi k then
    -- the name that it has at the head
    (match (match κ with
     | 0 :: i :: κ' => getL hd.tm i κ'
     | 1 :: j :: i :: κ' => (match hd.bl[mvOf hd.mv j]? with
      | some (.cells L _ _) => getL L i κ'
      | some (.rcd _ _ L _ _) => getL L i κ'
      | _ => none)
     | _ => none) with
    | some (.int _ (.cl i _ _)) => (match lookN2 u.es (i - base) with
     | some e => (match countMk k e0 i e with
      | some m => (κ, m) :: r
      | none => r)
     | none => r)
    | _ => r) else r
  | _ => r
 | _ :: l => refine1 cx tm s hd base u l
def addAll : qJb → qJb → qJb
 | [], mk => mk
 | (κ, m) :: l, mk => addAll l (match findMk mk κ with
  | some _ => mk
  | none => (κ, m) :: mk)
def isNumM (m : Option Mk) (lo hi : Int) : Bool := match m with
 | some (.num a b) => a == lo && b == hi
 | _ => false
def cellK (tm : List SV) (s : St) (mk : qJb) (j i : Nat) : Option CK := match getK tm s [1, j, i] with
 | some (.int k _) => if isNumM (findMk mk [1, j, i]) (klo k) (khi k) then some (.int k) else none
 | some (.bool _) => if isNumM (findMk mk [1, j, i]) 0 1 then some .bool else none
 | _ => none
def cellKs (tm : List SV) (s : St) (mk : qJb) (j : Nat) : Nat → Nat → Option (List CK)
 | 0, _ => some []
 | z + 1, i => match cellK tm s mk j i, cellKs tm s mk j z (i + 1) with
  | some k, some l => some (k :: l)
  | _, _ => none
def runLen (tm : List SV) (s : St) (mk : qJb) (ks : List CK) (j : Nat) : Nat → Nat → Nat
 | 0, _ => 0
 | f + 1, i => if decide (cellKs tm s mk j ks.length i = some ks) then runLen tm s mk ks j f (i + ks.length) + 1 else 0
def bankFrom (tm : List SV) (s : St) (mk : qJb) (j i z : Nat) : Option (List Nat × Mk) := match cellKs tm s mk j z i with
 | some ks => if i != 0 && decide (cellK tm s mk j (i - 1) = ks.getLast?) then none else
   let n := runLen tm s mk ks j 300 i
   if Nat.ble 8 n then some ([1, j, i], .bank n ks) else none
 | none => none
def banksOf (tm : List SV) (s : St) (mk : qJb) : qJb := mk.filterMap fun p => match p with
 | ([1, j, i], .num _ _) => (match bankFrom tm s mk j i 1 with
  | some b => some b
  | none => bankFrom tm s mk j i 2)
 | _ => none
def bankUp (tm : List SV) (s : St) (mk : qJb) : qJb :=
 let b := banksOf tm s mk
 b ++ mk.filter fun p => match p.1 with
  | [1, j, i] => (bankAt b [1, j] i).isNone
  | _ => true
def inferL (cx : Cx) (run : List SV → St → TT (Ex × List SV × St)) (base : Nat) (tm : List SV) (s : St) : Nat → Bool → qJb → qJb
 | 0, _, mk => mk
 | n + 1, done, mk =>
  let hd := mkHead mk base tm s
  let t := run hd.tm ⟨hd.bl, (.b .eq .i64 (.cl (base + hd.bds.length) 0 0) (.cl (base + hd.bds.length) 0 0), true) :: s.kn⟩
  let us := t.nleaves.map fun r => unify cx base s.bl.length hd r.1 r.2
  let news := (unify cx base s.bl.length hd tm s).mks ++ us.flatMap (·.mks)
  match news with
  | [] => if done then mk else
   let fine := us.flatMap fun u => refine1 cx tm s hd base u mk
   (match fine with
   | [] => mk
   | _ => inferL cx run base tm s n true (fine ++ mk))
  | _ => inferL cx run base tm s n done (addAll (bankUp tm s news) mk)
end Go.Eng
end

/-!  -/
noncomputable section
set_option linter.unusedSectionVars false
namespace Go.Eng
structure Marks' (β' : Bt) (s' : St) (w w' : World) (ms : List Deferred) : Prop where
 all : ∀ m ∈ ms, ∃ b, m = { target := .collected b, args := #[] } ∧ w.heap.size ≤ b ∧ w'.heap[b]? = some (.deferred (some [])) ∧ ∀ j, live β' s' j → (β' j).1 ≠ b
 nod : ms.Pairwise fun x y => x.target ≠ y.target
theorem Marks'.nil (β' : Bt) (s' : St) (w w' : World) : Marks' β' s' w w' [] := ⟨(fun m h => by cases h), .nil⟩
theorem Marks'.later {s1 s2 : St} {β1 β2 : Bt} {w w1 w2 : World} {ms : List Deferred} (h : Marks' β1 s1 w w1 ms) (hx : Ext s1 s2 β1 β2 w1 w2) : Marks' β2 s2 w w2 ms :=
 ⟨fun m hm => by
  obtain ⟨b, h1, h2, h3, h4⟩ := h.all m hm
  have hlt := (Array.getElem?_eq_some_iff.1 h3).1
  refine ⟨b, h1, h2, by rw [hx.fr b hlt h4]; exact h3, fun j hj => ?_⟩
  rcases Nat.lt_or_ge j s1.bl.length with hjl | hjl
  ·rw [hx.ag j hjl]; exact h4 j (hx.old j hjl hj)
  ·rcases hx.fresh j hjl hj with h5 | ⟨i, hi, he⟩
   ·omega
   ·rw [← he]; exact h4 i hi, h.nod⟩
theorem Marks'.app {s1 s2 : St} {β1 β2 : Bt} {w w1 w2 : World} {ms ns : List Deferred} (h : Marks' β1 s1 w w1 ms) (hx : Ext s1 s2 β1 β2 w1 w2) (hs : w.heap.size ≤ w1.heap.size) (k : Marks' β2 s2 w1 w2 ns) : Marks' β2 s2 w w2 (ns ++ ms) :=
 ⟨fun m hm => by
  rcases List.mem_append.1 hm with hm | hm
  ·obtain ⟨b, h1, h2, h3, h4⟩ := k.all m hm
   exact ⟨b, h1, by omega, h3, h4⟩
  ·exact (h.later hx).all m hm, by
  rw [List.pairwise_append]
  refine ⟨k.nod, h.nod, fun x hx' y hy => ?_⟩
  obtain ⟨b, rfl, h2, _, _⟩ := k.all x hx'
  obtain ⟨c, rfl, _, h3, _⟩ := h.all y hy
  have hlt := (Array.getElem?_eq_some_iff.1 h3).1
  intro he
  simp only [Target.collected.injEq] at he
  omega⟩
theorem Marks'.less {β' : Bt} {s1 s2 : St} {w w' : World} {ms : List Deferred} (h : Marks' β' s1 w w' ms) (hl : ∀ j, live β' s2 j → live β' s1 j) : Marks' β' s2 w w' ms :=
 ⟨fun m hm => by
  obtain ⟨b, h1, h2, h3, h4⟩ := h.all m hm
  exact ⟨b, h1, h2, h3, fun j hj => h4 j (hl j hj)⟩, h.nod⟩
def tmAt (x : Ex) (ts : Array Value) (l : List Value) : Prop := match x with
 | .pan _ _ _ => ∀ (i : Nat) (v : Value), l[i]? = some v → ts[i]? = some v
 | _ => ts = l.toArray
theorem tmAt_eq {x : Ex} {ts : Array Value} {l : List Value} (h : ts = l.toArray) : tmAt x ts l := by
 cases x with
 | pan _ _ _ => intro i v hi; rw [h, List.getElem?_toArray]; exact hi
 | normal => exact h
 | exit _ => exact h
 | ret => exact h
def BehX (x : Ex) (ρ : Env) (β : Bt) (s : St) (w : World) (ds : List Deferred) (tm' : List SV) (s' : St) (a' : Act) (w' : World) : Prop :=
 ∃ β', tmAt x a'.tmps (SV.denL ρ β' tm') ∧ a'.defers = ds ∧ Sat ρ β' s' w' ∧ Ext s s' β β' w w'
theorem BehX.of {x : Ex} {ρ : Env} {β β1 : Bt} {s s1 : St} {w w1 : World} {ds : List Deferred} {tm' : List SV} {s' : St} {a' : Act} {w' : World} (h : BehX x ρ β1 s1 w1 ds tm' s' a' w') (k : Ext s s1 β β1 w w1) : BehX x ρ β s w ds tm' s' a' w' :=
 let ⟨β', h1, h2, h3, h4⟩ := h; ⟨β', h1, h2, h3, k.trans h4⟩
def BehM (x : Ex) (ρ : Env) (β : Bt) (s : St) (w : World) (ds : List Deferred) (tm' : List SV) (s' : St) (a' : Act) (w' : World) : Prop :=
 ∃ β' ms, tmAt x a'.tmps (SV.denL ρ β' tm') ∧ a'.defers = ms ++ ds ∧ Sat ρ β' s' w' ∧ Ext s s' β β' w w' ∧ Marks' β' s' w w' ms
theorem BehX.m {x : Ex} {ρ : Env} {β : Bt} {s : St} {w : World} {ds : List Deferred} {tm' : List SV} {s' : St} {a' : Act} {w' : World} (h : BehX x ρ β s w ds tm' s' a' w') : BehM x ρ β s w ds tm' s' a' w' :=
 let ⟨β', h1, h2, h3, h4⟩ := h; ⟨β', [], h1, h2, h3, h4, .nil _ _ _ _⟩
theorem Beh.x {x : Ex} {ρ : Env} {β : Bt} {s : St} {w : World} {ds : List Deferred} {tm' : List SV} {s' : St} {a' : Act} {w' : World} (h : Beh ρ β s w ds tm' s' a' w') : BehX x ρ β s w ds tm' s' a' w' :=
 let ⟨β', h1, h2, h3, h4⟩ := h; ⟨β', tmAt_eq h1, h2, h3, h4⟩
theorem Beh.m {x : Ex} {ρ : Env} {β : Bt} {s : St} {w : World} {ds : List Deferred} {tm' : List SV} {s' : St} {a' : Act} {w' : World} (h : Beh ρ β s w ds tm' s' a' w') : BehM x ρ β s w ds tm' s' a' w' := h.x.m
theorem BehM.of {x : Ex} {ρ : Env} {β β1 : Bt} {s s1 : St} {w w1 : World} {ds ms : List Deferred} {tm' : List SV} {s' : St} {a' : Act} {w' : World} (h : Ext s s1 β β1 w w1) (hm : Marks' β1 s1 w w1 ms) (k : BehM x ρ β1 s1 w1 (ms ++ ds) tm' s' a' w') :
  BehM x ρ β s w ds tm' s' a' w' :=
 let ⟨β', ns, h1, h2, h3, h4, h5⟩ := k; ⟨β', ns ++ ms, h1, by rw [h2, List.append_assoc], h3, h.trans h4, hm.app h4 h.size h5⟩
theorem BehM.of0 {x : Ex} {ρ : Env} {β β1 : Bt} {s s1 : St} {w w1 : World} {ds : List Deferred} {tm' : List SV} {s' : St} {a' : Act} {w' : World} (h : Ext s s1 β β1 w w1) (k : BehM x ρ β1 s1 w1 ds tm' s' a' w') :
  BehM x ρ β s w ds tm' s' a' w' := BehM.of (ms := []) h (.nil _ _ _ _) k
abbrev RT2 := TT (SV × St)
abbrev CFT := FuncId → List SV → St → RT2
def panS (t : TypeId) (k : IntKind) (n : Int) : SV := .iface t (.iface 0 (.int k (.c n)))
def isPan : SV → Option (TypeId × IntKind × Int)
 | .iface t (.iface 0 (.int k (.c n))) => some (t, k, n)
 | _ => none
theorem isPan_panS (t : TypeId) (k : IntKind) (n : Int) : isPan (panS t k n) = some (t, k, n) := rfl
def endOf (ρ : Env) (β : Bt) (v : SV) : Ending := match isPan v with
 | some (t, k, n) => .panicked (panC t k n)
 | none => .returned (v.den ρ β)
theorem qXc {ρ : Env} {β : Bt} {v : SV} (h : isPan v = none) : endOf ρ β v = .returned (v.den ρ β) := by unfold endOf; rw [h]
theorem endOf_some {ρ : Env} {β : Bt} {v : SV} {t : TypeId} {k : IntKind} {n : Int} (h : isPan v = some (t, k, n)) : endOf ρ β v = .panicked (panC t k n) := by unfold endOf; rw [h]
def qJk (cx : Cx) (cf : CFT) : Prop :=
 ∀ (ρ : Env) (β : Bt) (s s' : St) (w : World) (f : FuncId) (args : List SV) (v : SV), EnvOk cx ρ → Sat ρ β s w → (cf f args s).sel ρ = some (v, s') →
  Calls cx.P f (SV.denL ρ β args).toArray w fun e w' => ∃ β', e = endOf ρ β' v ∧ Sat ρ β' s' w' ∧ Ext s s' β β' w w'
abbrev RDT := Nat → List SV → St → RT2
def qKq (cx : Cx) (rd : RDT) : Prop :=
 ∀ (ρ : Env) (β : Bt) (s s' : St) (w : World) (j : Nat) (args : List SV) (v : SV), EnvOk cx ρ → Sat ρ β s w → (rd j args s).sel ρ = some (v, s') →
  isPan v = none ∧ ∃ (fn : FuncId) (tmps : Array Value) (asg body : Code), (Instr.yield (β j).1 (SV.denL ρ β args).toArray).run cx.P w = .ok (.round (β j).1 fn tmps asg body) w ∧
   ∀ (r : Option Nat) (n : Nat), RoundIn (fen r) n cx.P (β j).1 fn tmps asg body w fun e w' => ∃ β', e = .returned (v.den ρ β') ∧ Sat ρ β' s' w' ∧ Ext s s' β β' w w'
def rOf (rnd : Option Nat) (β : Bt) : Option Nat := rnd.map fun j => (β j).1
def rIn (rnd : Option Nat) (s : St) : Prop := ∀ j, rnd = some j → j < s.bl.length
theorem rOf_ext {rnd : Option Nat} {s s' : St} {β β' : Bt} {w w' : World} (h : rIn rnd s) (hx : Ext s s' β β' w w') : rOf rnd β' = rOf rnd β := by
 cases rnd with
 | none => rfl
 | some j => simp only [rOf, Option.map_some, hx.ag j (h j rfl)]
theorem rIn.ext {rnd : Option Nat} {s s' : St} {β β' : Bt} {w w' : World} (h : rIn rnd s) (hx : Ext s s' β β' w w') : rIn rnd s' := fun j hj => Nat.lt_of_lt_of_le (h j hj) hx.len
def OpGoodR (P : Program) (o : Oper) (a : Act) (w : World) (post : Value → World → Prop) (pp : List PanicEntry → World → Prop) : Prop :=
 ∀ (K : Act → World → Prop) (Q : Exit → Act → World → Prop), (∀ V w', post V w' → K (a.put o.dst V) w') → (∀ ch w', pp ch w' → Q (.panic ch) a w') → ∀ (r : Option Nat) (n : Nat), o.wpIn (fen r) n P a w K Q
theorem OpGood.r {P : Program} {o : Oper} {a : Act} {w : World} {post : Value → World → Prop} {pp : List PanicEntry → World → Prop} (h : OpGood P o a w post) (hd : qKx o = false) : OpGoodR P o a w post pp :=
 fun K Q hk _ r n => opIn_of_wp (not_defer hd) (h K Q hk)
def OpGoodP (P : Program) (o : Oper) (a : Act) (w : World) (post : Value → World → Prop) (pp : List PanicEntry → World → Prop) : Prop :=
 ∀ (K : Act → World → Prop) (Q : Exit → Act → World → Prop), (∀ V w', post V w' → K (a.put o.dst V) w') → (∀ ch w', pp ch w' → Q (.panic ch) a w') → o.wp P a w K Q
theorem OpGoodP.r {P : Program} {o : Oper} {a : Act} {w : World} {post : Value → World → Prop} {pp : List PanicEntry → World → Prop} (h : OpGoodP P o a w post pp) (hd : qKx o = false) : OpGoodR P o a w post pp :=
 fun K Q hk hp r n => opIn_of_wp (not_defer hd) (h K Q hk hp)
def panE (t : TypeId) (k : IntKind) (e : E) (s : St) : Nat → Nat → RT2
 | 0, _ => .bad 36
 | m + 1, i => .br (.b .eq .i64 e (.c (i : Int))) (.leaf (panS t k (i : Int), s)) (panE t k e s m (i + 1))
def panT (t : TypeId) (k : IntKind) (e : E) (s : St) : RT2 := match e with
 | .c n => .leaf (panS t k n, s)
 | e => panE t k e s 16 0
theorem panE_sel {ρ : Env} {t : TypeId} {k : IntKind} {e : E} {s s' : St} {v : SV} : ∀ {m i : Nat}, (panE t k e s m i).sel ρ = some (v, s') → v = panS t k (e.ev ρ) ∧ s' = s
 | 0, _, h => by cases h
 | m + 1, i, h => by
  simp only [panE, TT.sel] at h
  split at h
  ·rename_i hc
   simp only [Option.some.injEq, Prod.mk.injEq] at h
   have : e.ev ρ = (i : Int) := by
    by_cases he : e.ev ρ = (i : Int)
    ·exact he
    ·exfalso; apply hc
     have hb : (e.ev ρ == (i : Int)) = false := by simpa using he
     show qQj (e.ev ρ == (i : Int)) = 0
     rw [hb]; rfl
   rw [this]; exact ⟨h.1.symm, h.2.symm⟩
  ·exact panE_sel h
theorem panT_sel {ρ : Env} {t : TypeId} {k : IntKind} {e : E} {s s' : St} {v : SV} (h : (panT t k e s).sel ρ = some (v, s')) : v = panS t k (e.ev ρ) ∧ s' = s := by
 unfold panT at h
 split at h
 ·cases h; exact ⟨rfl, rfl⟩
 ·exact panE_sel h
def mayPan (o : Oper) : Bool := match o.op with
 | .panic _ => true
 | .call c => (match c.callee with
  | .builtin _ => false
  | _ => true)
 | _ => false
def panOf (o : Oper) (v : SV) : Option (TypeId × IntKind × Int) := match mayPan o with
 | true => isPan v
 | false => none
def callST (cx : Cx) (cf : CFT) (ex : XF) (f : FuncId) (args : List SV) (s : St) : RT2 :=
 match ex f args with
 | some v => (match isPan v with
  | none => .leaf (v, s)
  | some _ => .bad 37)
 | none => if hasBody cx f then cf f args s else .bad 30
def opCT (cx : Cx) (cf : CFT) (rd : RDT) (ex : XF) (tm : List SV) (s : St) (o : Oper) : RT2 :=
 match qKx o with
 | true => .bad 34
 | false => match o.op with
 | .call c => match c.callee with
  | .value f => match evO tm f with
   | .func (.func fid) first cap => callST cx cf ex fid (first ++ c.args.toList.map (evO tm) ++ cap) s
   | .yld j => rd j (c.args.toList.map (evO tm)) s
   | _ => .bad 31
  | .invoke x name => match evO tm x with
   | .iface t v => match methodS cx t v name s with
    | some (fid, rv) => callST cx cf ex fid (rv :: c.args.toList.map (evO tm)) s
    | none => .bad 32
   | _ => .bad 33
  | .builtin _ => (opS cx tm s o).lift
 | .panic x => match evO tm x with
  | .iface t (.agg [.int k e]) => panT t k e s
  | _ => .bad 35
 | _ => (opS cx tm s o).lift
section
variable {cx : Cx} {ρ : Env} {β : Bt} {s s' : St} {w : World} {tm : List SV} {a : Act} {o : Oper} {r : SV} {cf : CFT} {rd : RDT} {ex : XF}
def PostN (cx : Cx) (ρ : Env) (β : Bt) (s s' : St) (w : World) (o : Oper) (r : SV) (V : Value) (w' : World) : Prop := panOf o r = none ∧ Post cx ρ β s s' w o r V w'
def PostP (ρ : Env) (β : Bt) (s s' : St) (w : World) (o : Oper) (r : SV) (ch : List PanicEntry) (w' : World) : Prop :=
 ∃ t k n, panOf o r = some (t, k, n) ∧ ch = panC t k n ∧ ∃ β', Sat ρ β' s' w' ∧ Ext s s' β β' w w'
theorem callST_ok (hcx : CxOk cx) (hcf : qJk cx cf) (hex : XOk cx ex) (hρ : EnvOk cx ρ) (hs : Sat ρ β s w) {f : FuncId} {args : List SV} (h : (callST cx cf ex f args s).sel ρ = some (r, s'))
  (hrun : (execOp a.eval o).run cx.P w = (callFunc f (SV.denL ρ β args).toArray).run cx.P w) (hch : chg o.op = true) (hmp : mayPan o = true) : OpGoodP cx.P o a w (PostN cx ρ β s s' w o r) (PostP ρ β s s' w o r) := by
 have hpo : ∀ v, panOf o v = isPan v := fun v => by unfold panOf; rw [hmp]
 unfold callST at h
 split at h
 ·rename_i v hv
  split at h
  case h_2 => cases h
  rename_i hnp
  cases h
  have := hex ρ β w f args _ hρ hv
  exact fun K Q hk _ => (Res.good (.inl (hrun.trans this)) (post := PostN cx ρ β s s w o _) ⟨(hpo _).trans hnp, β, rfl, hs, Ext.refl _ _ _, fun h' => Bool.noConfusion (hch.symm.trans h')⟩) K Q hk
 ·split at h
  ·rename_i hb
   unfold hasBody at hb
   split at hb
   ·rename_i fn hfn
    intro K Q hk hp
    unfold Oper.wp
    rw [hrun]
    have hcall : (callFunc f (SV.denL ρ β args).toArray).run cx.P w = .ok (.enter f (SV.denL ρ β args).toArray) w := by
     have hfn := cx.fnOk _ _ hfn
     have hn := hcx.nogo f fn hfn
     obtain ⟨bd, hbd⟩ := Option.isSome_iff_exists.1 hb
     simp only [callFunc, Sem.run_bind, run_program, Result.andThen_ok, hfn, hn, hbd]
     simp
    rw [hcall, Oper.upon_enter]
    refine (hcf ρ β s s' w f args r hρ hs h).mono ?_
    rintro e w' ⟨β', rfl, h1, h2⟩
    cases hpr : isPan r with
    | none => rw [qXc hpr]; exact hk _ _ ⟨(hpo r).trans hpr, β', rfl, h1, h2, fun h' => Bool.noConfusion (hch.symm.trans h')⟩
    | some q =>
     obtain ⟨t, k, n⟩ := q
     rw [endOf_some hpr]
     exact hp _ _ ⟨t, k, n, (hpo r).trans hpr, rfl, β', h1, h2⟩
   ·cases hb
  ·cases h
theorem opCT_ok (hcx : CxOk cx) (hcf : qJk cx cf) (hrd : qKq cx rd) (hex : XOk cx ex) (hρ : EnvOk cx ρ) (ht : a.tmps = (SV.denL ρ β tm).toArray) (hs : Sat ρ β s w) (h : (opCT cx cf rd ex tm s o).sel ρ = some (r, s')) :
  OpGoodR cx.P o a w (PostN cx ρ β s s' w o r) (PostP ρ β s s' w o r) := by
 unfold opCT at h
 split at h
 ·cases h
 rename_i hdf
 have plainOp : mayPan o = false → (opS cx tm s o).sel ρ = some (r, s') → OpGoodR cx.P o a w (PostN cx ρ β s s' w o r) (PostP ρ β s s' w o r) := fun hm h =>
  OpGood.r (fun K Q hk => (opS_ok hρ ht hs h).good K Q fun V w' hP => hk V w' ⟨by unfold panOf; rw [hm], hP⟩) hdf
 split at h
 ·rename_i c hc
  split at h
  ·rename_i f hf
   split at h
   ·rename_i fid first cap hv
    refine (callST_ok hcx hcf hex hρ hs h ?_ (by rw [hc]; rfl) (by unfold mayPan; simp only [hc, hf])).r hdf
    obtain ⟨callee, args, ats⟩ := c
    simp only at hf
    subst hf
    simp only [execOp, hc, resolve, qQb ht f, hv, SV.den, Deferred.ofValue, Sem.run_bind, Sem.run_pure, Result.andThen_ok, invoke, ops_map tm ht]
    congr 2
    apply Array.ext'
    simp
   ·rename_i j hv
    obtain ⟨hnp, fn, tmps, asg, body, hy, hR⟩ := hrd ρ β s s' w j _ r hρ hs h
    intro K Q hk _ r' n
    refine ⟨fun _ _ => trivial, ?_⟩
    rw [Oper.semAt_eq _ _ _ (not_defer hdf)]
    have hrun : (execOp a.eval o).run cx.P w = .ok (.round (β j).1 fn tmps asg body) w := by
     rw [← hy]
     obtain ⟨callee, args, ats⟩ := c
     simp only at hf
     subst hf
     simp only [execOp, hc, resolve, qQb ht f, hv, SV.den, Deferred.ofValue, Sem.run_bind, Sem.run_pure, Result.andThen_ok, invoke, ops_map tm ht]
     simp
    rw [hrun]
    refine ⟨(fun h => by cases h), (hR r' (n - 1)).mono ?_⟩
    rintro e w' ⟨β', rfl, h1, h2⟩
    exact hk _ _ ⟨by unfold panOf mayPan; simp only [hc, hf]; exact hnp, β', rfl, h1, h2, fun h' => by rw [hc] at h'; cases h'⟩
   ·cases h
  ·rename_i x name hf
   split at h
   ·rename_i t v hv
    split at h
    ·rename_i fid rv hm
     refine (callST_ok hcx hcf hex hρ hs h ?_ (by rw [hc]; rfl) (by unfold mayPan; simp only [hc, hf])).r hdf
     obtain ⟨callee, args, ats⟩ := c
     simp only at hf
     subst hf
     have hmm := methodS_ok hm hs (cx.P.types.size + Made.depth - 1)
     have hdep : 0 < Made.depth := by decide
     rw [show cx.P.types.size + Made.depth - 1 + 1 = cx.P.types.size + Made.depth from by omega] at hmm
     simp only [execOp, hc, resolve, qQb ht x, hv, SV.den, Sem.run_bind, Sem.run_pure, Result.andThen_ok, invoke, ops_map tm ht]
     simp only [callMethod, Array.getElem?_append, List.size_toArray, List.length_cons, List.length_nil]
     simp only [Nat.zero_add, Nat.zero_lt_one, if_true, List.getElem?_toArray, List.getElem?_cons_zero, Sem.run_bind, run_program, Result.andThen_ok, hmm]
     congr 2
     apply Array.ext'
     simp [SV.denL]
     rw [List.take_of_length_le (by simp)]
    ·cases h
   ·cases h
  ·rename_i b hf
   rw [T.lift_sel] at h
   exact plainOp (by unfold mayPan; simp only [hc, hf]) h
 ·rename_i x hx
  split at h
  ·rename_i t k e hv
   obtain ⟨rfl, rfl⟩ := panT_sel h
   intro K Q _ hp r' n
   refine ⟨fun _ _ => trivial, ?_⟩
   rw [Oper.semAt_eq _ _ _ (not_defer hdf)]
   have hrun : (execOp a.eval o).run cx.P w = .halt (.panic (panV t k (e.ev ρ))) w := by
    simp only [execOp, hx, qQb ht x, hv, SV.den, SV.denL]
    rfl
   rw [hrun]
   exact hp _ _ ⟨t, k, _, by unfold panOf mayPan; simp only [hx]; rfl, rfl, β, hs, Ext.refl _ _ _⟩
  ·cases h
 ·rename_i hnc hnp
  rw [T.lift_sel] at h
  exact plainOp (by unfold mayPan; split <;> simp_all) h
end
abbrev RRT := TT (List SV × St)
abbrev RCT := TT (Ex × List SV × St)
def qKg (cx : Cx) (cf : CFT) (rd : RDT) (ex : XF) (ops : Array Oper) : List Oper → List SV → St → RCT
 | [], tm, s => .leaf (.normal, tm, s)
 | o :: rest, tm, s =>
  let go (s : St) : RCT := (opCT cx cf rd ex tm s o).bind fun r => match panOf o r.1 with
   | none => if !chg o.op || SV.scL s.bl.length tm then qKg cx cf rd ex ops rest (putS tm o.dst r.1) r.2 else .bad 40
   | some (t, k, n) => if SV.scL s.bl.length tm then .leaf (.pan t k n, tm, r.2) else .bad 40
  let pass (s : St) : RCT := qKg cx cf rd ex ops rest (putS tm o.dst qZq) s
  match wantS ops tm o with
  | .yes => go s
  | .no => pass s
  | .on e want => if want then forkT s e go pass else forkT s e pass go
  | .unk => .bad 41
section
variable {cx : Cx} {ρ : Env} {cf : CFT} {rd : RDT} {ex : XF}
def thenL (P : Program) (ops : Array Oper) (Q : Exit → Act → World → Prop) (tl : List Oper) (r : Option Nat) : Ex → Act → World → Prop
 | .normal, a, w => wpListIn (fen r) 0 P ops Q tl a w
 | x, a, w => Q x.to a w
theorem runOpsT_ok' (hcx : CxOk cx) (hcf : qJk cx cf) (hrd : qKq cx rd) (hex : XOk cx ex) (hρ : EnvOk cx ρ) (ops : Array Oper) (tl : List Oper) : ∀ (l : List Oper) {tm tm' : List SV} {s s' : St} {x : Ex} {β : Bt} {w : World} {a : Act} {Q : Exit → Act → World → Prop} (r : Option Nat),
  a.tmps = (SV.denL ρ β tm).toArray → Sat ρ β s w → (qKg cx cf rd ex ops l tm s).sel ρ = some (x, tm', s') →
  (∀ a' w', BehX x ρ β s w a.defers tm' s' a' w' → thenL cx.P ops Q tl r x a' w') → wpListIn (fen r) 0 cx.P ops Q (l ++ tl) a w
 | [], tm, tm', s, s', x, β, w, a, Q, r, ht, hs, h, hQ => by
  cases h
  exact hQ _ _ ⟨β, tmAt_eq ht, rfl, hs, Ext.refl _ _ _⟩
 | o :: rest, tm, tm', s, s', x, β, w, a, Q, r', ht, hs, h, hQ => by
  have ih := fun {tm s β w a Q} h1 h2 h3 h4 => runOpsT_ok' hcx hcf hrd hex hρ ops tl rest (tm := tm) (tm' := tm') (s := s) (s' := s') (x := x) (β := β) (w := w) (a := a) (Q := Q) r' h1 h2 h3 h4
  have hw := qXd (ops := ops) (o := o) ht
  have go : ∀ s1, s1.bl = s.bl → Sat ρ β s1 w → Region.wanted o (yielded ops a.tmps) = true →
    ((opCT cx cf rd ex tm s1 o).bind fun r => match panOf o r.1 with
     | none => if !chg o.op || SV.scL s1.bl.length tm then qKg cx cf rd ex ops rest (putS tm o.dst r.1) r.2 else .bad 40
     | some (t, k, n) => if SV.scL s1.bl.length tm then .leaf (.pan t k n, tm, r.2) else .bad 40).sel ρ = some (x, tm', s') → wpListIn (fen r') 0 cx.P ops Q (o :: (rest ++ tl)) a w := by
   intro s1 e1 hs1 hwant h
   obtain ⟨⟨r, s2⟩, h1, h2⟩ := TT.sel_bind_some h
   simp only [wpListIn, hwant, if_true]
   refine opCT_ok hcx hcf hrd hex hρ ht hs1 h1 _ _ ?_ ?_ r' 0
   ·rintro V w' ⟨hpn, β', rfl, hs2, hx2, hch⟩
    simp only [hpn] at h2
    split at h2
    ·rename_i hc
     have htm : (SV.denL ρ β tm) = SV.denL ρ β' tm := by
      simp only [Bool.or_eq_true, Bool.not_eq_true'] at hc
      rcases hc with hc | hc
      ·rw [hch hc]
      ·exact (SV.denL_sc hx2.ag tm hc).symm
     rw [htm] at ht
     refine ih (qZj ht _ _) hs2 h2 fun a' w'' hb => hQ a' w'' ?_
     rw [qQg] at hb
     exact hb.of ((qQs e1 β w).trans hx2)
    ·cases h2
   ·rintro ch w' ⟨t, k, n, hpn, rfl, β', hs2, hx2⟩
    simp only [hpn] at h2
    split at h2
    ·rename_i hc
     cases h2
     have htm : (SV.denL ρ β tm) = SV.denL ρ β' tm := (SV.denL_sc hx2.ag tm hc).symm
     exact hQ _ _ ⟨β', tmAt_eq (by rw [ht, htm]), rfl, hs2, (qQs e1 β w).trans hx2⟩
    ·cases h2
  have pass : ∀ s1, s1.bl = s.bl → Sat ρ β s1 w → Region.wanted o (yielded ops a.tmps) = false →
    (qKg cx cf rd ex ops rest (putS tm o.dst qZq) s1).sel ρ = some (x, tm', s') → wpListIn (fen r') 0 cx.P ops Q (o :: (rest ++ tl)) a w := by
   intro s1 e1 hs1 hwant h
   simp only [wpListIn, hwant, Bool.false_eq_true, if_false]
   refine ⟨fun _ _ => trivial, ?_⟩
   refine ih (qZj ht o.dst qZq) hs1 h fun a' w'' hb => hQ a' w'' ?_
   rw [qQg] at hb
   exact hb.of (qQs e1 β w)
  simp only [qKg] at h
  rw [List.cons_append]
  cases hwd : wantS ops tm o with
  | yes => rw [hwd] at h hw; exact go s rfl hs hw h
  | no => rw [hwd] at h hw; exact pass s rfl hs hw h
  | unk => rw [hwd] at h; cases h
  | on e want =>
   rw [hwd] at h hw
   simp only at h hw
   cases want
   ·simp only [Bool.false_eq_true, if_false] at h
    obtain ⟨s1, e1, hs1, ⟨hne, h⟩ | ⟨h0, h⟩⟩ := forkT_ok hs h
    ·exact pass s1 e1 hs1 (by rw [hw]; simpa using hne) h
    ·exact go s1 e1 hs1 (by rw [hw]; simpa using h0) h
   ·simp only [if_true] at h
    obtain ⟨s1, e1, hs1, ⟨hne, h⟩ | ⟨h0, h⟩⟩ := forkT_ok hs h
    ·exact go s1 e1 hs1 (by rw [hw]; simpa using hne) h
    ·exact pass s1 e1 hs1 (by rw [hw]; simpa using h0) h
theorem runOpsT_ok (hcx : CxOk cx) (hcf : qJk cx cf) (hrd : qKq cx rd) (hex : XOk cx ex) (hρ : EnvOk cx ρ) (ops : Array Oper) (l : List Oper) {tm tm' : List SV} {s s' : St} {x : Ex} {β : Bt} {w : World} {a : Act} {Q : Exit → Act → World → Prop}
  (ht : a.tmps = (SV.denL ρ β tm).toArray) (hs : Sat ρ β s w) (h : (qKg cx cf rd ex ops l tm s).sel ρ = some (x, tm', s'))
  (hQ : ∀ a' w', BehX x ρ β s w a.defers tm' s' a' w' → Q x.to a' w') (r : Option Nat) : wpListIn (fen r) 0 cx.P ops Q l a w := by
 have := runOpsT_ok' hcx hcf hrd hex hρ ops [] l r ht hs h (Q := Q) fun a' w' hb => by
  have := hQ a' w' hb
  cases x <;> exact this
 rwa [List.append_nil] at this
end
def loopU (body : List SV → St → RCT) : Nat → List SV → St → RCT
 | 0, _, _ => .bad 70
 | n + 1, tm, s => (body tm s).bind fun r => match r.1 with
  | .normal => loopU body n r.2.1 r.2.2
  | e => .leaf (e, r.2)
def bdOb (cx : Cx) : List (Option (Int × Int)) → List E → List E
 | some p :: l, e :: m => if ivIn (e.iv cx) p.1 p.2 then bdOb cx l m else leE cx (.c p.1) e :: leE cx e (.c p.2) :: bdOb cx l m
 | none :: l, _ :: m => bdOb cx l m
 | _, _ => []
theorem bdOb_ok {cx : Cx} {ρ : Env} (hρ : EnvOk cx ρ) : ∀ {l : List (Option (Int × Int))} {m : List E}, l.length = m.length → (∀ c ∈ bdOb cx l m, c.ev ρ ≠ 0) → inBd l (m.map (E.ev ρ))
 | [], [], _, _ => trivial
 | none :: l, e :: m, hl, h => ⟨trivial, bdOb_ok hρ (by simpa using hl) h⟩
 | some p :: l, e :: m, hl, h => by
  simp only [bdOb] at h
  split at h
  ·rename_i hi
   exact ⟨ivIn_ok hi (E.iv_ok hρ e), bdOb_ok hρ (by simpa using hl) h⟩
  ·have h1 := qQw hρ (h _ List.mem_cons_self)
   have h2 := qQw hρ (h _ (List.mem_cons_of_mem _ List.mem_cons_self))
   exact ⟨⟨h1, h2⟩, bdOb_ok hρ (by simpa using hl) fun c hc => h c (List.mem_cons_of_mem _ (List.mem_cons_of_mem _ hc))⟩
 | [], _ :: _, hl, _ => by simp at hl
 | none :: _, [], hl, _ => by simp at hl
 | some _ :: _, [], hl, _ => by simp at hl
def obTB : List E → TB → TB
 | [], t => t
 | .c n :: l, t => if n ≠ 0 then obTB l t else .bad 303
 | e :: l, t => .br e (obTB l t) (.bad 303)
theorem obTB_sel {ρ : Env} : ∀ {l : List E} {t : TB} {r : List Int ⊕ Nat}, (obTB l t).sel ρ = some r → t.sel ρ = some r ∧ ∀ c ∈ l, c.ev ρ ≠ 0
 | [], t, r, h => ⟨h, fun c hc => by cases hc⟩
 | e :: l, t, r, h => by
  have key : (∀ n, e = .c n → n ≠ 0 ∧ (obTB l t).sel ρ = some r) ∧ ((∀ n, e ≠ .c n) → e.ev ρ ≠ 0 ∧ (obTB l t).sel ρ = some r) := by
   constructor
   ·rintro n rfl
    simp only [obTB] at h
    split at h
    ·exact ⟨by assumption, h⟩
    ·cases h
   ·intro hn
    have : obTB (e :: l) t = .br e (obTB l t) (.bad 303) := by
     cases e <;> first | rfl | exact absurd rfl (hn _)
    rw [this] at h
    simp only [TB.sel] at h
    split at h
    ·exact ⟨by assumption, h⟩
    ·cases h
  by_cases hc : ∃ n, e = .c n
  ·obtain ⟨n, rfl⟩ := hc
   obtain ⟨h1, h2⟩ := key.1 n rfl
   obtain ⟨h3, h4⟩ := obTB_sel h2
   refine ⟨h3, fun c hc => ?_⟩
   rcases List.mem_cons.1 hc with rfl | hc
   ·exact h1
   ·exact h4 c hc
  ·obtain ⟨h1, h2⟩ := key.2 fun n hn => hc ⟨n, hn⟩
   obtain ⟨h3, h4⟩ := obTB_sel h2
   refine ⟨h3, fun c hc => ?_⟩
   rcases List.mem_cons.1 hc with rfl | hc
   ·exact h1
   ·exact h4 c hc
structure LC where
 cx : Cx
 base : Nat
 n0 : Nat
 hd : Hd
def LC.ab (c : LC) (tm : List SV) (s : St) : Ab := abOf c.base c.hd (unify c.cx c.base c.n0 c.hd tm s)
def LC.chk (c : LC) (a : Ab) (tm : List SV) (s : St) : Bool := a.check c.cx c.n0 c.hd.tm c.hd.bl tm s && Nat.beq a.bds.length a.es.length
def LC.conv (c : LC) : Nat → RCT → TB × List (Ex × List SV × St)
 | k, .leaf (.normal, tm, s) => let a := c.ab tm s; (if c.chk a tm s then obTB (bdOb c.cx a.bds a.es) (.back a.es) else .bad 302, [])
 | k, .leaf r => (.exit k, [r])
 | k, .br e t f => let x := c.conv k t; let y := c.conv (k + x.2.length) f; (.br e x.1 y.1, x.2 ++ y.2)
 | _, .bad n => (.bad n, [])
 | k, .new i e t => let x := c.conv k t; (.new i e x.1, x.2)
 | k, .loop L b r => let x := c.conv k r; (.loop L b x.1, x.2)
def exTree (x : Nat) : Nat → List (Ex × List SV × St) → RCT
 | _, [] => .bad 304
 | _, [r] => .leaf r
 | i, r :: l => .br (.b .eq .i64 (.v x) (.c i)) (.leaf r) (exTree x (i + 1) l)
def mark (i : Nat) (s : St) : St := { s with kn := (.b .eq .i64 (.cl i 0 0) (.cl i 0 0), true) :: s.kn }
def marksOf (cx : Cx) (mk0 : Option qJb) (body : List SV → St → RCT) (base : Nat) (tm : List SV) (s : St) : qJb :=
 match mk0 with
 | some (([], _) :: sd) => inferL cx body base tm s 8 false sd
 | some mk => mk
 | none => inferL cx body base tm s 8 false []
def loopT (cx : Cx) (mk0 : Option qJb) (body : List SV → St → RCT) (tm : List SV) (s : St) : RCT :=
 let base := nextN s.kn
 let mk := marksOf cx mk0 body base tm s
 let hd := mkHead mk base tm s
 let c : LC := ⟨cx, base, s.bl.length, hd⟩
 let a0 := c.ab tm s
 let t := body hd.tm (mark (base + hd.bds.length) { s with bl := hd.bl })
 let x := TT.top t (base + hd.bds.length) + 1
 let r := c.conv 0 t
 if c.chk a0 tm s && cx.okB base && knVb base s.kn then
  (bdOb cx a0.bds a0.es).foldr (fun e t => match e with
   | .c n => if n ≠ 0 then t else .bad 305
   | e => .br e t (.bad 305)) (.loop ⟨base, hd.bds, a0.es, x⟩ r.1 (exTree x 0 (r.2.map fun q => (q.1, q.2.1, mark (x + 1) q.2.2))))
 else .bad 301
section
variable {cx : Cx} {ρ : Env}
def CodeOkT (cx : Cx) (rnd : Option Nat) (body : List SV → St → RCT) (c : Code) : Prop :=
 ∀ (ρ : Env) (tm tm' : List SV) (s s' : St) (x : Ex) (β : Bt) (w : World) (a : Act) (Q : Exit → Act → World → Prop), EnvOk cx ρ → rIn rnd s →
  a.tmps = (SV.denL ρ β tm).toArray → Sat ρ β s w → (body tm s).sel ρ = some (x, tm', s') →
  (∀ a' w', BehM x ρ β s w a.defers tm' s' a' w' → Q x.to a' w') → c.wpIn (fen (rOf rnd β)) 0 cx.P Q a w
theorem loopU_ok {rnd : Option Nat} {body : List SV → St → RCT} {c : Code} (hb : CodeOkT cx rnd body c) (hρ : EnvOk cx ρ) : ∀ (n : Nat) {tm tm' : List SV} {s s' : St} {x : Ex} {β : Bt} {w : World} {a : Act} {Q : Exit → Act → World → Prop}, rIn rnd s →
  a.tmps = (SV.denL ρ β tm).toArray → Sat ρ β s w → (loopU body n tm s).sel ρ = some (x, tm', s') →
  (∀ a' w', BehM x ρ β s w a.defers tm' s' a' w' → Q x.to a' w') → Code.roundsIn (fen (rOf rnd β)) 0 cx.P c Q n a w
 | 0, tm, tm', s, s', x, β, w, a, Q, hr, ht, hs, h, hQ => by cases h
 | n + 1, tm, tm', s, s', x, β, w, a, Q, hr, ht, hs, h, hQ => by
  simp only [loopU] at h
  obtain ⟨⟨x1, tm1, s1⟩, h1, h2⟩ := TT.sel_bind_some h
  rw [roundsIn_succ]
  refine hb _ _ _ _ _ _ _ _ _ _ hρ hr ht hs h1 ?_
  rintro a' w' ⟨β', ms, ht', hd', hs', hx', hm'⟩
  cases x1 with
  | normal =>
   rw [← rOf_ext hr hx']
   refine loopU_ok hb hρ n (hr.ext hx') ht' hs' h2 fun a2 w2 hb2 => hQ a2 w2 ?_
   rw [hd'] at hb2
   exact hb2.of hx' hm'
  | exit id => cases h2; exact hQ _ _ ⟨β', ms, ht', hd', hs', hx', hm'⟩
  | ret => cases h2; exact hQ _ _ ⟨β', ms, ht', hd', hs', hx', hm'⟩
  | pan _ _ _ => cases h2; exact hQ _ _ ⟨β', ms, ht', hd', hs', hx', hm'⟩
theorem conv_out {c : LC} : ∀ {t : RCT} {k n : Nat}, (c.conv k t).1.sel ρ = some (.inr n) → k ≤ n ∧ ∃ r, (c.conv k t).2[n - k]? = some r ∧ t.sel ρ = some r ∧ r.1 ≠ .normal
 | .leaf (.normal, tm, s), k, n, h => by
  simp only [LC.conv] at h
  split at h
  ·obtain ⟨h1, _⟩ := obTB_sel h
   cases h1
  ·cases h
 | .leaf (.exit i, r), k, n, h => by
  simp only [LC.conv, TB.sel, Option.some.injEq, Sum.inr.injEq] at h
  subst h
  exact ⟨Nat.le_refl _, _, by simp [LC.conv], rfl, by simp⟩
 | .leaf (.ret, r), k, n, h => by
  simp only [LC.conv, TB.sel, Option.some.injEq, Sum.inr.injEq] at h
  subst h
  exact ⟨Nat.le_refl _, _, by simp [LC.conv], rfl, by simp⟩
 | .leaf (.pan _ _ _, r), k, n, h => by
  simp only [LC.conv, TB.sel, Option.some.injEq, Sum.inr.injEq] at h
  subst h
  exact ⟨Nat.le_refl _, _, by simp [LC.conv], rfl, by simp⟩
 | .br e t f, k, n, h => by
  simp only [LC.conv, TB.sel] at h
  split at h
  ·rename_i hc
   obtain ⟨h1, r, h2, h3, h4⟩ := conv_out h
   refine ⟨h1, r, ?_, by simp only [TT.sel]; rw [if_pos hc]; exact h3, h4⟩
   simp only [LC.conv]
   rw [List.getElem?_append_left ((List.getElem?_eq_some_iff.1 h2).1)]
   exact h2
  ·rename_i hc
   obtain ⟨h1, r, h2, h3, h4⟩ := conv_out h
   refine ⟨by omega, r, ?_, by simp only [TT.sel]; rw [if_neg hc]; exact h3, h4⟩
   simp only [LC.conv]
   rw [List.getElem?_append_right (by omega), show n - k - (c.conv k t).2.length = n - (k + (c.conv k t).2.length) by omega]
   exact h2
 | .bad m, k, n, h => by cases h
 | .new i e t, k, n, h => by
  simp only [LC.conv, TB.sel] at h
  split at h
  ·rename_i hc
   obtain ⟨h1, r, h2, h3, h4⟩ := conv_out h
   exact ⟨h1, r, h2, by simp only [TT.sel]; rw [if_pos hc]; exact h3, h4⟩
  ·cases h
 | .loop L b t, k, n, h => by
  simp only [LC.conv, TB.sel] at h
  split at h
  ·rename_i hc
   obtain ⟨h1, r, h2, h3, h4⟩ := conv_out h
   exact ⟨h1, r, h2, by simp only [TT.sel]; rw [if_pos hc]; exact h3, h4⟩
  ·cases h
theorem qYq {c : LC} (hρ : EnvOk c.cx ρ) : ∀ {t : RCT} {k : Nat} {σ : List Int}, (c.conv k t).1.sel ρ = some (.inl σ) → ∃ tm s, t.sel ρ = some (.normal, tm, s) ∧ c.chk (c.ab tm s) tm s = true ∧ σ = (c.ab tm s).es.map (E.ev ρ) ∧ inBd (c.ab tm s).bds σ
 | .leaf (.normal, tm, s), k, σ, h => by
  simp only [LC.conv] at h
  split at h
  ·rename_i hc
   obtain ⟨h1, h2⟩ := obTB_sel h
   simp only [TB.sel, Option.some.injEq, Sum.inl.injEq] at h1
   refine ⟨tm, s, rfl, hc, h1.symm, ?_⟩
   rw [← h1]
   simp only [LC.chk, Bool.and_eq_true] at hc
   exact bdOb_ok hρ (Nat.eq_of_beq_eq_true hc.2) h2
  ·cases h
 | .leaf (.exit i, r), k, n, h => by simp [LC.conv, TB.sel] at h
 | .leaf (.ret, r), k, n, h => by simp [LC.conv, TB.sel] at h
 | .leaf (.pan _ _ _, r), k, n, h => by simp [LC.conv, TB.sel] at h
 | .br e t f, k, n, h => by
  simp only [LC.conv, TB.sel] at h
  split at h
  ·rename_i hc
   obtain ⟨tm, s, h1, h2⟩ := qYq hρ h
   exact ⟨tm, s, by simp only [TT.sel]; rw [if_pos hc]; exact h1, h2⟩
  ·rename_i hc
   obtain ⟨tm, s, h1, h2⟩ := qYq hρ h
   exact ⟨tm, s, by simp only [TT.sel]; rw [if_neg hc]; exact h1, h2⟩
 | .bad m, k, n, h => by cases h
 | .new i e t, k, n, h => by
  simp only [LC.conv, TB.sel] at h
  split at h
  ·rename_i hc
   obtain ⟨tm, s, h1, h2⟩ := qYq hρ h
   exact ⟨tm, s, by simp only [TT.sel]; rw [if_pos hc]; exact h1, h2⟩
  ·cases h
 | .loop L b t, k, n, h => by
  simp only [LC.conv, TB.sel] at h
  split at h
  ·rename_i hc
   obtain ⟨tm, s, h1, h2⟩ := qYq hρ h
   exact ⟨tm, s, by simp only [TT.sel]; rw [if_pos hc]; exact h1, h2⟩
  ·cases h
theorem exTree_sel {x : Nat} : ∀ {l : List (Ex × List SV × St)} {i k : Nat} {r q : Ex × List SV × St}, l[k]? = some q → ρ.i x = ((i + k : Nat) : Int) → (exTree x i l).sel ρ = some r → r = q
 | [], i, k, r, q, hk, _, _ => by simp at hk
 | [p], i, 0, r, q, hk, _, h => by
  simp at hk; subst hk
  simp only [exTree, TT.sel, Option.some.injEq] at h
  exact h.symm
 | [p], i, k + 1, r, q, hk, _, _ => by simp at hk
 | p :: p2 :: l, i, 0, r, q, hk, hx, h => by
  simp at hk; subst hk
  simp only [exTree, TT.sel, E.ev, BO.ev, hx, qQj] at h
  simp at h
  exact h.symm
 | p :: p2 :: l, i, k + 1, r, q, hk, hx, h => by
  simp only [exTree, TT.sel, E.ev, BO.ev, hx, qQj] at h
  have hne : ((((i + (k + 1) : Nat) : Int)) == (i : Int)) = false := by simp; omega
  rw [hne] at h
  simp only [Bool.false_eq_true, if_false, ne_eq, not_true_eq_false] at h
  exact exTree_sel (l := p2 :: l) (i := i + 1) (k := k) (by simpa using hk) (by rw [hx]; congr 1; omega) h
theorem foldr_sel {t : RCT} {r : Ex × List SV × St} : ∀ {l : List E}, (l.foldr (fun e t => match e with
      | .c n => if n ≠ 0 then t else .bad 305
      | e => .br e t (.bad 305)) t).sel ρ = some r → t.sel ρ = some r ∧ ∀ c ∈ l, c.ev ρ ≠ 0
 | [], h => ⟨h, fun c hc => by cases hc⟩
 | e :: l, h => by
  simp only [List.foldr_cons] at h
  split at h
  ·rename_i n
   split at h
   ·rename_i hn
    obtain ⟨h1, h2⟩ := foldr_sel h
    refine ⟨h1, fun c hc => ?_⟩
    rcases List.mem_cons.1 hc with rfl | hc
    ·exact hn
    ·exact h2 c hc
   ·cases h
  ·simp only [TT.sel] at h
   split at h
   ·rename_i hn
    obtain ⟨h1, h2⟩ := foldr_sel h
    refine ⟨h1, fun c hc => ?_⟩
    rcases List.mem_cons.1 hc with rfl | hc
    ·exact hn
    ·exact h2 c hc
   ·cases h
theorem mark_kn {ρ : Env} {i : Nat} {s : St} (h : ∀ e b, (e, b) ∈ s.kn → (e.ev ρ != 0) = b) : ∀ e b, (e, b) ∈ (mark i s).kn → (e.ev ρ != 0) = b := by
 intro e b hm
 rcases List.mem_cons.1 hm with hm | hm
 ·cases hm
  simp [E.ev, BO.ev, qQj]
 ·exact h e b hm
theorem loopT_ok {rnd : Option Nat} {mk0 : Option qJb} {body : List SV → St → RCT} {c : Code} (hb : CodeOkT cx rnd body c) (hρ : EnvOk cx ρ) {tm tm' : List SV} {s s' : St} {x : Ex} {β : Bt} {w : World} {a : Act} {Q : Exit → Act → World → Prop}
  (hr0 : rIn rnd s) (ht : a.tmps = (SV.denL ρ β tm).toArray) (hs : Sat ρ β s w) (h : (loopT cx mk0 body tm s).sel ρ = some (x, tm', s'))
  (hQ : ∀ a' w', BehM x ρ β s w a.defers tm' s' a' w' → Q x.to a' w') : (Code.loop c).wpIn (fen (rOf rnd β)) 0 cx.P Q a w := by
 unfold loopT at h
 simp only at h
 generalize hmk : marksOf cx mk0 body (nextN s.kn) tm s = mk at h
 generalize hhd : mkHead mk (nextN s.kn) tm s = hd at h
 generalize hbase : nextN s.kn = base at h hhd
 split at h
 case isFalse => cases h
 rename_i hc
 simp only [Bool.and_eq_true] at hc
 obtain ⟨⟨hchk, hok⟩, hkn⟩ := hc
 obtain ⟨h, hbd⟩ := foldr_sel h
 have hlc : ∀ tm s', (LC.mk cx base s.bl.length hd).ab tm s' = abOf base hd (unify cx base s.bl.length hd tm s') := fun _ _ => rfl
 have hab : ∀ tm s', ((LC.mk cx base s.bl.length hd).ab tm s').base = base ∧ ((LC.mk cx base s.bl.length hd).ab tm s').bds = hd.bds := fun _ _ => ⟨rfl, rfl⟩
 have hchk0 := hchk
 simp only [LC.chk, Bool.and_eq_true] at hchk
 have hin0 := bdOb_ok hρ (Nat.eq_of_beq_eq_true hchk.2) hbd
 -- the head's state
 generalize hsH : mark (base + hd.bds.length) { s with bl := hd.bl } = sH at h
 have hsHbl : sH.bl = hd.bl := by rw [← hsH]; rfl
 have hkH : ∀ ρ', Agn base ρ ρ' → ∀ e b, (e, b) ∈ sH.kn → (e.ev ρ' != 0) = b := by
  intro ρ' hag
  rw [← hsH]
  refine mark_kn fun e b hm => ?_
  have := List.all_eq_true.1 hkn _ hm
  rw [E.vb_ev hag e this]
  exact hs.kn e b hm
 simp only [TT.sel] at h
 split at h
 case isFalse => cases h
 rename_i hch
 generalize hL : (Lp.mk base hd.bds ((LC.mk cx base s.bl.length hd).ab tm s).es (TT.top (body hd.tm sH) (base + hd.bds.length) + 1)) = L at h hch
 have hLv : ∀ ρ', L.vals ρ' = (List.range hd.bds.length).map (fun k => ρ'.i (base + k)) := by intro ρ'; rw [← hL]; rfl
 have hLb : L.bds = hd.bds := by rw [← hL]
 have hLB : L.base = base := by rw [← hL]
 -- what is kept from round to round
 let Inv : List Int → Act → World → Prop := fun σ a' w' => ∃ ms, a'.defers = ms ++ a.defers ∧ ∃ βH, Ext s sH β βH w w' ∧ Marks' βH sH w w' ms ∧ ∀ ρ', Agn base ρ ρ' → L.vals ρ' = σ → a'.tmps = (SV.denL ρ' βH hd.tm).toArray ∧ Sat ρ' βH sH w'
 have hback : ∀ (ρ1 : Env), EnvOk cx ρ1 → Agn base ρ ρ1 → ∀ (tm1 : List SV) (s1 : St) (β1 : Bt) (w1 : World) (a1 : Act), (LC.mk cx base s.bl.length hd).chk ((LC.mk cx base s.bl.length hd).ab tm1 s1) tm1 s1 = true →
   inBd hd.bds (((LC.mk cx base s.bl.length hd).ab tm1 s1).es.map (E.ev ρ1)) → a1.tmps = (SV.denL ρ1 β1 tm1).toArray → ∀ ms, a1.defers = ms ++ a.defers → Sat ρ1 β1 s1 w1 → Ext s s1 β β1 w w1 → Marks' β1 s1 w w1 ms →
   Inv (((LC.mk cx base s.bl.length hd).ab tm1 s1).es.map (E.ev ρ1)) a1 w1 := by
  intro ρ1 hρ1 hag1 tm1 s1 β1 w1 a1 hck hin ht1 ms hd1 hs1 hx1 hm1
  simp only [LC.chk, Bool.and_eq_true] at hck
  have hck2 : ((LC.mk cx base s.bl.length hd).ab tm1 s1).check cx s.bl.length hd.tm sH.bl tm1 s1 = true := by rw [hsHbl]; exact hck.1
  obtain ⟨k1, kl, k2⟩ := check_ok hρ1 hck2 hs1 hx1 hin
  refine ⟨ms, hd1, _, k1, ⟨fun m hm => (let ⟨b, h1, h2, h3, h4⟩ := hm1.all m hm; ⟨b, h1, h2, h3, fun j hj => (let ⟨i, h5, h6⟩ := kl j hj; by rw [h6]; exact h4 i h5)⟩), hm1.nod⟩, fun ρ' hag hv => ?_⟩
  have hag2 : Agn base ρ1 ρ' := hag1.symm.trans hag
  obtain ⟨k3, k4⟩ := k2 ρ' hag2 ((hLv ρ').symm.trans hv) (hkH ρ' hag)
  exact ⟨by rw [ht1, ← k3], k4⟩
 have hinit : Inv (L.init.map (E.ev ρ)) a w := by
  rw [← hL]
  exact hback ρ hρ (Agn.refl _ _) tm s β w a hchk0 hin0 ht [] rfl hs (Ext.refl _ _ _) (.nil _ _ _ _)
 have key : ∀ σ, Chain (fun ρ' => ((LC.mk cx base s.bl.length hd).conv 0 (body hd.tm sH)).1.sel ρ') L ρ σ → ∃ n, ∀ a' w', Inv σ a' w' → Code.roundsIn (fen (rOf rnd β)) 0 cx.P c Q n a' w' := by
  intro σ hch
  induction hch with
  | @last n hsel hxid =>
   refine ⟨1, fun a' w' hinv => ?_⟩
   obtain ⟨ms, hd', βH, hxH, hmH, hH⟩ := hinv
   obtain ⟨ht', hs'⟩ := hH ρ (Agn.refl _ _) rfl
   obtain ⟨_, q, hq1, hq2, hq3⟩ := conv_out hsel
   rw [Nat.sub_zero] at hq1
   have hr := exTree_sel (x := TT.top (body hd.tm sH) (base + hd.bds.length) + 1) (i := 0) (k := n) (q := (q.1, q.2.1, mark (TT.top (body hd.tm sH) (base + hd.bds.length) + 1 + 1) q.2.2)) (by rw [List.getElem?_map, hq1]; rfl) (by
    rw [Nat.zero_add, ← hxid, ← hL]) h
   cases hr
   rw [roundsIn_succ]
   rw [← rOf_ext hr0 hxH]
   refine hb ρ _ _ _ _ _ _ _ _ _ hρ (hr0.ext hxH) ht' hs' hq2 ?_
   rintro a2 w2 ⟨β2, ns, ht2, hd2, hs2, hx2, hm2⟩
   have hbeh : BehM q.1 ρ β s w a.defers q.2.1 (mark (TT.top (body hd.tm sH) (base + hd.bds.length) + 1 + 1) q.2.2) a2 w2 := by
    refine ⟨β2, ns ++ ms, ht2, by rw [hd2, hd', List.append_assoc], ⟨hs2.blk, hs2.inj, mark_kn hs2.kn, hs2.ro⟩, ?_, (hmH.app hx2 hxH.size hm2).less fun j hj => hj⟩
    exact (hxH.trans hx2).trans (qQs (s := q.2.2) (s1 := mark (TT.top (body hd.tm sH) (base + hd.bds.length) + 1 + 1) q.2.2) rfl β2 w2)
   have := hQ a2 w2 hbeh
   obtain ⟨qx, qr⟩ := q
   cases qx with
   | normal => exact absurd rfl hq3
   | exit id => exact this
   | ret => exact this
   | pan _ _ _ => exact this
  | @step σ' ρ' hag hsel _ ih =>
   obtain ⟨n, ih⟩ := ih
   refine ⟨n + 1, fun a' w' hinv => ?_⟩
   obtain ⟨ms, hd', βH, hxH, hmH, hH⟩ := hinv
   rw [hLB] at hag
   have hρ' : EnvOk cx ρ' := EnvOk.agn hok hρ hag
   obtain ⟨ht', hs'⟩ := hH ρ' hag rfl
   obtain ⟨tm1, s1, h1, h2, h3, h4⟩ := qYq (c := LC.mk cx base s.bl.length hd) hρ' hsel
   rw [roundsIn_succ]
   rw [← rOf_ext hr0 hxH]
   refine hb ρ' _ _ _ _ _ _ _ _ _ hρ' (hr0.ext hxH) ht' hs' h1 ?_
   rintro a2 w2 ⟨β2, ns, ht2, hd2, hs2, hx2, hm2⟩
   rw [rOf_ext hr0 hxH]
   refine ih a2 w2 ?_
   rw [h3]
   refine hback ρ' hρ' hag tm1 s1 β2 w2 a2 h2 ?_ ht2 (ns ++ ms) (by rw [hd2, hd', List.append_assoc]) hs2 (hxH.trans hx2) (hmH.app hx2 hxH.size hm2)
   rw [← h3]; exact h4
 have hch' : Chain (fun ρ' => ((LC.mk cx base s.bl.length hd).conv 0 (body hd.tm sH)).1.sel ρ') L ρ (L.init.map (E.ev ρ)) := by
  rw [← hL] at hch ⊢
  exact hch
 obtain ⟨n, hn⟩ := key _ hch'
 exact wpIn_loop_rounds n (hn a w hinit)
def BodyR (cx : Cx) (rnd : Option Nat) (body : List SV → St → RCT) (c : Code) : Prop :=
 ∀ (ρ : Env) (tm tm' : List SV) (s s' : St) (x : Ex), EnvOk cx ρ → (body tm s).sel ρ = some (x, tm', s') → ∃ n, ∀ (β : Bt) (w : World) (a : Act) (Q : Exit → Act → World → Prop), rIn rnd s →
  a.tmps = (SV.denL ρ β tm).toArray → Sat ρ β s w → (∀ a' w', BehM x ρ β s w a.defers tm' s' a' w' → Q x.to a' w') →
  (x = .normal → c.wpIn (fen (rOf rnd β)) 0 cx.P Q a w) ∧ (x ≠ .normal → Code.roundsIn (fen (rOf rnd β)) 0 cx.P c Q n a w)
theorem bodyR_of {rnd : Option Nat} {body : List SV → St → RCT} {c : Code} (hb : CodeOkT cx rnd body c) : BodyR cx rnd body c := by
 intro ρ tm tm' s s' x hρ h
 refine ⟨1, fun β w a Q hr ht hs hQ => ⟨fun _ => hb _ _ _ _ _ _ _ _ _ _ hρ hr ht hs h hQ, fun hx => ?_⟩⟩
 rw [roundsIn_succ]
 refine hb _ _ _ _ _ _ _ _ _ _ hρ hr ht hs h fun a' w' hbeh => ?_
 cases x with
 | normal => exact absurd rfl hx
 | exit id => exact hQ _ _ hbeh
 | ret => exact hQ _ _ hbeh
 | pan _ _ _ => exact hQ _ _ hbeh
theorem loopR_ok {rnd : Option Nat} {mk0 : Option qJb} {body : List SV → St → RCT} {c : Code} (hb : BodyR cx rnd body c) (hρ : EnvOk cx ρ) {tm tm' : List SV} {s s' : St} {x : Ex}
  (h : (loopT cx mk0 body tm s).sel ρ = some (x, tm', s')) :
  x ≠ .normal ∧ ∃ n, ∀ (β : Bt) (w : World) (a : Act) (Q : Exit → Act → World → Prop), rIn rnd s → a.tmps = (SV.denL ρ β tm).toArray → Sat ρ β s w →
   (∀ a' w', BehM x ρ β s w a.defers tm' s' a' w' → Q x.to a' w') → Code.roundsIn (fen (rOf rnd β)) 0 cx.P c Q n a w := by
 unfold loopT at h
 simp only at h
 generalize hmk : marksOf cx mk0 body (nextN s.kn) tm s = mk at h
 generalize hhd : mkHead mk (nextN s.kn) tm s = hd at h
 generalize hbase : nextN s.kn = base at h hhd
 split at h
 case isFalse => cases h
 rename_i hc
 simp only [Bool.and_eq_true] at hc
 obtain ⟨⟨hchk, hok⟩, hkn⟩ := hc
 obtain ⟨h, hbd⟩ := foldr_sel h
 have hchk0 := hchk
 simp only [LC.chk, Bool.and_eq_true] at hchk
 have hin0 := bdOb_ok hρ (Nat.eq_of_beq_eq_true hchk.2) hbd
 generalize hsH : mark (base + hd.bds.length) { s with bl := hd.bl } = sH at h
 have hsHbl : sH.bl = hd.bl := by rw [← hsH]; rfl
 simp only [TT.sel] at h
 split at h
 case isFalse => cases h
 rename_i hch
 generalize hL : (Lp.mk base hd.bds ((LC.mk cx base s.bl.length hd).ab tm s).es (TT.top (body hd.tm sH) (base + hd.bds.length) + 1)) = L at h hch
 have hLv : ∀ ρ', L.vals ρ' = (List.range hd.bds.length).map (fun k => ρ'.i (base + k)) := by intro ρ'; rw [← hL]; rfl
 have hLB : L.base = base := by rw [← hL]
 let Inv : Bt → World → Act → List Int → Act → World → Prop := fun β w a σ a' w' => ∃ ms, a'.defers = ms ++ a.defers ∧ ∃ βH, Ext s sH β βH w w' ∧ Marks' βH sH w w' ms ∧ ∀ ρ', Agn base ρ ρ' → L.vals ρ' = σ → a'.tmps = (SV.denL ρ' βH hd.tm).toArray ∧ Sat ρ' βH sH w'
 have hback : ∀ (β : Bt) (w : World) (a : Act), Sat ρ β s w → ∀ (ρ1 : Env), EnvOk cx ρ1 → Agn base ρ ρ1 → ∀ (tm1 : List SV) (s1 : St) (β1 : Bt) (w1 : World) (a1 : Act), (LC.mk cx base s.bl.length hd).chk ((LC.mk cx base s.bl.length hd).ab tm1 s1) tm1 s1 = true →
   inBd hd.bds (((LC.mk cx base s.bl.length hd).ab tm1 s1).es.map (E.ev ρ1)) → a1.tmps = (SV.denL ρ1 β1 tm1).toArray → ∀ ms, a1.defers = ms ++ a.defers → Sat ρ1 β1 s1 w1 → Ext s s1 β β1 w w1 → Marks' β1 s1 w w1 ms →
   Inv β w a (((LC.mk cx base s.bl.length hd).ab tm1 s1).es.map (E.ev ρ1)) a1 w1 := by
  intro β w a hs ρ1 hρ1 hag1 tm1 s1 β1 w1 a1 hck hin ht1 ms hd1 hs1 hx1 hm1
  have hkH : ∀ ρ', Agn base ρ ρ' → ∀ e b, (e, b) ∈ sH.kn → (e.ev ρ' != 0) = b := by
   intro ρ' hag
   rw [← hsH]
   refine mark_kn fun e b hm => ?_
   have := List.all_eq_true.1 hkn _ hm
   rw [E.vb_ev hag e this]
   exact hs.kn e b hm
  simp only [LC.chk, Bool.and_eq_true] at hck
  have hck2 : ((LC.mk cx base s.bl.length hd).ab tm1 s1).check cx s.bl.length hd.tm sH.bl tm1 s1 = true := by rw [hsHbl]; exact hck.1
  obtain ⟨k1, kl, k2⟩ := check_ok hρ1 hck2 hs1 hx1 hin
  refine ⟨ms, hd1, _, k1, ⟨fun m hm => (let ⟨b, h1, h2, h3, h4⟩ := hm1.all m hm; ⟨b, h1, h2, h3, fun j hj => (let ⟨i, h5, h6⟩ := kl j hj; by rw [h6]; exact h4 i h5)⟩), hm1.nod⟩, fun ρ' hag hv => ?_⟩
  have hag2 : Agn base ρ1 ρ' := hag1.symm.trans hag
  obtain ⟨k3, k4⟩ := k2 ρ' hag2 ((hLv ρ').symm.trans hv) (hkH ρ' hag)
  exact ⟨by rw [ht1, ← k3], k4⟩
 have key : ∀ σ, Chain (fun ρ' => ((LC.mk cx base s.bl.length hd).conv 0 (body hd.tm sH)).1.sel ρ') L ρ σ → x ≠ .normal ∧ ∃ n, ∀ (β : Bt) (w : World) (a : Act) (Q : Exit → Act → World → Prop), rIn rnd s → Sat ρ β s w →
   (∀ a' w', BehM x ρ β s w a.defers tm' s' a' w' → Q x.to a' w') → ∀ a' w', Inv β w a σ a' w' → Code.roundsIn (fen (rOf rnd β)) 0 cx.P c Q n a' w' := by
  intro σ hch
  induction hch with
  | @last n hsel hxid =>
   obtain ⟨_, q, hq1, hq2, hq3⟩ := conv_out hsel
   rw [Nat.sub_zero] at hq1
   have hr := exTree_sel (x := TT.top (body hd.tm sH) (base + hd.bds.length) + 1) (i := 0) (k := n) (q := (q.1, q.2.1, mark (TT.top (body hd.tm sH) (base + hd.bds.length) + 1 + 1) q.2.2)) (by rw [List.getElem?_map, hq1]; rfl) (by
    rw [Nat.zero_add, ← hxid, ← hL]) h
   cases hr
   obtain ⟨n0, hb0⟩ := hb ρ _ _ _ _ _ hρ hq2
   refine ⟨hq3, n0, fun β w a Q hr0 hs hQ a' w' hinv => ?_⟩
   obtain ⟨ms, hd', βH, hxH, hmH, hH⟩ := hinv
   obtain ⟨ht', hs'⟩ := hH ρ (Agn.refl _ _) rfl
   rw [← rOf_ext hr0 hxH]
   refine (hb0 _ _ _ _ (hr0.ext hxH) ht' hs' ?_).2 hq3
   rintro a2 w2 ⟨β2, ns, ht2, hd2, hs2, hx2, hm2⟩
   have hbeh : BehM q.1 ρ β s w a.defers q.2.1 (mark (TT.top (body hd.tm sH) (base + hd.bds.length) + 1 + 1) q.2.2) a2 w2 := by
    refine ⟨β2, ns ++ ms, ht2, by rw [hd2, hd', List.append_assoc], ⟨hs2.blk, hs2.inj, mark_kn hs2.kn, hs2.ro⟩, ?_, (hmH.app hx2 hxH.size hm2).less fun j hj => hj⟩
    exact (hxH.trans hx2).trans (qQs (s := q.2.2) (s1 := mark (TT.top (body hd.tm sH) (base + hd.bds.length) + 1 + 1) q.2.2) rfl β2 w2)
   exact hQ a2 w2 hbeh
  | @step σ' ρ' hag hsel _ ih =>
   obtain ⟨hx, n, ih⟩ := ih
   rw [hLB] at hag
   have hρ' : EnvOk cx ρ' := EnvOk.agn hok hρ hag
   obtain ⟨tm1, s1, h1, h2, h3, h4⟩ := qYq (c := LC.mk cx base s.bl.length hd) hρ' hsel
   obtain ⟨_, hb0⟩ := hb ρ' _ _ _ _ _ hρ' h1
   refine ⟨hx, n + 1, fun β w a Q hr0 hs hQ a' w' hinv => ?_⟩
   obtain ⟨ms, hd', βH, hxH, hmH, hH⟩ := hinv
   obtain ⟨ht', hs'⟩ := hH ρ' hag rfl
   rw [roundsIn_succ]
   rw [← rOf_ext hr0 hxH]
   refine (hb0 _ _ _ _ (hr0.ext hxH) ht' hs' ?_).1 rfl
   rintro a2 w2 ⟨β2, ns, ht2, hd2, hs2, hx2, hm2⟩
   rw [rOf_ext hr0 hxH]
   refine ih β w a Q hr0 hs hQ a2 w2 ?_
   rw [h3]
   refine hback β w a hs ρ' hρ' hag tm1 s1 β2 w2 a2 h2 ?_ ht2 (ns ++ ms) (by rw [hd2, hd', List.append_assoc]) hs2 (hxH.trans hx2) (hmH.app hx2 hxH.size hm2)
   rw [← h3]; exact h4
 have hch' : Chain (fun ρ' => ((LC.mk cx base s.bl.length hd).conv 0 (body hd.tm sH)).1.sel ρ') L ρ (L.init.map (E.ev ρ)) := by
  rw [← hL] at hch ⊢
  exact hch
 obtain ⟨hx, n, hn⟩ := key _ hch'
 refine ⟨hx, n, fun β w a Q hr0 ht hs hQ => hn β w a Q hr0 hs hQ a w ?_⟩
 rw [← hL]
 exact hback β w a hs ρ hρ (Agn.refl _ _) tm s β w a hchk0 hin0 ht [] rfl hs (Ext.refl _ _ _) (.nil _ _ _ _)
def kindV : SV → SV → Bool
 | .sl (.inp k) _ _ _ _, .sl (.inp k') _ _ _ _ => Nat.beq k k'
 | .sl (.inp _) _ _ _ _, _ => false
 | _, .sl (.inp _) _ _ _ _ => false
 | _, _ => true
def kindL : List SV → List SV → Bool
 | x :: l, y :: m => kindV x y && kindL l m
 | _, _ => true
def kindB : SBlk → SBlk → Bool
 | .cells l _ _, .cells m _ _ => kindL l m
 | _, _ => true
def kindBl : List SBlk → List SBlk → Bool
 | x :: l, y :: m => kindB x y && kindBl l m
 | _, _ => true
def loopP (cx : Cx) (body : List SV → St → RCT) : List (Option qJb) → List SV → St → RCT
 | [], tm, s => loopT cx none body tm s
 | mk :: l, tm, s => loopT cx mk (fun tm1 s1 => (body tm1 s1).bind fun q => match q.1 with
  | .normal => if kindBl s.bl q.2.2.bl then .leaf q else loopP cx body l q.2.1 q.2.2
  | _ => .leaf q) tm s
theorem loopP_ok {rnd : Option Nat} {body : List SV → St → RCT} {c : Code} (hb : CodeOkT cx rnd body c) : ∀ (l : List (Option qJb)) {ρ : Env} {tm tm' : List SV} {s s' : St} {x : Ex}, EnvOk cx ρ → (loopP cx body l tm s).sel ρ = some (x, tm', s') →
  x ≠ .normal ∧ ∃ n, ∀ (β : Bt) (w : World) (a : Act) (Q : Exit → Act → World → Prop), rIn rnd s → a.tmps = (SV.denL ρ β tm).toArray → Sat ρ β s w →
   (∀ a' w', BehM x ρ β s w a.defers tm' s' a' w' → Q x.to a' w') → Code.roundsIn (fen (rOf rnd β)) 0 cx.P c Q n a w
 | [], ρ, tm, tm', s, s', x, hρ, h => loopR_ok (bodyR_of hb) hρ h
 | mk :: l, ρ, tm, tm', s, s', x, hρ, h => by
  refine loopR_ok (rnd := rnd) (c := c) (body := fun tm1 s1 => (body tm1 s1).bind fun q => match q.1 with
   | .normal => if kindBl s.bl q.2.2.bl then .leaf q else loopP cx body l q.2.1 q.2.2
   | _ => .leaf q) ?_ hρ h
  intro ρ1 tm1 tm2 s1 s2 x2 hρ1 h1
  obtain ⟨⟨y, tm3, s3⟩, g1, g2⟩ := TT.sel_bind_some h1
  cases y with
  | normal =>
   simp only at g2
   split at g2
   ·cases g2
    exact ⟨0, fun β w a Q hr ht hs hQ => ⟨fun _ => hb _ _ _ _ _ _ _ _ _ _ hρ1 hr ht hs g1 hQ, fun hx => absurd rfl hx⟩⟩
   ·obtain ⟨hx, n, hn⟩ := loopP_ok hb l hρ1 g2
    refine ⟨n + 1, fun β w a Q hr ht hs hQ => ⟨fun h => absurd h hx, fun _ => ?_⟩⟩
    rw [roundsIn_succ]
    refine hb _ _ _ _ _ _ _ _ _ _ hρ1 hr ht hs g1 ?_
    rintro a' w' ⟨β', ms, ht', hd', hs', hx', hm'⟩
    rw [← rOf_ext hr hx']
    refine hn _ _ _ _ (hr.ext hx') ht' hs' fun a2 w2 hb2 => hQ a2 w2 ?_
    rw [hd'] at hb2
    exact hb2.of hx' hm'
  | exit id =>
   cases g2
   obtain ⟨n, hn⟩ := bodyR_of hb ρ1 _ _ _ _ _ hρ1 g1
   exact ⟨n, hn⟩
  | ret =>
   cases g2
   obtain ⟨n, hn⟩ := bodyR_of hb ρ1 _ _ _ _ _ hρ1 g1
   exact ⟨n, hn⟩
  | pan _ _ _ =>
   cases g2
   obtain ⟨n, hn⟩ := bodyR_of hb ρ1 _ _ _ _ _ hρ1 g1
   exact ⟨n, hn⟩
end
end Go.Eng
end

/-!  -/
noncomputable section
set_option linter.unusedSectionVars false
namespace Go.Eng
def stepP (cx : Cx) (ops : Array Oper) (i : Nat) (tm : List SV) (s : St) : Option (List SV) :=
 match ops[i]? with
 | none => none
 | some o => if chg o.op || qKx o then none else match wantS ops tm o with
  | .yes => (match opS cx tm s o with
   | .leaf (v, s') => if blBeq s.bl s'.bl then some (putS tm o.dst v) else none
   | _ => none)
  | .no => some (putS tm o.dst qZq)
  | _ => none
def obsP {α : Type} : T α → List E
 | .br e t (.bad _) => e :: obsP t
 | .new _ _ t => obsP t
 | _ => []
def endP : T (SV × St) → Option SV
 | .leaf (v, _) => some v
 | .br _ t (.bad _) => endP t
 | .new _ _ t => endP t
 | _ => none
def obsL (cx : Cx) (ops : Array Oper) : List Oper → List SV → St → List E
 | [], _, _ => []
 | o :: l, tm, s => if chg o.op || qKx o then obsL cx ops l (putS tm o.dst qZq) s else match wantS ops tm o with
  | .yes => let t := opS cx tm s o
   obsP t ++ (match endP t with
   | some v => obsL cx ops l (putS tm o.dst v) s
   | none => obsL cx ops l (putS tm o.dst qZq) s)
  | _ => obsL cx ops l (putS tm o.dst qZq) s
def oblT {α : Type} : List E → St → (St → TT α) → TT α
 | [], s, k => k s
 | e :: l, s, k => forkT s e (fun s => oblT l s k) (fun _ => .bad 200)
abbrev PS := List (Nat × List SV)
def addP (li : Nat) (tm : List SV) : PS → Option PS
 | [] => some [(li, tm)]
 | (l, t) :: r => if Nat.beq l li then (if SV.beqL t tm then some ((l, t) :: r) else none) else (addP li tm r).map ((l, t) :: ·)
def nextP (cx : Cx) (ops : Array Oper) (li : Nat) (tm : List SV) (s : St) : List Nat → PS → Option PS
 | [], acc => some acc
 | k :: ks, acc => match stepP cx ops k tm s with
  | some tm1 => (match addP (li ||| (1 <<< k)) tm1 acc with
   | some acc => nextP cx ops li tm s ks acc
   | none => none)
  | none => none
def nextPL (cx : Cx) (ops : Array Oper) (tbl : List Row) (s : St) : PS → PS → Option PS
 | [], acc => some acc
 | (li, tm) :: l, acc => match qZo li tbl 0 with
  | [] => none
  | ks => match nextP cx ops li tm s ks acc with
   | some acc => nextPL cx ops tbl s l acc
   | none => none
def meetP (cx : Cx) (ops : Array Oper) (tbl : List Row) (s : St) : Nat → PS → Option (Nat × Nat × List SV)
 | 0, _ => none
 | fuel + 1, l => match (match l with
   | [(li, tm)] => (match qZo li tbl 0 with
    | [] => some (fuel + 1, li, tm)
    | [_] => some (fuel + 1, li, tm)
    | _ => none)
   | _ => none) with
  | some r => some r
  | none => match nextPL cx ops tbl s l [] with
   | some l' => meetP cx ops tbl s fuel l'
   | none => none
abbrev PSF := List (Nat × Nat × List SV)
def hasF (f li : Nat) (tm : List SV) : PSF → Bool
 | [] => false
 | (f', li', tm') :: l => (Nat.beq f f' && Nat.beq li li' && SV.beqL tm tm') || hasF f li tm l
def closF (cx : Cx) (ops : Array Oper) (tbl : List Row) (s : St) : Nat → PSF → PSF → PSF
 | 0, _, acc => acc
 | _ + 1, [], acc => acc
 | n + 1, (0, _, _) :: fr, acc => closF cx ops tbl s n fr acc
 | n + 1, (f + 1, li, tm) :: fr, acc =>
  let news := (qZo li tbl 0).filterMap fun k => (stepP cx ops k tm s).map fun t => (f, li ||| (1 <<< k), t)
  let news := news.filter fun x => !(acc.any fun y => Nat.beq x.2.1 y.2.1)
  closF cx ops tbl s n (fr ++ news) (acc ++ news)
def barF (cx : Cx) (ops : Array Oper) (tbl : List Row) (s : St) : PSF → Option (Nat × List SV)
 | [] => none
 | (_, li, tm) :: l => match (qZo li tbl 0).find? (fun k => (stepP cx ops k tm s).isNone) with
  | some k => some (k, tm)
  | none => barF cx ops tbl s l
def endF (tbl : List Row) : PSF → Option (Nat × List SV)
 | [] => none
 | (_, li, tm) :: l => match qZo li tbl 0 with
  | [] => some (li, tm)
  | _ => endF tbl l
def barIn (tm : List SV) (o : Oper) : Option (List SV) := match qKx o with
 | true => none
 | false => match o.op with
 | .call c => (match c.callee with
  | .value f => some (evO tm f :: c.args.toList.map (evO tm))
  | .builtin .append => some (c.args.toList.map (evO tm))
  | _ => none)
 | .store _ x y => some [evO tm x, evO tm y]
 | .buildSlice _ _ parts => some (parts.toList.map fun p => evO tm p.2)
 | .box _ x => some [evO tm x]
 | .alloc _ => some []
 | _ => none
def okBar (cx : Cx) (ops : Array Oper) (s : St) (o : Oper) (args : List SV) (tm : List SV) : Bool :=
 (match barIn tm o with
 | some a => SV.beqL a args
 | none => false) && SV.scL s.bl.length tm && (match wantS ops tm o with
 | .yes => true
 | _ => false)
def okF (cx : Cx) (ops : Array Oper) (tbl : List Row) (s : St) (C : PSF) (c : Option (Nat × Oper × List SV)) (fin : Option (Nat × List SV)) : Nat × Nat × List SV → Bool
 | (f, li, tm) => match qZo li tbl 0 with
  | [] => (match fin with
   | some (le, te) => Nat.beq li le && SV.beqL tm te
   | none => false)
  | k0 :: ks => (match f with
   | 0 => false
   | f + 1 => (k0 :: ks).all fun k => (match c with
    | some (k', o, args) => Nat.beq k k' && okBar cx ops s o args tm
    | none => false) || (match stepP cx ops k tm s with
     | some t => hasF f (li ||| (1 <<< k)) t C
     | none => false))
def behF (tbl : List Row) (c : Nat) (dst : Option Tmp) (v : SV) : PSF → PSF
 | [] => []
 | (0, _, _) :: l => behF tbl c dst v l
 | (f + 1, li, tm) :: l => if (qZo li tbl 0).contains c then (f, li ||| (1 <<< c), putS tm dst v) :: behF tbl c dst v l else behF tbl c dst v l
def stepD (cx : Cx) (cf : CFT) (rd : RDT) (ex : XF) (ops : Array Oper) (i : Nat) (tm : List SV) (s : St) : RCT :=
 match ops[i]? with
 | none => .bad 51
 | some o =>
  let go (s : St) : RCT := (opCT cx cf rd ex tm s o).bind fun r => match panOf o r.1 with
   | none => if !chg o.op || SV.scL s.bl.length tm then .leaf (.normal, putS tm o.dst r.1, r.2) else .bad 40
   | some (t, k, n) => .leaf (.pan t k n, [], r.2)
  let pass (s : St) : RCT := .leaf (.normal, putS tm o.dst qZq, s)
  match wantS ops tm o with
  | .yes => go s
  | .no => pass s
  | .on e want => if want then forkT s e go pass else forkT s e pass go
  | .unk => .bad 41
def oneF (tbl : List Row) : PSF → Option (Nat × Nat × Nat × List SV)
 | [(f, li, tm)] => (match qZo li tbl 0 with
  | [] => some (0, f, li, tm)
  | [i] => (match f with
   | f + 1 => some (i + 1, f, li, tm)
   | 0 => none)
  | _ => none)
 | _ => none
theorem oneF_done {tbl : List Row} {L : PSF} {f li : Nat} {tm : List SV} (h : oneF tbl L = some (0, f, li, tm)) {x} (hx : x ∈ L) : x = (f, li, tm) ∧ qZo li tbl 0 = [] := by
 unfold oneF at h
 split at h
 ·split at h
  ·rename_i hr
   cases h
   exact ⟨by simpa using hx, hr⟩
  ·split at h <;> cases h
  ·cases h
 ·cases h
theorem oneF_step {tbl : List Row} {L : PSF} {f li i : Nat} {tm : List SV} (h : oneF tbl L = some (i + 1, f, li, tm)) {x} (hx : x ∈ L) : x = (f + 1, li, tm) ∧ qZo li tbl 0 = [i] := by
 unfold oneF at h
 split at h
 ·split at h
  ·cases h
  ·rename_i hr
   split at h
   ·cases h
    exact ⟨by simpa using hx, hr⟩
   ·cases h
  ·cases h
 ·cases h
def goL (cx : Cx) (cf : CFT) (rd : RDT) (ex : XF) (ops : Array Oper) (tbl : List Row) : Nat → PSF → St → RCT
 | 0, _, _ => .bad 58
 | g + 1, L, s =>
  match oneF tbl L with
  | some (0, _, _, tm) => .leaf (.normal, tm, s)
  | some (i + 1, f, li, tm) => (stepD cx cf rd ex ops i tm s).bind fun r => match r.1 with
   | .normal => goL cx cf rd ex ops tbl g [(f, li ||| (1 <<< i), r.2.1)] r.2.2
   | e => .leaf (e, r.2)
  | none =>
   let C := closF cx ops tbl s 400 L L
   match barF cx ops tbl s C with
   | none => (match endF tbl C with
    | some (le, te) => if C.all (okF cx ops tbl s C none (some (le, te))) && L.all (fun x => hasF x.1 x.2.1 x.2.2 C) then .leaf (.normal, te, s) else .bad 63
    | none => .bad 63)
   | some (c, tm0) => match ops[c]? with
    | none => .bad 63
    | some o => match barIn tm0 o with
     | none => .bad 64
     | some args => if C.all (okF cx ops tbl s C (some (c, o, args)) none) && L.all (fun x => hasF x.1 x.2.1 x.2.2 C) then
       (opCT cx cf rd ex tm0 s o).bind fun r => match panOf o r.1 with
        | some (t, k, n) => .leaf (.pan t k n, [], r.2)
        | none => goL cx cf rd ex ops tbl g (behF tbl c o.dst r.1 C) r.2
      else .bad 65
def drawT (cx : Cx) (cf : CFT) (rd : RDT) (ex : XF) (rt : RT) (id : Nat) (ops : Array Oper) (tm : List SV) (s : St) : RCT :=
 match tblOf rt id ops with
 | none => .bad 61
 | some tbl => match noDefer ops with
  | false => .bad 62
  | true => oblT (obsL cx ops ops.toList tm s) s fun s => goL cx cf rd ex ops tbl (2 * tbl.length + 2) [(tbl.length, 0, tm)] s
def isYld : SV → Bool
 | .yld _ => true
 | _ => false
def yields (ops : Array Oper) (tm : List SV) : Bool := tm.any isYld && ops.toList.any fun o => match o.op with
 | .call c => (match c.callee with
  | .value _ => true
  | _ => false)
 | _ => false
theorem oblT_ok {ρ : Env} {β : Bt} {w : World} {α : Type} {k : St → TT α} {r : α} : ∀ {l : List E} {s : St}, Sat ρ β s w → (oblT l s k).sel ρ = some r → ∃ s1, s1.bl = s.bl ∧ Sat ρ β s1 w ∧ (k s1).sel ρ = some r
 | [], s, hs, h => ⟨s, rfl, hs, h⟩
 | e :: l, s, hs, h => by
  obtain ⟨s1, e1, hs1, ⟨_, h⟩ | ⟨_, h⟩⟩ := forkT_ok hs h
  ·obtain ⟨s2, e2, hs2, h⟩ := oblT_ok hs1 h
   exact ⟨s2, e2.trans e1, hs2, h⟩
  ·cases h
section
variable {cx : Cx} {ρ : Env} {cf : CFT} {rd : RDT} {ex : XF} {ops : Array Oper}
theorem stepP_ok (hρ : EnvOk cx ρ) {i : Nat} {tm tm1 : List SV} {s : St} {β : Bt} {w : World} {a : Act} {K : Act → World → Prop} {Q : Exit → Act → World → Prop} (ht : a.tmps = (SV.denL ρ β tm).toArray) (hs : Sat ρ β s w)
  (h : stepP cx ops i tm s = some tm1) (hK : ∀ a' w', a'.tmps = (SV.denL ρ β tm1).toArray → a'.defers = a.defers → Sat ρ β s w' → Ext s s β β w w' → K a' w') (r : Option Nat) (n : Nat) : wpOpIn (fen r) n cx.P ops Q i K a w := by
 unfold stepP at h
 split at h
 ·cases h
 rename_i o ho
 split at h
 ·cases h
 rename_i hcd
 simp only [Bool.or_eq_true, not_or, Bool.not_eq_true] at hcd
 have hw := qXd (ops := ops) (o := o) ht
 unfold wpOpIn
 simp only [ho]
 cases hwd : wantS ops tm o with
 | unk => rw [hwd] at h; cases h
 | on e want => rw [hwd] at h; cases h
 | no =>
  rw [hwd] at h hw
  simp only at h hw
  cases h
  rw [hw]
  simp only [Bool.false_eq_true, if_false]
  exact ⟨fun _ _ => trivial, hK _ _ (qZj ht o.dst qZq) (qQg _ _ _) hs (Ext.refl _ _ _)⟩
 | yes =>
  rw [hwd] at h hw
  simp only at h hw
  rw [hw]
  simp only [if_true]
  split at h <;> try (cases h; done)
  rename_i v s' hop
  split at h <;> try (cases h; done)
  rename_i hbl
  cases h
  have hbl := bl_of_beq hbl
  have hg := (opS_ok hρ ht hs (show (opS cx tm s o).sel ρ = some (v, s') by rw [hop]; rfl)).good.r (pp := fun _ _ => False) hcd.2
  refine hg _ _ ?_ (fun _ _ h => h.elim) r n
  rintro V w' ⟨β', rfl, hs2, hx2, hch⟩
  have hb := hch hcd.1
  subst hb
  have e : s'.bl = s.bl := hbl.symm
  refine hK _ _ (qZj ht _ _) (qQg _ _ _) (hs2.bl e.symm hs.kn) ?_
  have : Ext s s β' β' w w' := hx2.trans (qQs (s := s') (s1 := s) e.symm β' w')
  exact this
theorem hasF_mem {f li : Nat} {tm : List SV} : ∀ {C : PSF}, hasF f li tm C = true → (f, li, tm) ∈ C
 | [], h => by cases h
 | (f', li', tm') :: l, h => by
  simp only [hasF, Bool.or_eq_true, Bool.and_eq_true] at h
  rcases h with ⟨⟨h1, h2⟩, h3⟩ | h
  ·have e1 := Nat.eq_of_beq_eq_true h1
   have e2 := Nat.eq_of_beq_eq_true h2
   have e3 := SV.eqL_of_beq _ _ h3
   subst e1; subst e2; subst e3
   exact List.mem_cons_self
  ·exact List.mem_cons_of_mem _ (hasF_mem h)
theorem parts_eq {tm tm0 : List SV} {l : List (Nat × Operand)} (h : (l.map fun p => evO tm p.2) = l.map fun p => evO tm0 p.2) : (l.map fun p => (p.1, evO tm p.2)) = l.map fun p => (p.1, evO tm0 p.2) := by
 induction l with
 | nil => rfl
 | cons p l ih =>
  simp only [List.map_cons, List.cons.injEq] at h ⊢
  exact ⟨by rw [h.1], ih h.2⟩
theorem opCT_cong {tm tm0 : List SV} {s : St} {o : Oper} {args : List SV} (h0 : barIn tm0 o = some args) (h : barIn tm o = some args) : opCT cx cf rd ex tm s o = opCT cx cf rd ex tm0 s o := by
 unfold barIn at h h0
 split at h
 ·cases h
 rename_i hd
 rw [hd] at h0
 simp only at h0
 cases hop : o.op <;> rw [hop] at h h0 <;> (try simp only at h h0) <;> try (cases h; done)
 case call c =>
  cases hc : c.callee <;> rw [hc] at h h0 <;> (try simp only at h h0) <;> try (cases h; done)
  case value f =>
   have h3 := Option.some.inj (h.trans h0.symm)
   simp only [List.cons.injEq] at h3
   unfold opCT
   simp only [hd, hop, hc, h3.1, h3.2]
  case builtin b =>
   cases b <;> (try simp only at h h0) <;> try (cases h; done)
   cases h
   have h0 := Option.some.inj h0
   unfold opCT
   simp only [hd, hop, hc]
   unfold opS
   simp only [hop, hc]
   rcases hl : c.args.toList with _ | ⟨x, _ | ⟨y, _ | ⟨z, l⟩⟩⟩
   ·rfl
   ·rfl
   ·rw [hl] at h0
    simp only [List.map_cons, List.map_nil, List.cons.injEq, and_true] at h0
    simp only [h0.1, h0.2]
   ·rfl
 case store t x y =>
  have h3 := Option.some.inj (h.trans h0.symm)
  simp only [List.cons.injEq, and_true] at h3
  unfold opCT
  simp only [hd, hop]
  unfold opS
  simp only [hop, h3.1, h3.2]
 case buildSlice t n parts =>
  have h0 := parts_eq (Option.some.inj (h.trans h0.symm))
  unfold opCT
  simp only [hd, hop]
  unfold opS
  simp only [hop, h0]
 case box t x =>
  have h3 := Option.some.inj (h.trans h0.symm)
  simp only [List.cons.injEq, and_true] at h3
  unfold opCT
  simp only [hd, hop]
  unfold opS
  simp only [hop, h3]
 case alloc t =>
  unfold opCT
  simp only [hd, hop]
  unfold opS
  simp only [hop]
theorem behF_mem {tbl : List Row} {c : Nat} {dst : Option Tmp} {v : SV} {f li : Nat} {tm : List SV} : ∀ {C : PSF}, (f + 1, li, tm) ∈ C → c ∈ qZo li tbl 0 → (f, li ||| (1 <<< c), putS tm dst v) ∈ behF tbl c dst v C
 | [], h, _ => by cases h
 | (0, li0, tm0) :: l, h, hc => by
  simp only [behF]
  rcases List.mem_cons.1 h with h | h
  ·cases h
  ·exact behF_mem h hc
 | (f0 + 1, li0, tm0) :: l, h, hc => by
  simp only [behF]
  rcases List.mem_cons.1 h with h | h
  ·cases h
   rw [if_pos (by simpa using hc)]
   exact List.mem_cons_self
  ·split
   ·exact List.mem_cons_of_mem _ (behF_mem h hc)
   ·exact behF_mem h hc
theorem closF_ok (hρ : EnvOk cx ρ) (hcl : qXj ops.size ops = true) {s : St} {β : Bt} {w0 : World} {ds : List Deferred} {Q : Exit → Act → World → Prop} {C : PSF} {c : Option (Nat × Oper × List SV)} {fin : Option (Nat × List SV)} (r : Option Nat) (n : Nat)
  (hall : ∀ x ∈ C, okF cx ops (qQn ops) s C c fin x = true)
  (hfin : ∀ le te, fin = some (le, te) → ∀ (w : World) (a : Act), a.tmps = (SV.denL ρ β te).toArray → a.defers = ds → Sat ρ β s w → Ext s s β β w0 w → Q .normal a w)
  (hc : ∀ k o args, c = some (k, o, args) → ∀ f li tm, (f + 1, li, tm) ∈ C → k ∈ qZo li (qQn ops) 0 → okBar cx ops s o args tm = true → ∀ (w : World) (a : Act), a.tmps = (SV.denL ρ β tm).toArray → a.defers = ds → Sat ρ β s w → Ext s s β β w0 w →
   wpOpIn (fen r) n cx.P ops Q k (wpAnyIn (fen r) n cx.P .any ops Q f (liOf ops.size (li ||| (1 <<< k)))) a w) :
  ∀ (f li : Nat) (tm : List SV), (f, li, tm) ∈ C → ∀ (w : World) (a : Act), a.tmps = (SV.denL ρ β tm).toArray → a.defers = ds → Sat ρ β s w → Ext s s β β w0 w → wpAnyIn (fen r) n cx.P .any ops Q f (liOf ops.size li) a w := by
 intro f
 induction f with
 | zero =>
  intro li tm hm w a ht hd hs hx
  have hok := hall _ hm
  have hrd : Region.ready .any ops (liOf ops.size li) = qZo li (qQn ops) 0 := qJt hcl li
  simp only [okF] at hok
  split at hok
  ·rename_i hr
   split at hok
   ·rename_i le te
    simp only [Bool.and_eq_true] at hok
    have e2 := SV.eqL_of_beq _ _ hok.2
    subst e2
    exact ⟨hrd.trans hr, hfin _ _ rfl w a ht hd hs hx⟩
   ·cases hok
  ·cases hok
 | succ f ih =>
  intro li tm hm w a ht hd hs hx
  have hok := hall _ hm
  have hrd : Region.ready .any ops (liOf ops.size li) = qZo li (qQn ops) 0 := qJt hcl li
  have hlt : ∀ i ∈ qZo li (qQn ops) 0, i < ops.size := by
   intro i hi
   rw [← hrd] at hi
   simp only [Region.ready, List.mem_filter, List.mem_range] at hi
   exact hi.1
  simp only [okF] at hok
  split at hok
  ·rename_i hr
   split at hok
   ·rename_i le te
    simp only [Bool.and_eq_true] at hok
    have e2 := SV.eqL_of_beq _ _ hok.2
    subst e2
    exact wpAnyIn_done (hrd.trans hr) (hfin _ _ rfl w a ht hd hs hx) _
   ·cases hok
  ·rename_i k0 ks hr
   rw [← hr] at hok
   refine wpAnyIn_all hrd (by rw [hr]; simp) fun k hk => ?_
   rw [liOf_set (hlt k hk)]
   have hk2 := List.all_eq_true.1 hok k hk
   simp only [Bool.or_eq_true] at hk2
   rcases hk2 with hk2 | hk2
   ·split at hk2
    ·rename_i k' o args
     simp only [Bool.and_eq_true] at hk2
     have e := Nat.eq_of_beq_eq_true hk2.1
     subst e
     exact hc _ _ _ rfl f li tm hm hk hk2.2 w a ht hd hs hx
    ·cases hk2
   ·split at hk2
    ·rename_i t hst
     exact stepP_ok hρ ht hs hst (fun a' w' g1 g2 g3 g4 => ih _ _ (hasF_mem hk2) w' a' g1 (g2.trans hd) g3 (hx.trans g4)) r n
    ·cases hk2
theorem stepD_ok (hcx : CxOk cx) (hcf : qJk cx cf) (hrd : qKq cx rd) (hex : XOk cx ex) (hρ : EnvOk cx ρ) {i : Nat} {tm tm1 : List SV} {s s1 : St} {x : Ex} {β : Bt} {w : World} {a : Act} {K : Act → World → Prop} {Q : Exit → Act → World → Prop}
  (ht : a.tmps = (SV.denL ρ β tm).toArray) (hs : Sat ρ β s w) (h : (stepD cx cf rd ex ops i tm s).sel ρ = some (x, tm1, s1)) (hK : ∀ a' w', BehX x ρ β s w a.defers tm1 s1 a' w' → match x with
   | .normal => K a' w'
   | x => Q x.to a' w') (r : Option Nat) (n : Nat) : wpOpIn (fen r) n cx.P ops Q i K a w := by
 unfold stepD at h
 split at h
 ·cases h
 rename_i o ho
 simp only at h
 have hw := qXd (ops := ops) (o := o) ht
 unfold wpOpIn
 simp only [ho]
 have go : ∀ s2, s2.bl = s.bl → Sat ρ β s2 w → ((opCT cx cf rd ex tm s2 o).bind fun r => match panOf o r.1 with
   | none => if !chg o.op || SV.scL s2.bl.length tm then (.leaf (.normal, putS tm o.dst r.1, r.2) : RCT) else .bad 40
   | some (t, k, n) => .leaf (.pan t k n, [], r.2)).sel ρ = some (x, tm1, s1) → o.wpIn (fen r) n cx.P a w K Q := by
  intro s2 e2 hs2 h
  obtain ⟨⟨v, s3⟩, h1, h2⟩ := TT.sel_bind_some h
  refine opCT_ok hcx hcf hrd hex hρ ht hs2 h1 _ _ ?_ ?_ r n
  ·rintro V w' ⟨hpn, β', rfl, hs3, hx3, hch⟩
   simp only [hpn] at h2
   split at h2
   ·rename_i hc
    have htm : (SV.denL ρ β tm) = SV.denL ρ β' tm := by
     simp only [Bool.or_eq_true, Bool.not_eq_true'] at hc
     rcases hc with hc | hc
     ·rw [hch hc]
     ·exact (SV.denL_sc hx3.ag tm hc).symm
    rw [htm] at ht
    cases h2
    exact hK _ _ ⟨β', qZj ht _ _, qQg _ _ _, hs3, (qQs e2 β w).trans hx3⟩
   ·cases h2
  ·rintro ch w' ⟨t, k, n, hpn, rfl, β', hs3, hx3⟩
   simp only [hpn] at h2
   cases h2
   exact hK _ _ ⟨β', (fun i v hi => by simp [SV.denL] at hi), rfl, hs3, (qQs e2 β w).trans hx3⟩
 have pass : ∀ s2, s2.bl = s.bl → Sat ρ β s2 w → (TT.leaf (.normal, putS tm o.dst qZq, s2) : RCT).sel ρ = some (x, tm1, s1) → K (a.put o.dst undef) w := by
  intro s2 e2 hs2 h
  cases h
  exact hK _ _ ⟨β, qZj ht o.dst qZq, qQg _ _ _, hs2, qQs e2 β w⟩
 cases hwd : wantS ops tm o with
 | unk => rw [hwd] at h; cases h
 | yes => rw [hwd] at h hw; simp only at h hw; rw [hw]; simp only [if_true]; exact go s rfl hs h
 | no => rw [hwd] at h hw; simp only at h hw; rw [hw]; simp only [Bool.false_eq_true, if_false]; exact ⟨fun _ _ => trivial, pass s rfl hs h⟩
 | on e want =>
  rw [hwd] at h hw
  simp only at h hw
  cases want
  ·simp only [Bool.false_eq_true, if_false] at h
   obtain ⟨s2, e2, hs2, ⟨hne, h⟩ | ⟨h0, h⟩⟩ := forkT_ok hs h
   ·have : Region.wanted o (yielded ops a.tmps) = false := by rw [hw]; simpa using hne
    rw [this]; simp only [Bool.false_eq_true, if_false]; exact ⟨fun _ _ => trivial, pass s2 e2 hs2 h⟩
   ·have : Region.wanted o (yielded ops a.tmps) = true := by rw [hw]; simpa using h0
    rw [this]; simp only [if_true]; exact go s2 e2 hs2 h
  ·simp only [if_true] at h
   obtain ⟨s2, e2, hs2, ⟨hne, h⟩ | ⟨h0, h⟩⟩ := forkT_ok hs h
   ·have : Region.wanted o (yielded ops a.tmps) = true := by rw [hw]; simpa using hne
    rw [this]; simp only [if_true]; exact go s2 e2 hs2 h
   ·have : Region.wanted o (yielded ops a.tmps) = false := by rw [hw]; simpa using h0
    rw [this]; simp only [Bool.false_eq_true, if_false]; exact ⟨fun _ _ => trivial, pass s2 e2 hs2 h⟩
theorem goL_ok (hcx : CxOk cx) (hcf : qJk cx cf) (hrd : qKq cx rd) (hex : XOk cx ex) (hρ : EnvOk cx ρ) (hcl : qXj ops.size ops = true) {Q : Exit → Act → World → Prop} {x : Ex} {tm' : List SV} {s' : St} (r : Option Nat) (n : Nat) : ∀ (g : Nat) {L : PSF} {s : St},
  (goL cx cf rd ex ops (qQn ops) g L s).sel ρ = some (x, tm', s') → ∀ {f li : Nat} {tm : List SV}, (f, li, tm) ∈ L → ∀ {β : Bt} {w : World} {a : Act}, (∀ a' w', BehX x ρ β s w a.defers tm' s' a' w' → Q x.to a' w') →
  a.tmps = (SV.denL ρ β tm).toArray → Sat ρ β s w → wpAnyIn (fen r) n cx.P .any ops Q f (liOf ops.size li) a w
 | 0, L, s, h, f, li, tm, hm, β, w, a, hQ, ht, hs => by cases h
 | g + 1, L, s, h, f, li, tm, hm, β, w, a, hQ, ht, hs => by
  have hrdy : ∀ li, Region.ready .any ops (liOf ops.size li) = qZo li (qQn ops) 0 := fun li => qJt hcl li
  simp only [goL] at h
  split at h
  ·-- all is done
   rename_i f0 li0 tm0 hsel
   obtain ⟨he, hr⟩ := oneF_done hsel hm
   cases he
   cases h
   exact wpAnyIn_done ((hrdy _).trans hr) (hQ _ _ ⟨β, ht, rfl, hs, Ext.refl _ _ _⟩) _
  ·-- one alone
   rename_i i f2 li0 tm0 hsel
   obtain ⟨he, hr⟩ := oneF_step hsel hm
   cases he
   obtain ⟨⟨x1, tm2, s1⟩, h1, h2⟩ := TT.sel_bind_some h
   refine wpAnyIn_all ((hrdy _).trans hr) (by simp) fun k hk => ?_
   have hki : k = i := by simpa using hk
   subst hki
   have hklt : k < ops.size := by
    have hk2 : k ∈ Region.ready .any ops (liOf ops.size li) := by rw [hrdy, hr]; simp
    simp only [Region.ready, List.mem_filter, List.mem_range] at hk2
    exact hk2.1
   rw [liOf_set hklt]
   refine stepD_ok hcx hcf hrd hex hρ ht hs h1 (fun a' w' hb => ?_) r n
   obtain ⟨β', g1, g2, g3, g4⟩ := hb
   cases x1 with
   | normal =>
    refine goL_ok hcx hcf hrd hex hρ hcl r n g h2 List.mem_cons_self (fun a2 w2 hb2 => hQ a2 w2 ?_) g1 g3
    rw [g2] at hb2
    exact hb2.of g4
   | exit _ => cases h2; exact hQ _ _ ⟨β', g1, g2, g3, g4⟩
   | ret => cases h2; exact hQ _ _ ⟨β', g1, g2, g3, g4⟩
   | pan _ _ _ => cases h2; exact hQ _ _ ⟨β', g1, g2, g3, g4⟩
  ·split at h
   ·split at h
    ·rename_i le te hend
     split at h
     case isFalse => cases h
     rename_i hall
     obtain ⟨rfl, rfl, rfl⟩ : Ex.normal = x ∧ te = tm' ∧ s = s' := by cases h; exact ⟨rfl, rfl, rfl⟩
     simp only [Bool.and_eq_true] at hall
     have hmem := hasF_mem (List.all_eq_true.1 hall.2 _ hm)
     exact closF_ok (C := closF cx ops (qQn ops) s 400 L L) (c := none) (fin := some (le, te)) (ds := a.defers) (w0 := w) hρ hcl r n (fun x hx => List.all_eq_true.1 hall.1 x hx)
      (fun le' te' he w' a' g1 g2 g3 g4 => by cases he; exact hQ _ _ ⟨β, g1, g2, g3, g4⟩) (fun _ _ _ h => by cases h) f li tm hmem w a ht rfl hs (Ext.refl _ _ _)
    ·cases h
   ·rename_i c tm0 hbar
    split at h
    ·cases h
    rename_i o ho
    split at h
    ·cases h
    rename_i args hargs
    split at h
    case isFalse => cases h
    rename_i hall
    simp only [Bool.and_eq_true] at hall
    have hmem := hasF_mem (List.all_eq_true.1 hall.2 _ hm)
    obtain ⟨⟨v, s2⟩, h1, h2⟩ := TT.sel_bind_some h
    refine closF_ok (C := closF cx ops (qQn ops) s 400 L L) (c := some (c, o, args)) (fin := none) (ds := a.defers) (w0 := w) hρ hcl r n (fun x hx => List.all_eq_true.1 hall.1 x hx)
      (fun _ _ h => by cases h) (fun k o' args' he f1 li1 tm1 hm1 hk1 hok w1 a1 t1 d1 hs1 hx1 => ?_) f li tm hmem w a ht rfl hs (Ext.refl _ _ _)
    cases he
    simp only [okBar, Bool.and_eq_true] at hok
    obtain ⟨⟨hargs1, hsc⟩, hwd⟩ := hok
    have hargs1 : barIn tm1 o = some args := by
     split at hargs1
     ·rename_i a1 ha1
      rw [ha1, SV.eqL_of_beq _ _ hargs1]
     ·cases hargs1
    have hwant : Region.wanted o (yielded ops a1.tmps) = true := by
     have hw := qXd (ops := ops) (o := o) t1
     split at hwd
     ·rename_i hy
      rw [hy] at hw
      exact hw
     ·cases hwd
    unfold wpOpIn
    simp only [ho, hwant, if_true]
    refine opCT_ok (tm := tm1) hcx hcf hrd hex hρ t1 hs1 (by rw [opCT_cong hargs hargs1]; exact h1) _ _ ?_ ?_ r n
    ·rintro V w' ⟨hpn, β', rfl, hs3, hx3, _⟩
     simp only [hpn] at h2
     have htm : (SV.denL ρ β tm1) = SV.denL ρ β' tm1 := (SV.denL_sc hx3.ag tm1 hsc).symm
     rw [htm] at t1
     refine goL_ok hcx hcf hrd hex hρ hcl r n g h2 (behF_mem hm1 hk1) (fun a2 w3 hb2 => hQ a2 w3 ?_) (qZj t1 _ _) hs3
     rw [qQg, d1] at hb2
     exact hb2.of (hx1.trans hx3)
    ·rintro ch w' ⟨t, k, n, hpn, rfl, β', hs3, hx3⟩
     simp only [hpn] at h2
     cases h2
     exact hQ _ _ ⟨β', (fun i v hi => by simp [SV.denL] at hi), d1, hs3, hx1.trans hx3⟩
theorem drawT_ok (hcx : CxOk cx) (hcf : qJk cx cf) (hrd : qKq cx rd) (hex : XOk cx ex) (hρ : EnvOk cx ρ) (rt : RT) (id : Nat) (hrt : ∀ t, rt id = some t → t = qQn ops ∧ Region.noSelect ops = true ∧ qXj ops.size ops = true)
  {tm tm' : List SV} {s s' : St} {β : Bt} {w : World} {a : Act} {Q : Exit → Act → World → Prop}
  (ht : a.tmps = (SV.denL ρ β tm).toArray) (hs : Sat ρ β s w) {x : Ex} (h : (drawT cx cf rd ex rt id ops tm s).sel ρ = some (x, tm', s'))
  (hQ : ∀ a' w', BehX x ρ β s w a.defers tm' s' a' w' → Q x.to a' w') (r : Option Nat) : (Code.region id ops true).wpIn (fen r) 0 cx.P Q a w := by
 unfold drawT at h
 split at h
 ·cases h
 ·rename_i tbl htb
  obtain ⟨rfl, hns, hcl⟩ := tblOf_ok hrt htb
  split at h
  ·cases h
  obtain ⟨s1, e1, hs1, h⟩ := oblT_ok hs h
  refine wpIn_region_any hcx.mixed ?_
  rw [← liOf_zero]
  have hlen : (qQn ops).length = ops.size := by
   have : ∀ (all l : List Base) (k : Nat), (rowsOf all l k).length = l.length := by
    intro all l
    induction l with
    | nil => intro k; rfl
    | cons b l ih => intro k; simp [rowsOf, ih]
   simp [qQn, this]
  rw [hlen] at h
  have hs2 : Sat ρ β s1 w.drew := hs1.drew
  exact goL_ok hcx hcf hrd hex hρ hcl r 0 _ h List.mem_cons_self (fun a' w' hb => hQ a' w' (hb.of (Ext.ofDrew (qQs e1 β w.drew)))) ht hs2
end
end Go.Eng
end

/-!  -/
noncomputable section
set_option linter.unusedSectionVars false
namespace Go.Eng
section
variable {F : Fence} {n : Nat} {P : Program} {b : Frame} {a : Act} {k : List Item} {cs : List Frame} {w : World} {Q : Exit → Act → World → Prop}
theorem qXv {c : Code} : step P (lone (b.atR a (.code (.scope c) :: k)) cs w) = .next (lone (b.atR a (.code c :: .inScope c :: k)) cs w) :=
 step_lone_go (by simp [stepG, stepG.exec, Frame.atR])
theorem stepR_inScope {c : Code} : step P (lone (b.atR a (.inScope c :: k)) cs w) = .next (lone (b.atR a k) cs w) :=
 step_lone_go (by simp [stepG, stepG.exec, Frame.atR])
theorem wpIn_scope_straight {c : Code} (h : c.wpIn F n P (Exit.noGoto Q) a w) : (Code.scope c).wpIn F n P Q a w := by
 intro b k cs hro hb hr
 have h0 : (lone (b.atR a (.code (.scope c) :: k)) cs w).fenced P F := fenced_calm hb hr rfl
 obtain ⟨e, a₁, w₁, hq, harr⟩ := h b (.inScope c :: k) cs hro hb hr
 cases e with
 | normal => exact ⟨.normal, a₁, w₁, hq, .head h0 qXv (StepsIn.trans harr (.one (fenced_calm hb hr rfl) stepR_inScope))⟩
 | exit id =>
  have hx : exitTo id (.inScope c :: k) = exitTo id k := by simp [exitTo]
  exact ⟨.exit id, a₁, w₁, hq, fun k' hk => .head h0 qXv (harr.1 k' (by rw [hx]; exact hk)),
    fun hr' hk => let ⟨k₁, h1, h2⟩ := harr.2 hr' (by rw [hx]; exact hk); ⟨k₁, h1, .head h0 qXv h2⟩⟩
 | goto l => exact hq.elim
 | ret => exact ⟨_, a₁, w₁, hq, .of_steps (.one h0 qXv) harr⟩
 | panic ch => exact ⟨_, a₁, w₁, hq, .of_steps (.one h0 qXv) harr⟩
 | outgrown => exact ⟨_, a₁, w₁, hq, .of_steps (.one h0 qXv) harr⟩
theorem wpIn_n {r : Option Nat} {m : Nat} {c : Code} (h : c.wpIn (fen r) 0 P Q a w) : c.wpIn (fen r) m P Q a w :=
 fun b k cs hro hb _ => h b k cs hro hb (fun d hd => by cases hd)
end
section
variable {cx : Cx} {ρ : Env} {β β' : Bt} {s s' : St} {w w' : World}
theorem Sat.put (h : Sat ρ β s w) {b : Nat} {o : Obj} (hl : ∀ j, live β s j → (β j).1 ≠ b)
  (hro : ∀ (k : Nat) (a : Addr) (i : Nat) (x : Value), (ρ.ro k).a = some a → (roV (ρ.ro k))[i]? = some x → a.block ≠ b) : Sat ρ β s (w.putObj b o) := by
 refine ⟨fun j b' hj => qZd (fun ho => World.putObj_heap_other (hl j ⟨b', hj, ho⟩)) (h.blk j b' hj), h.inj, h.kn, fun k a i x ha hi => ?_⟩
 obtain ⟨h1, h2⟩ := h.ro k a i x ha hi
 exact ⟨by rw [← h1]; exact roc_same (World.putObj_heap_other (hro k a i x ha hi)), h2⟩
theorem Ext.put (h : Ext s s' β β' w w') {b : Nat} {o : Obj} (hb : w.heap.size ≤ b) : Ext s s' β β' w (w'.putObj b o) :=
 ⟨h.ag, h.old, h.fresh, by simpa using h.size, fun c hc hn => by rw [World.putObj_heap_other (by omega)]; exact h.fr c hc hn, h.len, h.os, h.tape, h.output⟩
theorem Sat.setB (h : Sat ρ β s w) {j : Nat} {b0 b' : SBlk} {ob : Obj} (hj : s.bl[j]? = some b0) (ho : b0.occ (β j).2.1 = true) (hlt : (β j).1 < w.heap.size) (hb : qZw ρ β (β j).2.1 b' (some ob)) :
  Sat ρ β { s with bl := s.bl.set j b' } (w.putObj (β j).1 ob) ∧ Ext s { s with bl := s.bl.set j b' } β β w (w.putObj (β j).1 ob) := by
 have hlive : live β s j := ⟨_, hj, ho⟩
 have hjl := (List.getElem?_eq_some_iff.1 hj).1
 have hl : ∀ i, live β { s with bl := s.bl.set j b' } i → live β s i := by
  rintro i ⟨c, hc, hco⟩
  by_cases hij : j = i
  ·subst hij; exact hlive
  ·simp only [List.getElem?_set_ne hij] at hc
   exact ⟨c, hc, hco⟩
 have hx : Ext s { s with bl := s.bl.set j b' } β β w (w.putObj (β j).1 ob) :=
  ⟨fun _ _ => rfl, fun i _ hi => hl i hi, fun i hi hli => absurd (qQt (hl i hli)) (by omega), by simp, fun b hb hn => World.putObj_heap_other (fun e => hn j hlive e.symm), by simp, rfl, rfl, rfl⟩
 refine h.mk' hx ?_ (fun a b ha hb he => h.inj a b (hl a ha) (hl b hb) he) h.kn
 intro i c hc
 by_cases hij : j = i
 ·subst hij
  simp [hjl] at hc
  subst hc
  rw [World.putObj_heap_same hlt]
  exact hb
 ·rw [List.getElem?_set_ne hij] at hc
  exact qZd (fun hco => World.putObj_heap_other (fun e => hij (h.inj i j ⟨_, hc, hco⟩ hlive e).symm)) (h.blk i c hc)
theorem Sat.rcd_lt (h : Sat ρ β s w) {j fn o : Nat} {tm : List SV} {st : LoopState} {p : Option Jump} (hj : s.bl[j]? = some (.rcd fn o tm st p)) : (β j).1 < w.heap.size := h.lt ⟨_, hj, rfl⟩
theorem leavesM {F : Fence} {n : Nat} {P : Program} {fn : Func} {tmps : Array Value} {R : Ending → World → Prop} {Inv : World → Prop} {u : FrameMode} (hu : u ≠ .run) {ds : List Deferred} (hend : ∀ w, Inv w → LeavesInM F n P fn tmps R ds u w) :
  ∀ (ms : List Deferred) (w : World), (∀ m ∈ ms, ∃ b, m = { target := .collected b, args := #[] } ∧ w.heap[b]? = some (.deferred (some [])) ∧ ∀ w, Inv w → Inv (w.putObj b (.deferred none))) →
   ms.Pairwise (fun x y => x.target ≠ y.target) → Inv w → LeavesInM F n P fn tmps R (ms ++ ds) u w
 | [], w, _, _, hw => hend w hw
 | m :: ms, w, h, hp, hw => by
  obtain ⟨b, rfl, hb, hi⟩ := h m List.mem_cons_self
  refine ⟨hu, .inl ⟨b, _, rfl, run_takeDeferred hb, leavesM hu hend ms _ (fun m hm => ?_) (List.Pairwise.of_cons hp) (hi w hw)⟩⟩
  obtain ⟨c, rfl, hc, hic⟩ := h m (List.mem_cons_of_mem _ hm)
  have hne := List.rel_of_pairwise_cons hp hm
  refine ⟨c, rfl, ?_, hic⟩
  rw [World.putObj_heap_other (fun e => hne (by rw [e]))]
  exact hc
end
theorem rfL_at : ∀ (c : Code) (o : Nat) (r : RF), (rfL c)[o]? = some r →
  (∀ i r', (rfL r.asg)[i]? = some r' → (rfL c)[o + 1 + i]? = some r') ∧ (∀ i r', (rfL r.body)[i]? = some r' → (rfL c)[o + 1 + (rfL r.asg).length + i]? = some r') ∧
  (∀ x, x ∈ regs r.asg → x ∈ regs c) ∧ (∀ x, x ∈ regs r.body → x ∈ regs c)
 | .seq x y, o, r, h => by
  simp only [rfL, List.getElem?_append] at h
  split at h
  ·rename_i hlt
   obtain ⟨h1, h2, h3, h4⟩ := rfL_at x o r h
   refine ⟨fun i r' hi => ?_, fun i r' hi => ?_, fun z hz => by simp only [regs, List.mem_append]; exact .inl (h3 z hz), fun z hz => by simp only [regs, List.mem_append]; exact .inl (h4 z hz)⟩
   ·have := h1 i r' hi
    simp only [rfL]
    rw [List.getElem?_append_left (List.getElem?_eq_some_iff.1 this).1]; exact this
   ·have := h2 i r' hi
    simp only [rfL]
    rw [List.getElem?_append_left (List.getElem?_eq_some_iff.1 this).1]; exact this
  ·rename_i hge
   obtain ⟨h1, h2, h3, h4⟩ := rfL_at y _ r h
   refine ⟨fun i r' hi => ?_, fun i r' hi => ?_, fun z hz => by simp only [regs, List.mem_append]; exact .inr (h3 z hz), fun z hz => by simp only [regs, List.mem_append]; exact .inr (h4 z hz)⟩
   ·have := h1 i r' hi
    simp only [rfL]
    rw [List.getElem?_append_right (by omega), ← this]; congr 1; omega
   ·have := h2 i r' hi
    simp only [rfL]
    rw [List.getElem?_append_right (by omega), ← this]; congr 1; omega
 | .cond e x y, o, r, h => by
  simp only [rfL, List.getElem?_append] at h
  split at h
  ·rename_i hlt
   obtain ⟨h1, h2, h3, h4⟩ := rfL_at x o r h
   refine ⟨fun i r' hi => ?_, fun i r' hi => ?_, fun z hz => by simp only [regs, List.mem_append]; exact .inl (h3 z hz), fun z hz => by simp only [regs, List.mem_append]; exact .inl (h4 z hz)⟩
   ·have := h1 i r' hi
    simp only [rfL]
    rw [List.getElem?_append_left (List.getElem?_eq_some_iff.1 this).1]; exact this
   ·have := h2 i r' hi
    simp only [rfL]
    rw [List.getElem?_append_left (List.getElem?_eq_some_iff.1 this).1]; exact this
  ·rename_i hge
   obtain ⟨h1, h2, h3, h4⟩ := rfL_at y _ r h
   refine ⟨fun i r' hi => ?_, fun i r' hi => ?_, fun z hz => by simp only [regs, List.mem_append]; exact .inr (h3 z hz), fun z hz => by simp only [regs, List.mem_append]; exact .inr (h4 z hz)⟩
   ·have := h1 i r' hi
    simp only [rfL]
    rw [List.getElem?_append_right (by omega), ← this]; congr 1; omega
   ·have := h2 i r' hi
    simp only [rfL]
    rw [List.getElem?_append_right (by omega), ← this]; congr 1; omega
 | .block _ c, o, r, h => rfL_at c o r h
 | .scope c, o, r, h => rfL_at c o r h
 | .loop c, o, r, h => rfL_at c o r h
 | .rangeFunc g ps x y, 0, r, h => by
  simp only [rfL, List.getElem?_cons_zero, Option.some.injEq] at h
  subst h
  refine ⟨fun i r' hi => ?_, fun i r' hi => ?_, fun z hz => by simp only [regs, List.mem_append]; exact .inl hz, fun z hz => by simp only [regs, List.mem_append]; exact .inr hz⟩
  ·have hi' : (rfL x)[i]? = some r' := hi
   simp only [rfL]
   rw [show 0 + 1 + i = i + 1 by omega, List.getElem?_cons_succ, List.getElem?_append_left (List.getElem?_eq_some_iff.1 hi').1]; exact hi'
  ·have hi' : (rfL y)[i]? = some r' := hi
   simp only [rfL]
   rw [show 0 + 1 + (rfL x).length + i = ((rfL x).length + i) + 1 by omega, List.getElem?_cons_succ, List.getElem?_append_right (by omega), ← hi']; congr 1; omega
 | .rangeFunc g ps x y, o + 1, r, h => by
  simp only [rfL, List.getElem?_cons_succ, List.getElem?_append] at h
  split at h
  ·rename_i hlt
   obtain ⟨h1, h2, h3, h4⟩ := rfL_at x o r h
   refine ⟨fun i r' hi => ?_, fun i r' hi => ?_, fun z hz => by simp only [regs, List.mem_append]; exact .inl (h3 z hz), fun z hz => by simp only [regs, List.mem_append]; exact .inl (h4 z hz)⟩
   ·have := h1 i r' hi
    simp only [rfL]
    rw [show o + 1 + 1 + i = (o + 1 + i) + 1 by omega, List.getElem?_cons_succ, List.getElem?_append_left (List.getElem?_eq_some_iff.1 this).1]; exact this
   ·have := h2 i r' hi
    simp only [rfL]
    rw [show o + 1 + 1 + (rfL r.asg).length + i = (o + 1 + (rfL r.asg).length + i) + 1 by omega, List.getElem?_cons_succ, List.getElem?_append_left (List.getElem?_eq_some_iff.1 this).1]; exact this
  ·rename_i hge
   obtain ⟨h1, h2, h3, h4⟩ := rfL_at y _ r h
   refine ⟨fun i r' hi => ?_, fun i r' hi => ?_, fun z hz => by simp only [regs, List.mem_append]; exact .inr (h3 z hz), fun z hz => by simp only [regs, List.mem_append]; exact .inr (h4 z hz)⟩
   ·have := h1 i r' hi
    simp only [rfL]
    rw [show o + 1 + 1 + i = (o + 1 + i) + 1 by omega, List.getElem?_cons_succ, List.getElem?_append_right (by omega), ← this]; congr 1; omega
   ·have := h2 i r' hi
    simp only [rfL]
    rw [show o + 1 + 1 + (rfL r.asg).length + i = (o + 1 + (rfL r.asg).length + i) + 1 by omega, List.getElem?_cons_succ, List.getElem?_append_right (by omega), ← this]; congr 1; omega
 | .skip, o, r, h => by simp [rfL] at h
 | .label _, o, r, h => by simp [rfL] at h
 | .exit _, o, r, h => by simp [rfL] at h
 | .ret, o, r, h => by simp [rfL] at h
 | .region _ _ _, o, r, h => by simp [rfL] at h
 | .goto _, o, r, h => by simp [rfL] at h
 | .refuse _, o, r, h => by simp [rfL] at h
def putPs (ps : List Tmp) (args tm : List SV) : List SV := match ps, args with
 | p :: ps, x :: args => putPs ps args (tm.set p x)
 | _, _ => tm
theorem putPs_den {ρ : Env} {β : Bt} : ∀ {ps : List Tmp} {args tm : List SV}, ((ps.zip (SV.denL ρ β args)).foldl (fun (t : Array Value) (p : Tmp × Value) => t.setIfInBounds p.1 p.2) (SV.denL ρ β tm).toArray) = (SV.denL ρ β (putPs ps args tm)).toArray
 | [], _, _ => rfl
 | _ :: _, [], _ => rfl
 | p :: ps, x :: args, tm => by
  simp only [SV.denL, List.zip_cons_cons, List.foldl_cons, putPs]
  rw [← putPs_den, denL_set]
  congr 1
  simp
end Go.Eng
end

/-!  -/
noncomputable section
set_option linter.unusedSectionVars false
namespace Go.Eng
inductive How where
 | auto
 | unroll (n : Nat)
 | tmpl (mk : Option qJb)
 | poly (l : List (Option qJb))
 | autoT (mk : qJb)
def seqU (body : List SV → St → RCT) : Nat → List SV → St → Option (Ex × List SV × St)
 | 0, _, _ => none
 | n + 1, tm, s => match body tm s with
  | .leaf (.normal, tm', s') => seqU body n tm' s'
  | .leaf r => some r
  | _ => none
theorem seqU_ok {body : List SV → St → RCT} : ∀ {n : Nat} {tm : List SV} {s : St} {r : Ex × List SV × St}, seqU body n tm s = some r → loopU body n tm s = .leaf r
 | 0, _, _, _, h => by cases h
 | n + 1, tm, s, r, h => by
  simp only [seqU] at h
  split at h
  ·rename_i tm' s' hb
   simp only [loopU, hb, TT.bind]
   exact seqU_ok h
  ·rename_i q hq hb
   cases h
   simp only [loopU, hb, TT.bind]
   obtain ⟨x, tm', s'⟩ := r
   cases x with
   | normal => exact absurd rfl (hq tm' s')
   | exit _ => rfl
   | ret => rfl
   | pan _ _ _ => rfl
  ·cases h
def loopH (cx : Cx) (h : How) (m : Nat) (body : List SV → St → RCT) (tm : List SV) (s : St) : RCT :=
 match h with
 | .unroll n => loopU body n tm s
 | .tmpl mk => loopT cx mk body tm s
 | .poly l => loopP cx body l tm s
 | .auto => match seqU body m tm s with
  | some r => .leaf r
  | none => loopT cx none body tm s
 | .autoT mk => match seqU body m tm s with
  | some r => .leaf r
  | none => loopT cx (some mk) body tm s
def qXg : Code → Option Nat
 | .region id _ _ => some id
 | .seq x y => match qXg x with
  | some i => some i
  | none => qXg y
 | .cond _ x y => match qXg x with
  | some i => some i
  | none => qXg y
 | .block _ c => qXg c
 | .scope c => qXg c
 | .loop c => qXg c
 | .rangeFunc _ _ x y => match qXg x with
  | some i => some i
  | none => qXg y
 | _ => none
structure XP where
 cx : Cx
 cf : CF
 cfT : CFT
 rd : RDT
 ex : XF
 m : Nat
structure XOk2 (X : XP) : Prop where
 hcx : CxOk X.cx
 hcf : qKe X.cx X.cf
 hcfT : qJk X.cx X.cfT
 hrd : qKq X.cx X.rd
 hex : XOk X.cx X.ex
theorem loopH_ok {cx : Cx} {ρ : Env} {h0 : How} {m : Nat} {rnd : Option Nat} {body : List SV → St → RCT} {c : Code} (hb : CodeOkT cx rnd body c) (hρ : EnvOk cx ρ) {tm tm' : List SV} {s s' : St} {x : Ex} {β : Bt} {w : World} {a : Act} {Q : Exit → Act → World → Prop}
  (hr : rIn rnd s) (ht : a.tmps = (SV.denL ρ β tm).toArray) (hs : Sat ρ β s w) (h : (loopH cx h0 m body tm s).sel ρ = some (x, tm', s'))
  (hQ : ∀ a' w', BehM x ρ β s w a.defers tm' s' a' w' → Q x.to a' w') : (Code.loop c).wpIn (fen (rOf rnd β)) 0 cx.P Q a w := by
 unfold loopH at h
 split at h
 ·rename_i n
  exact wpIn_loop_rounds n (loopU_ok hb hρ n hr ht hs h hQ)
 ·exact loopT_ok hb hρ hr ht hs h hQ
 ·obtain ⟨_, n, hn⟩ := loopP_ok hb _ hρ h
  exact wpIn_loop_rounds n (hn _ _ _ _ hr ht hs hQ)
 ·split at h
  ·rename_i r hr'
   refine wpIn_loop_rounds m (loopU_ok hb hρ m hr ht hs ?_ hQ)
   rw [seqU_ok hr']; exact h
  ·exact loopT_ok hb hρ hr ht hs h hQ
 ·split at h
  ·rename_i r hr'
   refine wpIn_loop_rounds m (loopU_ok hb hρ m hr ht hs ?_ hQ)
   rw [seqU_ok hr']; exact h
  ·exact loopT_ok hb hρ hr ht hs h hQ
def endRF (j : Nat) (tm : List SV) (s : St) : RCT := match s.bl[j]? with
 | some (.rcd _ _ _ .ready none) => .leaf (.normal, tm, { s with bl := s.bl.set j .gone })
 | some (.rcd _ _ _ .done (some .ret)) => .leaf (.ret, tm, { s with bl := s.bl.set j .gone })
 | some (.rcd _ _ _ .done (some (.exit id))) => .leaf (.exit id, tm, { s with bl := s.bl.set j .gone })
 | _ => .bad 76
def inRcd (rnd : Option Nat) (s : St) : Bool := match rnd with
 | none => true
 | some j => match s.bl[j]? with
  | some (.rcd _ _ _ _ _) => true
  | _ => false
def rangeS (X : XP) (fn : Nat) (rnd : Option Nat) (g : Operand) (o : Nat) (tm : List SV) (s : St) : RCT := match evO tm g with
 | .func (.func fid) first cap =>
  if hasBody X.cx fid && SV.scL s.bl.length tm && s.sc s.bl.length && inRcd rnd s then
   (X.cfT fid (first ++ [.yld s.bl.length] ++ cap) (s.pushB (.rcd fn o tm .ready none))).bind fun r => match isPan r.1 with
    | none => endRF s.bl.length tm r.2
    | some _ => .bad 77
  else .bad 75
 | _ => .bad 72
theorem endRF_ok {ρ : Env} {β : Bt} {s s' : St} {w : World} {tm tm' : List SV} {x : Ex} {j : Nat} {P : Program} (hs : Sat ρ β s w) (h : (endRF j tm s).sel ρ = some (x, tm', s')) :
  tm' = tm ∧ ∃ (jump : Option Code) (w' : World), (Instr.endLoop (β j).1).run P w = .ok jump w' ∧ Sat ρ β s' w' ∧ Ext s s' β β w w' ∧
   ((jump = none ∧ x = .normal) ∨ (jump = some .ret ∧ x = .ret) ∨ ∃ id, jump = some (.exit id) ∧ x = .exit id) := by
 have key : ∀ (fn o : Nat) (tm0 : List SV) (st : LoopState) (p : Option Jump), s.bl[j]? = some (.rcd fn o tm0 st p) → st ≠ .busy →
   ∃ (w' : World), (Instr.endLoop (β j).1).run P w = .ok (p.map Jump.code) w' ∧ Sat ρ β { s with bl := s.bl.set j .gone } w' ∧ Ext s { s with bl := s.bl.set j .gone } β β w w' := by
  intro fn o tm0 st p hj hb
  obtain ⟨r, d, g, _, ht⟩ := hs.blk j _ hj
  obtain ⟨h1, h2⟩ := hs.setB (b' := .gone) (ob := .loop { ({ state := st, pending := p.map Jump.code, fn := g, tmps := (SV.denL ρ β tm0).toArray, params := r.ps, assign := r.asg, body := r.body, defers := d } : Loop) with state := .exhausted }) hj rfl (hs.rcd_lt hj) trivial
  exact ⟨_, run_endLoop ht hb, h1, h2⟩
 unfold endRF at h
 split at h
 ·rename_i fn o tm0 hj
  cases h
  obtain ⟨w', h1, h2, h3⟩ := key fn o tm0 _ _ hj (by simp)
  exact ⟨rfl, _, w', h1, h2, h3, .inl ⟨rfl, rfl⟩⟩
 ·rename_i fn o tm0 hj
  cases h
  obtain ⟨w', h1, h2, h3⟩ := key fn o tm0 _ _ hj (by simp)
  exact ⟨rfl, _, w', h1, h2, h3, .inr (.inl ⟨rfl, rfl⟩)⟩
 ·rename_i fn o tm0 id hj
  cases h
  obtain ⟨w', h1, h2, h3⟩ := key fn o tm0 _ _ hj (by simp)
  exact ⟨rfl, _, w', h1, h2, h3, .inr (.inr ⟨id, rfl, rfl⟩)⟩
 ·cases h
theorem rangeS_ok {X : XP} (hX : XOk2 X) {fn o : Nat} {rnd : Option Nat} {g : Operand} {ps : Array Tmp} {asg body : Code} (hrf : rfOf X.cx.P fn o = some ⟨ps, asg, body⟩) :
  CodeOkT X.cx rnd (rangeS X fn rnd g o) (.rangeFunc g ps asg body) := by
 intro ρ tm tm' s s' x β w a Q hρ hr ht hs h hQ
 unfold rangeS at h
 split at h
 case h_2 => cases h
 rename_i fid first cap hg
 split at h
 case isFalse => cases h
 rename_i hc
 simp only [Bool.and_eq_true] at hc
 obtain ⟨⟨⟨hbd, hsct⟩, hscs⟩, hin⟩ := hc
 obtain ⟨⟨v, s1⟩, h1, h2⟩ := TT.sel_bind_some h
 simp only at h2
 split at h2
 case h_2 => cases h2
 rename_i hnp
 refine wpIn_rangeFunc fun fn' _ => ?_
 have hagn : ∀ q m, ∀ j, j < s.bl.length → bnew β s.bl.length m q j = β j := fun q m j hj => by unfold bnew; rw [if_neg (by omega)]
 have hnw : ∀ q m, bnew β s.bl.length m q s.bl.length = (m, q, .nilIface) := fun q m => by simp [bnew]
 -- the record is laid
 have lay : ∃ (l : Nat) (mark : List Deferred) (w₁ : World), (Instr.enterLoop fn' a.tmps ps asg body (rOf rnd β)).run X.cx.P w = .ok (l, mark) w₁ ∧
   Sat ρ (bnew β s.bl.length l 0) (s.pushB (.rcd fn o tm .ready none)) w₁ ∧ Ext s (s.pushB (.rcd fn o tm .ready none)) β (bnew β s.bl.length l 0) w w₁ ∧
   Marks' (bnew β s.bl.length l 0) (s.pushB (.rcd fn o tm .ready none)) w w₁ mark := by
  have gen : ∀ (l d : Nat) (w₁ : World), w.heap.size ≤ l → w.heap.size ≤ w₁.heap.size → (∀ b, b < w.heap.size → w₁.heap[b]? = w.heap[b]?) → w₁.os = w.os → w₁.tape = w.tape → w₁.output = w.output →
    w₁.heap[l]? = some (.loop { state := .ready, pending := none, fn := fn', tmps := a.tmps, params := ps, assign := asg, body := body, defers := d }) →
    Sat ρ (bnew β s.bl.length l 0) (s.pushB (.rcd fn o tm .ready none)) w₁ ∧ Ext s (s.pushB (.rcd fn o tm .ready none)) β (bnew β s.bl.length l 0) w w₁ := by
   intro l d w₁ hl hsz hfr hos htp hou hob
   have hs1 : Sat ρ β s w₁ := by
    refine ⟨fun j b hj => qZd (fun ho => hfr _ (hs.lt ⟨b, hj, ho⟩)) (hs.blk j b hj), hs.inj, hs.kn, fun k ad i x ha hi => ?_⟩
    obtain ⟨k1, k2⟩ := hs.ro k ad i x ha hi
    exact ⟨by rw [← k1]; exact roc_same (hfr _ (hs.roLt ha hi)), k2⟩
   refine ⟨hs1.pushB hscs hsct ?_ ?_ ?_, ?_⟩
   ·exact ⟨⟨ps, asg, body⟩, d, fn', by rw [hρ.hP]; exact hrf, by rw [hob, ht]; rfl⟩
   ·intro _ i hi
    have := hs.lt hi
    omega
   ·intro _ k ad i x ha hi
    have := hs.roLt ha hi
    omega
   ·refine ⟨hagn 0 l, fun j hj hl' => ?_, fun j hj hl' => ?_, hsz, fun b hb _ => hfr b hb, by simp [St.pushB], hos, htp, hou⟩
    ·rcases qQo hl' with h | ⟨h, _⟩
     ·exact qXz (hagn 0 l j hj) h
     ·omega
    ·rcases qQo hl' with h | ⟨h, _⟩
     ·have := qQt h; omega
     ·subst h; exact .inl (by rw [hnw]; exact hl)
  cases rnd with
  | none =>
   obtain ⟨k1, k2⟩ := gen (w.heap.size + 1) w.heap.size ((w.alloc (.deferred (some []))).alloc (.loop { state := .ready, pending := none, fn := fn', tmps := a.tmps, params := ps, assign := asg, body := body, defers := w.heap.size }))
    (by omega) (by simp; omega) (fun b hb => by
     show ((w.heap.push _).push _)[b]? = _
     rw [Array.getElem?_push, if_neg (by simp; omega), Array.getElem?_push, if_neg (by omega)]) rfl rfl rfl (by
     show ((w.heap.push _).push _)[_]? = _
     rw [Array.getElem?_push, if_pos (by simp)])
   refine ⟨_, _, _, run_enterLoop_outer fn' a.tmps ps asg body, k1, k2, ⟨fun m hm => ?_, by simp⟩⟩
   simp only [List.mem_singleton] at hm
   subst hm
   refine ⟨w.heap.size, rfl, Nat.le_refl _, ?_, fun j hj => ?_⟩
   ·show ((w.heap.push _).push _)[w.heap.size]? = _
    rw [Array.getElem?_push, if_neg (by simp), Array.getElem?_push, if_pos rfl]
   ·rcases qQo hj with h | ⟨h, _⟩
    ·have h' := qXz (hagn _ _ j (qQt h)) h
     rw [hagn _ _ j (qQt h)]
     have := hs.lt h'
     omega
    ·subst h; rw [hnw]; simp
  | some j0 =>
   simp only [inRcd] at hin
   split at hin
   case h_2 => cases hin
   rename_i f0 o0 tm0 st0 p0 hj0
   obtain ⟨r0, d0, g0, _, hob0⟩ := hs.blk j0 _ hj0
   obtain ⟨k1, k2⟩ := gen w.heap.size d0 (w.alloc (.loop { state := .ready, pending := none, fn := fn', tmps := a.tmps, params := ps, assign := asg, body := body, defers := d0 }))
    (Nat.le_refl _) (by simp) (fun b hb => by
     show (w.heap.push _)[b]? = _
     rw [Array.getElem?_push, if_neg (by omega)]) rfl rfl rfl (World.alloc_heap_new _ _)
   exact ⟨_, _, _, run_enterLoop_inner hob0 fn' a.tmps ps asg body, k1, k2, .nil _ _ _ _⟩
 obtain ⟨l, mark, w₁, he, hs1, hx1, hm1⟩ := lay
 unfold hasBody at hbd
 split at hbd
 case h_2 => cases hbd
 rename_i fnc hfn
 have hden : ∀ (y : SV), SV.sc s.bl.length y = true → y.den ρ (bnew β s.bl.length l 0) = y.den ρ β := fun y hy => SV.den_sc (hagn 0 l) y hy
 have hcall : (callFunc fid (SV.denL ρ (bnew β s.bl.length l 0) (first ++ [.yld s.bl.length] ++ cap)).toArray).run X.cx.P w₁ = .ok (.enter fid (SV.denL ρ (bnew β s.bl.length l 0) (first ++ [.yld s.bl.length] ++ cap)).toArray) w₁ := by
  have hfn := X.cx.fnOk _ _ hfn
  have hn := hX.hcx.nogo fid fnc hfn
  obtain ⟨bd, hbd⟩ := Option.isSome_iff_exists.1 hbd
  simp only [callFunc, Sem.run_bind, run_program, Result.andThen_ok, hfn, hn, hbd]
  simp
 have hev : a.eval g = (SV.func (.func fid) first cap).den ρ (bnew β s.bl.length l 0) := by
  rw [← SV.denL_sc (hagn 0 l) tm hsct] at ht
  rw [qQb ht, hg]
 refine ⟨l, mark, w₁, { target := .fn (.func fid) (SV.denL ρ (bnew β s.bl.length l 0) cap).toArray, args := (SV.denL ρ (bnew β s.bl.length l 0) first).toArray ++ #[.func (.yield l) #[] #[]] }, w₁, fid, (SV.denL ρ (bnew β s.bl.length l 0) (first ++ [.yld s.bl.length] ++ cap)).toArray, w₁, he, ?_, fun _ _ => trivial, ?_, (fun h => by cases h), ?_⟩
 ·simp only [resolve, rangeCall, hev, SV.den, Deferred.ofValue, Sem.run_pure]
  simp [Act.eval]
 ·rw [← hcall]
  simp only [invoke]
  congr 2
  apply Array.ext'
  simp [qQf, SV.denL, SV.den, hnw]
 ·have hC := hX.hcfT ρ _ _ _ _ _ _ _ hρ hs1 h1
  refine calls_fen (hC.mono ?_)
  rintro e w2 ⟨β2, rfl, hs2, hx2⟩
  rw [qXc hnp]
  obtain ⟨rfl, jump, w3, k1, k2, k3, k4⟩ := endRF_ok (P := X.cx.P) hs2 h2
  have hl2 : (β2 s.bl.length).1 = l := by rw [hx2.ag _ (by simp [St.pushB]), hnw]
  rw [hl2] at k1
  have hxx := hx1.trans (hx2.trans k3)
  have hbeh : BehM x ρ β s w a.defers tm' s' { a with defers := mark ++ a.defers } w3 :=
   ⟨β2, mark, tmAt_eq (by rw [SV.denL_sc hxx.ag tm' hsct]; exact ht), rfl, k2, hxx, hm1.later (hx2.trans k3)⟩
  have hq := hQ _ _ hbeh
  refine ⟨jump, w3, k1, ?_⟩
  rcases k4 with ⟨rfl, rfl⟩ | ⟨rfl, rfl⟩ | ⟨id, rfl, rfl⟩
  ·exact hq
  ·exact wpIn_ret hq
  ·exact wpIn_exit hq
def isDr : How → Bool
 | .poly [] => true
 | _ => false
def execT (X : XP) (rt : RT) (lh : Nat → How) (fn : Nat) (rnd : Option Nat) : Code → Nat → List SV → St → RCT
 | .skip, _, tm, s => .leaf (.normal, tm, s)
 | .label _, _, tm, s => .leaf (.normal, tm, s)
 | .exit id, _, tm, s => .leaf (.exit id, tm, s)
 | .ret, _, tm, s => .leaf (.ret, tm, s)
 | .region _ ops false, _, tm, s => qKg X.cx X.cfT X.rd X.ex ops ops.toList tm s
 | .region id ops true, _, tm, s => match yields ops tm || isDr (lh id) with
  | true => drawT X.cx X.cfT X.rd X.ex rt id ops tm s
  | false => (drawS X.cx X.cf X.ex rt id ops tm s).lift.bind fun r => .leaf (.normal, r)
 | .seq x y, o, tm, s => (execT X rt lh fn rnd x o tm s).bind fun r => match r.1 with
  | .normal => execT X rt lh fn rnd y (o + (rfL x).length) r.2.1 r.2.2
  | e => .leaf (e, r.2)
 | .cond c x y, o, tm, s => match evO tm c with
  | .bool e => forkT s e (fun s => execT X rt lh fn rnd x o tm s) (fun s => execT X rt lh fn rnd y (o + (rfL x).length) tm s)
  | _ => .bad 71
 | .block id c, o, tm, s => (execT X rt lh fn rnd c o tm s).bind fun r => match r.1 with
  | .exit id' => if id' = id then .leaf (.normal, r.2) else .leaf (.exit id', r.2)
  | e => .leaf (e, r.2)
 | .scope c, o, tm, s => execT X rt lh fn rnd c o tm s
 | .loop c, o, tm, s => loopH X.cx (match qXg c with
  | some i => lh i
  | none => .auto) X.m (execT X rt lh fn rnd c o) tm s
 | .rangeFunc g _ _ _, o, tm, s => rangeS X fn rnd g o tm s
 | .goto _, _, _, _ => .bad 73
 | .refuse _, _, _, _ => .bad 74
theorem execT_ok {X : XP} {rt : RT} {lh : Nat → How} {fn : Nat} {rnd : Option Nat} (hX : XOk2 X) (c : Code) : ∀ (o : Nat), RtOk rt c → (∀ i r, (rfL c)[i]? = some r → rfOf X.cx.P fn (o + i) = some r) → CodeOkT X.cx rnd (execT X rt lh fn rnd c o) c := by
 induction c with
 | skip => intro o hrt hrf ρ tm tm' s s' x β w a Q hρ hr ht hs h hQ; cases h; exact wpIn_skip (hQ _ _ (Beh.m ⟨β, ht, rfl, hs, Ext.refl _ _ _⟩))
 | label l => intro o hrt hrf ρ tm tm' s s' x β w a Q hρ hr ht hs h hQ; cases h; exact wpIn_label (hQ _ _ (Beh.m ⟨β, ht, rfl, hs, Ext.refl _ _ _⟩))
 | exit id => intro o hrt hrf ρ tm tm' s s' x β w a Q hρ hr ht hs h hQ; cases h; exact wpIn_exit (hQ _ _ (Beh.m ⟨β, ht, rfl, hs, Ext.refl _ _ _⟩))
 | ret => intro o hrt hrf ρ tm tm' s s' x β w a Q hρ hr ht hs h hQ; cases h; exact wpIn_ret (hQ _ _ (Beh.m ⟨β, ht, rfl, hs, Ext.refl _ _ _⟩))
 | region id ops dr =>
  intro o hrt hrf ρ tm tm' s s' x β w a Q hρ hr ht hs h hQ
  cases dr with
  | false =>
   simp only [execT] at h
   exact wpIn_region_list (runOpsT_ok hX.hcx hX.hcfT hX.hrd hX.hex hρ ops ops.toList ht hs h (fun a' w' hb => hQ a' w' hb.m) _)
  | true =>
   simp only [execT] at h
   split at h
   ·exact drawT_ok hX.hcx hX.hcfT hX.hrd hX.hex hρ rt id (fun t h => hrt id ops (by simp [regs]) t h) ht hs h (fun a' w' hb => hQ a' w' hb.m) _
   ·obtain ⟨⟨tm1, s1⟩, h1, h2⟩ := TT.sel_bind_some h
    cases h2
    rw [T.lift_sel] at h1
    exact drawS_ok hX.hcx hX.hcf hX.hex hρ rt id ops (fun t h => hrt id ops (by simp [regs]) t h) ht hs h1 (fun a' w' hb => hQ a' w' hb.m) _
 | seq c1 c2 ih1 ih2 =>
  intro o hrt hrf ρ tm tm' s s' x β w a Q hρ hr ht hs h hQ
  simp only [execT] at h
  obtain ⟨⟨x1, tm1, s1⟩, h1, h2⟩ := TT.sel_bind_some h
  have hr1 : RtOk rt c1 := fun i o hm => hrt i o (by simp [regs, hm])
  have hr2 : RtOk rt c2 := fun i o hm => hrt i o (by simp [regs, hm])
  have hf1 : ∀ i r, (rfL c1)[i]? = some r → rfOf X.cx.P fn (o + i) = some r := fun i r hi => hrf i r (by simp only [rfL]; rw [List.getElem?_append_left (List.getElem?_eq_some_iff.1 hi).1]; exact hi)
  have hf2 : ∀ i r, (rfL c2)[i]? = some r → rfOf X.cx.P fn (o + (rfL c1).length + i) = some r := fun i r hi => by
   rw [Nat.add_assoc]; exact hrf _ r (by simp only [rfL]; rw [List.getElem?_append_right (by omega), ← hi]; congr 1; omega)
  refine wpIn_seq (ih1 o hr1 hf1 _ _ _ _ _ _ _ _ _ _ hρ hr ht hs h1 ?_)
  rintro a' w' ⟨β', ms, ht', hd', hs', hx', hm'⟩
  cases x1 with
  | normal =>
   rw [← rOf_ext hr hx']
   refine ih2 _ hr2 hf2 _ _ _ _ _ _ _ _ _ _ hρ (hr.ext hx') ht' hs' h2 fun a2 w2 hb2 => hQ a2 w2 ?_
   rw [hd'] at hb2
   exact hb2.of hx' hm'
  | exit id => cases h2; exact hQ _ _ ⟨β', ms, ht', hd', hs', hx', hm'⟩
  | ret => cases h2; exact hQ _ _ ⟨β', ms, ht', hd', hs', hx', hm'⟩
  | pan _ _ _ => cases h2; exact hQ _ _ ⟨β', ms, ht', hd', hs', hx', hm'⟩
 | cond c c1 c2 ih1 ih2 =>
  intro o hrt hrf ρ tm tm' s s' x β w a Q hρ hr ht hs h hQ
  simp only [execT] at h
  split at h
  ·rename_i e he
   have hr1 : RtOk rt c1 := fun i o hm => hrt i o (by simp [regs, hm])
   have hr2 : RtOk rt c2 := fun i o hm => hrt i o (by simp [regs, hm])
   have hf1 : ∀ i r, (rfL c1)[i]? = some r → rfOf X.cx.P fn (o + i) = some r := fun i r hi => hrf i r (by simp only [rfL]; rw [List.getElem?_append_left (List.getElem?_eq_some_iff.1 hi).1]; exact hi)
   have hf2 : ∀ i r, (rfL c2)[i]? = some r → rfOf X.cx.P fn (o + (rfL c1).length + i) = some r := fun i r hi => by
    rw [Nat.add_assoc]; exact hrf _ r (by simp only [rfL]; rw [List.getElem?_append_right (by omega), ← hi]; congr 1; omega)
   have hc : a.eval c = .bool (e.ev ρ != 0) := by rw [qQb ht, he]; rfl
   obtain ⟨s1, e1, hs1, ⟨hne, h⟩ | ⟨h0, h⟩⟩ := forkT_ok hs h
   ·refine wpIn_cond_true (by rw [hc]; simp [hne]) (ih1 o hr1 hf1 _ _ _ _ _ _ _ _ _ _ hρ (hr.ext (qQs e1 β w)) ht hs1 h fun a2 w2 hb2 => hQ a2 w2 ?_)
    exact hb2.of0 (qQs e1 β w)
   ·refine wpIn_cond_false (by rw [hc]; simp [h0]) (ih2 _ hr2 hf2 _ _ _ _ _ _ _ _ _ _ hρ (hr.ext (qQs e1 β w)) ht hs1 h fun a2 w2 hb2 => hQ a2 w2 ?_)
    exact hb2.of0 (qQs e1 β w)
  ·cases h
 | block id c ih =>
  intro o hrt hrf ρ tm tm' s s' x β w a Q hρ hr ht hs h hQ
  simp only [execT] at h
  obtain ⟨⟨x1, tm1, s1⟩, h1, h2⟩ := TT.sel_bind_some h
  refine wpIn_block (ih o (fun i o hm => hrt i o (by simpa [regs] using hm)) hrf _ _ _ _ _ _ _ _ _ _ hρ hr ht hs h1 ?_)
  intro a' w' hb
  cases x1 with
  | normal => cases h2; exact hQ _ _ hb
  | ret => cases h2; exact hQ _ _ hb
  | pan _ _ _ => cases h2; exact hQ _ _ hb
  | exit id' =>
   simp only at h2
   simp only [Ex.to, Exit.inBlock]
   split at h2
   ·rename_i hid; cases h2; rw [if_pos hid]; exact hQ _ _ hb
   ·rename_i hid; cases h2; rw [if_neg hid]; exact hQ _ _ hb
 | scope c ih =>
  intro o hrt hrf ρ tm tm' s s' x β w a Q hρ hr ht hs h hQ
  simp only [execT] at h
  refine wpIn_scope_straight (ih o (fun i o hm => hrt i o (by simpa [regs] using hm)) hrf _ _ _ _ _ _ _ _ _ _ hρ hr ht hs h fun a' w' hb => ?_)
  have := hQ a' w' hb
  cases x <;> exact this
 | loop c ih =>
  intro o hrt hrf ρ tm tm' s s' x β w a Q hρ hr ht hs h hQ
  simp only [execT] at h
  exact loopH_ok (ih o (fun i o hm => hrt i o (by simpa [regs] using hm)) hrf) hρ hr ht hs h hQ
 | rangeFunc g ps asg body _ _ =>
  intro o hrt hrf
  have := hrf 0 ⟨ps, asg, body⟩ (by simp [rfL])
  exact rangeS_ok hX this
 | goto _ => intro o hrt hrf ρ tm tm' s s' x β w a Q hρ hr ht hs h hQ; cases h
 | refuse _ => intro o hrt hrf ρ tm tm' s s' x β w a Q hρ hr ht hs h hQ; cases h
end Go.Eng
end

/-!  -/
noncomputable section
set_option linter.unusedSectionVars false
namespace Go.Eng
def isRec (o : Oper) : Bool := match o.op with
 | .call c => (match c.callee with
  | .builtin .recover => true
  | _ => false)
 | _ => false
theorem run_rec {P : Program} {o : Oper} {g : Operand → Value} {w : World} (h : isRec o = true) : (execOp g o).run P w = .ok .recover w := by
 unfold isRec at h
 split at h
 ·rename_i c hc
  split at h
  ·rename_i hb
   simp only [execOp, hc, resolve, hb, Sem.run_bind, Sem.run_pure, Result.andThen_ok, invoke]
   rfl
  ·cases h
 ·cases h
abbrev Pan := Option (TypeId × IntKind × Int)
def modeIn : Pan → FrameMode
 | some (t, k, n) => .panicking (panC t k n)
 | none => .returning
def modeOut : Pan → FrameMode
 | some (t, k, n) => .panicking [{ v := panV t k n, recovered := true }]
 | none => .returning
theorem settle_out (p : Pan) : settle (modeOut p) = .returning := by
 cases p with
 | none => rfl
 | some q => rfl
theorem modeIn_run (p : Pan) : modeIn p ≠ .run := by
 cases p with
 | none => simp [modeIn]
 | some q => simp [modeIn]
def recS : Pan → SV
 | some (t, k, n) => .iface t (.agg [.int k (.c n)])
 | none => .lit .nilIface
def runR (cx : Cx) (ops : Array Oper) : List Oper → List SV → St → T (List SV × St)
 | [], tm, s => .leaf (tm, s)
 | o :: l, tm, s => match wantS ops tm o with
  | .yes => if qKx o then .bad 87 else (opS cx tm s o).bind fun r => if !chg o.op || SV.scL s.bl.length tm then runR cx ops l (putS tm o.dst r.1) r.2 else .bad 40
  | _ => .bad 41
def execClo (cx : Cx) (cf : CF) (ex : XF) (rts : RTS) (m : Nat) (fid : FuncId) (args : List SV) (p : Pan) (s : St) : T St :=
 match cx.fn fid with
 | none => .bad 81
 | some fn => match fn.body with
  | some (.seq (.region _ ops false) R) => match ops.toList with
   | o0 :: l => if isRec o0 then (match wantS ops (qKt fn.ntmps args) o0 with
    | .yes => (runR cx ops l (putS (qKt fn.ntmps args) o0.dst (recS p)) s).bind fun r => (qZg cx cf ex (rts fid) m R r.1 r.2).bind fun q => match q.1 with
     | .normal => (match resS cx fn q.2.1 q.2.2 with
      | some _ => .leaf q.2.2
      | none => .bad 84)
     | .ret => (match resS cx fn q.2.1 q.2.2 with
      | some _ => .leaf q.2.2
      | none => .bad 84)
     | _ => .bad 83
    | _ => .bad 41) else .bad 88
   | [] => .bad 88
  | _ => .bad 88
section
variable {cx : Cx} {ρ : Env} {cf : CF} {ex : XF} {m : Nat}
theorem runR_ok (hρ : EnvOk cx ρ) {ops : Array Oper} {Q : Exit → Act → List Frame → World → Prop} {cs : List Frame} : ∀ (l : List Oper) (k : Nat) {tm tm' : List SV} {s s' : St} {β : Bt} {w : World} {a : Act}, (∀ j, l[j]? = ops[k + j]?) →
  a.tmps = (SV.denL ρ β tm).toArray → Sat ρ β s w → (runR cx ops l tm s).sel ρ = some (tm', s') →
  (∀ a' w', Beh ρ β s w a.defers tm' s' a' w' → Q .normal a' cs w') → wpOpsSIn (fen none) 0 cx.P ops Q (List.range' k l.length) a cs w
 | [], k, tm, tm', s, s', β, w, a, _, ht, hs, h, hQ => by
  cases h
  exact hQ _ _ ⟨β, ht, rfl, hs, Ext.refl _ _ _⟩
 | o :: l, k, tm, tm', s, s', β, w, a, hl, ht, hs, h, hQ => by
  have h0 : ops[k]? = some o := by simpa using (hl 0).symm
  have hl' : ∀ j, l[j]? = ops[k + 1 + j]? := fun j => by have := hl (j + 1); simpa [Nat.add_assoc, Nat.add_comm 1 j] using this
  have hw := qXd (ops := ops) (o := o) ht
  simp only [runR] at h
  split at h
  case h_2 => cases h
  rename_i hy
  rw [hy] at hw
  split at h
  ·cases h
  obtain ⟨⟨r, s2⟩, h1, h2⟩ := T.sel_bind_some h
  obtain ⟨β', w', hR, hs2, hx2, hch, _⟩ := opS_ok hρ ht hs h1
  simp only [List.length_cons, List.range'_succ, wpOpsSIn, h0]
  refine ⟨fun _ _ => trivial, ?_⟩
  rw [hw]
  simp only [if_true]
  split at h2
  case isFalse => cases h2
  rename_i hc
  have htm : (SV.denL ρ β tm) = SV.denL ρ β' tm := by
   simp only [Bool.or_eq_true, Bool.not_eq_true'] at hc
   rcases hc with hc | hc
   ·rw [hch hc]
   ·exact (SV.denL_sc hx2.ag tm hc).symm
  rw [htm] at ht
  have fin : wpOpsSIn (fen none) 0 cx.P ops Q (List.range' (k + 1) l.length) (a.put o.dst (r.den ρ β')) cs w' := by
   refine runR_ok hρ l (k + 1) hl' (qZj ht _ _) hs2 h2 fun a' w'' hb => hQ a' w'' ?_
   rw [qQg] at hb
   exact hb.of hx2
  rcases hR with hR | ⟨hR, hV⟩
  ·rw [hR]; exact fin
  ·rw [hR]; rw [hV] at fin; exact fin
theorem execClo_ok (hcx : CxOk cx) {rts : RTS} (hrts : RtsOk cx.P rts) (hcf : qKe cx cf) (hex : XOk cx ex) (hρ : EnvOk cx ρ) {fid : FuncId} {args : List SV} {p : Pan} {s s' : St} {β : Bt} {w : World} (hs : Sat ρ β s w)
  (h : (execClo cx cf ex rts m fid args p s).sel ρ = some s') :
  CallsDIn (fen none) 0 cx.P fid (SV.denL ρ β args).toArray (modeIn p) w fun e u' w' => u' = modeOut p ∧ (∃ V, e = .returned V) ∧ ∃ β', Sat ρ β' s' w' ∧ Ext s s' β β' w w' := by
 unfold execClo at h
 split at h
 ·cases h
 rename_i fn hfn
 split at h
 case h_2 => cases h
 rename_i rid ops R hbody
 split at h
 case h_2 => cases h
 rename_i o0 l hops
 split at h
 case isFalse => cases h
 rename_i hrec
 split at h
 case h_2 => cases h
 rename_i hy
 obtain ⟨⟨tm1, s1⟩, h1, h2⟩ := T.sel_bind_some h
 obtain ⟨⟨x, tm2, s2⟩, h3, h4⟩ := T.sel_bind_some h2
 have hrt := hrts fid fn _ (cx.fnOk _ _ hfn) hbody
 have hrtR : RtOk (rts fid) R := fun i o hm => hrt i o (by simp [regs, hm])
 refine callsDIn_of_wpSIn (cx.fnOk _ _ hfn) hbody trivial fun c₀ cs hu => ?_
 refine wpSIn_seq (wpSIn_region ?_)
 have hlen : ops.size = (o0 :: l).length := by rw [← hops, Array.length_toList]
 have hget : ∀ j, (o0 :: l)[j]? = ops[j]? := fun j => by rw [← hops, Array.getElem?_toList]
 rw [hlen, List.range_eq_range', List.length_cons, List.range'_succ]
 have ht0 : ({ tmps := (SV.denL ρ β args).toArray ++ Array.replicate (fn.ntmps - (SV.denL ρ β args).toArray.size) undef, defers := [] } : Act).tmps = (SV.denL ρ β (qKt fn.ntmps args)).toArray := by
  simp only [qKt, qQf]
  apply Array.ext'
  simp [qQa, den_undef]
 have hw := qXd (ops := ops) (o := o0) ht0
 rw [hy] at hw
 have hg0 : ops[0]? = some o0 := by simpa using (hget 0).symm
 have hrun := run_rec (P := cx.P) (g := ({ tmps := (SV.denL ρ β args).toArray ++ Array.replicate (fn.ntmps - (SV.denL ρ β args).toArray.size) undef, defers := [] } : Act).eval) (w := w) hrec
 simp only [wpOpsSIn, hg0]
 refine ⟨fun _ _ => trivial, ?_⟩
 rw [hw]
 simp only [if_true, hrun]
 -- behind recover
 have key : ∀ (cs' : List Frame), cs' = { c₀ with mode := modeOut p } :: cs → wpOpsSIn (fen none) 0 cx.P ops (Exit.thenS (R.wpSIn (fen none) 0 cx.P (bodyPostS cx.P fn c₀ cs (fun e u' w' => u' = modeOut p ∧ (∃ V, e = .returned V) ∧ ∃ β', Sat ρ β' s' w' ∧ Ext s s' β β' w w'))) (bodyPostS cx.P fn c₀ cs (fun e u' w' => u' = modeOut p ∧ (∃ V, e = .returned V) ∧ ∃ β', Sat ρ β' s' w' ∧ Ext s s' β β' w w')))
   (List.range' (0 + 1) l.length) (({ tmps := (SV.denL ρ β args).toArray ++ Array.replicate (fn.ntmps - (SV.denL ρ β args).toArray.size) undef, defers := [] } : Act).put o0.dst ((recS p).den ρ β)) cs' w := by
  intro cs' hcs
  refine runR_ok hρ l (0 + 1) (fun j => ?_) (qZj ht0 _ _) hs h1 ?_
  ·have := hget (j + 1); simpa [Nat.add_comm 1 j] using this
  rintro a1 w1 ⟨β1, t1, d1, hs1, hx1⟩
  rw [qQg] at d1
  refine wpSIn_of_wpIn rfl ((wpIn_wide (n := 0)).2 ?_)
  refine execCode_ok hcx hcf hex hρ R hrtR _ _ _ _ _ _ _ _ _ t1 hs1 h3 ?_
  rintro a2 w2 ⟨β2, t2, d2, hs2, hx2⟩
  rw [d1] at d2
  have fin : ∀ {y : Option SV}, y = resS cx fn tm2 s2 → (match y with
    | some _ => (T.leaf s2 : T St)
    | none => .bad 84).sel ρ = some s' → a2.defers = [] ∧ ∃ u', cs' = { c₀ with mode := u' } :: cs ∧ ∃ v, (results fn a2.tmps).run cx.P w2 = .ok v w2 ∧ (u' = modeOut p ∧ (∃ V, Ending.returned v = .returned V) ∧ ∃ β', Sat ρ β' s' w2 ∧ Ext s s' β β' w w2) := by
   intro y hyy hh
   cases y with
   | none => cases hh
   | some v =>
    cases hh
    exact ⟨d2, modeOut p, hcs, _, resS_ok hs2 t2 hyy.symm, rfl, ⟨_, rfl⟩, β2, hs2, hx1.trans hx2⟩
  cases x with
  | normal => exact fin rfl h4
  | ret => exact fin rfl h4
  | exit _ => cases h4
  | pan _ _ _ => cases h4
 cases p with
 | none =>
  have hr : recoverD (c₀ :: cs) = none := by
   have hm : c₀.mode = .returning := hu
   simp [recoverD, hm]
  rw [hr]
  refine key _ ?_
  have hm : c₀.mode = .returning := hu
  show c₀ :: cs = { c₀ with mode := .returning } :: cs
  rw [← hm]
 | some q =>
  obtain ⟨t, k, n⟩ := q
  have hm : c₀.mode = .panicking (panC t k n) := hu
  have hr : recoverD (c₀ :: cs) = some (panV t k n, { c₀ with mode := .panicking [{ v := panV t k n, recovered := true }] } :: cs) := by
   simp [recoverD, hm, panC]
  rw [hr]
  exact key _ rfl
end
end Go.Eng
end

/-!  -/
noncomputable section
set_option linter.unusedSectionVars false
namespace Go.Eng
abbrev LHS := FuncId → Nat → How
def beginS (s : St) (j : Nat) : Option St := match s.bl[j]? with
 | some (.rcd fn o tm .ready p) => some { s with bl := s.bl.set j (.rcd fn o tm .busy p) }
 | _ => none
def endS (s : St) (j : Nat) (p : Option Jump) : Option St := match s.bl[j]? with
 | some (.rcd fn o tm _ _) => some { s with bl := s.bl.set j (.rcd fn o tm (if p.isNone then .ready else .done) p) }
 | _ => none
def endRd (n j : Nat) (s : St) (p : Option Jump) (b : Int) : RT2 := match endS s j p with
 | some s' => .leaf (.bool (.c b), gcS n (.bool (.c b)) s')
 | none => .bad 91
def execRound (X : XP) (rts : RTS) (lhs : LHS) (j : Nat) (args : List SV) (s : St) : RT2 := match s.bl[j]? with
 | some (.rcd fn o tm _ _) => match X.cx.fn fn with
  | none => .bad 92
  | some f => match f.body with
   | none => .bad 93
   | some c => match (rfL c)[o]? with
    | none => .bad 94
    | some r => if Nat.beq args.length r.ps.size then
      (execT X (rts fn) (lhs fn) fn (some j) r.asg (o + 1) (putPs r.ps.toList args tm) s).bind fun q => match q.1 with
       | .normal => match beginS q.2.2 j with
        | none => .bad 96
        | some s2 => (execT X (rts fn) (lhs fn) fn (some j) r.body (o + 1 + (rfL r.asg).length) q.2.1 s2).bind fun q2 => match q2.1 with
         | .normal => endRd s.bl.length j q2.2.2 none 1
         | .ret => endRd s.bl.length j q2.2.2 (some .ret) 0
         | .exit id => endRd s.bl.length j q2.2.2 (some (.exit id)) 0
         | .pan _ _ _ => .bad 97
       | _ => .bad 97
     else .bad 98
 | _ => .bad 99
section
variable {cx : Cx} {ρ : Env} {β : Bt} {s s' : St} {w : World} {j : Nat} {P : Program}
theorem beginS_ok (hs : Sat ρ β s w) (h : beginS s j = some s') : ∃ w', (Instr.beginRound (β j).1).run P w = .ok () w' ∧ Sat ρ β s' w' ∧ Ext s s' β β w w' := by
 unfold beginS at h
 split at h
 ·rename_i fn o tm p hj
  cases h
  obtain ⟨r, d, g, hr, ht⟩ := hs.blk j _ hj
  obtain ⟨h1, h2⟩ := hs.setB (b' := .rcd fn o tm .busy p) (ob := .loop { ({ state := .ready, pending := p.map Jump.code, fn := g, tmps := (SV.denL ρ β tm).toArray, params := r.ps, assign := r.asg, body := r.body, defers := d } : Loop) with state := .busy }) hj rfl (hs.rcd_lt hj) ⟨r, d, g, hr, rfl⟩
  exact ⟨_, run_beginRound ht rfl, h1, h2⟩
 ·cases h
theorem endS_ok (hs : Sat ρ β s w) {p : Option Jump} (h : endS s j p = some s') : ∃ w', (Instr.endRound (β j).1 (p.map Jump.code)).run P w = .ok (.bool p.isNone) w' ∧ Sat ρ β s' w' ∧ Ext s s' β β w w' := by
 unfold endS at h
 split at h
 ·rename_i fn o tm st p0 hj
  cases h
  obtain ⟨r, d, g, hr, ht⟩ := hs.blk j _ hj
  obtain ⟨h1, h2⟩ := hs.setB (b' := .rcd fn o tm (if p.isNone then .ready else .done) p) (ob := .loop { ({ state := st, pending := p0.map Jump.code, fn := g, tmps := (SV.denL ρ β tm).toArray, params := r.ps, assign := r.asg, body := r.body, defers := d } : Loop) with state := if (p.map Jump.code).isNone then .ready else .done, pending := p.map Jump.code }) hj rfl (hs.rcd_lt hj) ⟨r, d, g, hr, by simp⟩
  refine ⟨_, ?_, h1, h2⟩
  rw [run_endRound _ ht]
  simp
 ·cases h
theorem endRd_v {n : Nat} {p : Option Jump} {b : Int} {v : SV} (h : (endRd n j s p b).sel ρ = some (v, s')) : isPan v = none := by
 unfold endRd at h
 split at h
 ·cases h; rfl
 ·cases h
theorem endRd_ok (hs : Sat ρ β s w) {n : Nat} {p : Option Jump} {b : Int} {v : SV} (hb : (b != 0) = p.isNone) (h : (endRd n j s p b).sel ρ = some (v, s')) : ∃ (w' : World) (s1 : St), (Instr.endRound (β j).1 (p.map Jump.code)).run P w = .ok (v.den ρ β) w' ∧
  Sat ρ β s1 w' ∧ Ext s s1 β β w w' ∧ s' = gcS n v s1 := by
 unfold endRd at h
 split at h
 ·rename_i s1 h1
  cases h
  obtain ⟨w', k1, k2, k3⟩ := endS_ok (P := P) hs h1
  exact ⟨w', s1, by rw [k1]; simp [SV.den, E.ev, hb], k2, k3, rfl⟩
 ·cases h
end
theorem zip_toList (ps : Array Tmp) (l : List Value) (t : Array Value) : (ps.zip l.toArray).foldl (fun tmps (x : Tmp × Value) => tmps.setIfInBounds x.1 x.2) t = (ps.toList.zip l).foldl (fun tmps (x : Tmp × Value) => tmps.setIfInBounds x.1 x.2) t := by
 rw [← Array.foldl_toList, Array.toList_zip]
theorem execRound_ok {X : XP} {rts : RTS} {lhs : LHS} (hX : XOk2 X) (hrts : RtsOk X.cx.P rts) : qKq X.cx (execRound X rts lhs) := by
 intro ρ β s s' w j args v hρ hs h
 unfold execRound at h
 split at h
 case h_2 => cases h
 rename_i fn o tm st p hj
 split at h
 ·cases h
 rename_i f hf
 split at h
 ·cases h
 rename_i c hc
 split at h
 ·cases h
 rename_i r hr
 split at h
 case isFalse => cases h
 rename_i hn
 have hrf : rfOf X.cx.P fn o = some r := by
  unfold rfOf
  rw [X.cx.fnOk _ _ hf]
  simp only [hc]
  exact hr
 obtain ⟨r', d, g, hr', ht⟩ := hs.blk j _ hj
 rw [hρ.hP, hrf] at hr'
 cases hr'
 have hjl : j < s.bl.length := (List.getElem?_eq_some_iff.1 hj).1
 obtain ⟨r1, r2, r3, r4⟩ := rfL_at c o r hr
 have hrt0 := hrts fn f c (X.cx.fnOk _ _ hf) hc
 have rf_of : ∀ i r', (rfL c)[i]? = some r' → rfOf X.cx.P fn i = some r' := fun i r' hi => by
  unfold rfOf
  rw [X.cx.fnOk _ _ hf]
  simp only [hc]
  exact hi
 have hin : rIn (some j) s := fun k hk => by cases hk; exact hjl
 have hnp : isPan v = none := by
  obtain ⟨⟨x1, tm1, s1⟩, h1, h2⟩ := TT.sel_bind_some h
  cases x1 with
  | exit id => cases h2
  | ret => cases h2
  | pan _ _ _ => cases h2
  | normal =>
   simp only at h2
   split at h2
   ·cases h2
   obtain ⟨⟨x3, tm3, s3⟩, h3, h4⟩ := TT.sel_bind_some h2
   cases x3 with
   | exit id => exact endRd_v h4
   | ret => exact endRd_v h4
   | normal => exact endRd_v h4
   | pan _ _ _ => cases h4
 refine ⟨hnp, _, _, _, _, run_yield ht (by simpa [qQa] using Nat.eq_of_beq_eq_true hn), fun q n => ?_⟩
 simp only
 obtain ⟨⟨x1, tm1, s1⟩, h1, h2⟩ := TT.sel_bind_some h
 simp only at h2
 cases x1 with
 | exit id => cases h2
 | ret => cases h2
 | pan _ _ _ => cases h2
 | normal =>
  simp only at h2
  split at h2
  ·cases h2
  rename_i s2 hb2
  obtain ⟨⟨x3, tm3, s3⟩, h3, h4⟩ := TT.sel_bind_some h2
  refine roundIn_of_wpIn trivial ?_
  refine wpIn_n ?_
  refine execT_ok hX r.asg (o + 1) (fun i ops hm => hrt0 i ops (r3 _ hm)) (fun i r' hi => rf_of _ _ (r1 i r' hi)) ρ _ tm1 s s1 .normal β w _ _ hρ hin ?_ hs h1 ?_
  ·show _ = (SV.denL ρ β (putPs r.ps.toList args tm)).toArray
   rw [← putPs_den]
   exact zip_toList _ _ _
  ·rintro a1 w1 ⟨β1, ms1, ht1, _, hs1, hx1, _⟩
   have e1 : β1 j = β j := hx1.ag j hjl
   obtain ⟨w2, b1, b2, b3⟩ := beginS_ok (P := X.cx.P) hs1 hb2
   rw [e1] at b1
   refine ⟨w2, b1, ?_⟩
   have hro : rOf (some j) β1 = some (β j).1 := by simp [rOf, e1]
   have hx2 := hx1.trans b3
   refine wpIn_n ?_
   rw [← hro]
   refine execT_ok hX r.body (o + 1 + (rfL r.asg).length) (fun i ops hm => hrt0 i ops (r4 _ hm)) (fun i r' hi => rf_of _ _ (r2 i r' hi)) ρ tm1 tm3 s2 s3 x3 β1 w2 a1 _ hρ (hin.ext hx2) ht1 b2 h3 ?_
   rintro a3 w3 ⟨β3, ms3, ht3, _, hs3, hx3, _⟩
   have hx4 := hx2.trans hx3
   have e3 : β3 j = β j := hx4.ag j hjl
   have fin : ∀ (p : Option Jump) (b : Int), (b != 0) = p.isNone → (endRd s.bl.length j s3 p b).sel ρ = some (v, s') → ∃ V w', (Instr.endRound (β j).1 (p.map Jump.code)).run X.cx.P w3 = .ok V w' ∧
     ∃ β', Ending.returned V = .returned (v.den ρ β') ∧ Sat ρ β' s' w' ∧ Ext s s' β β' w w' := by
    intro p b hb h
    obtain ⟨w4, s4, k1, k2, k3, k4⟩ := endRd_ok (P := X.cx.P) hs3 hb h
    rw [e3] at k1
    obtain ⟨g1, _, g3⟩ := gcS_get s.bl.length v s4
    refine ⟨_, w4, k1, β3, rfl, ?_, ?_⟩
    ·rw [k4]; exact k2.mask g1 (by rw [g3]; exact k2.kn)
    ·rw [k4]; exact ext_gc (hx4.trans k3) v
   cases x3 with
   | normal => exact fin none 1 rfl h4
   | ret => exact fin (some .ret) 0 rfl h4
   | exit id => exact fin (some (.exit id)) 0 rfl h4
   | pan _ _ _ => cases h4
def grdT (t : RT2) : RT2 := t.bind fun r => match isPan r.1 with
 | none => .leaf r
 | some _ => .bad 85
theorem grdT_sel {ρ : Env} {t : RT2} {v : SV} {s : St} (h : (grdT t).sel ρ = some (v, s)) : t.sel ρ = some (v, s) ∧ isPan v = none := by
 obtain ⟨⟨v1, s1⟩, h1, h2⟩ := TT.sel_bind_some h
 simp only at h2
 split at h2
 ·rename_i hn; cases h2; exact ⟨h1, hn⟩
 ·cases h2
def slotsOk (n : Nat) (fn : Func) : Bool := fn.results.toList.all fun r => match r with
 | .tmp t => Nat.blt t n
 | .cell a _ => Nat.blt a n
theorem mapM_same {α β : Type} {l : List α} {f g : α → Sem β} (h : ∀ x ∈ l, f x = g x) : l.mapM f = l.mapM g := by
 induction l with
 | nil => rfl
 | cons x l ih =>
  rw [List.mapM_cons, List.mapM_cons, h x List.mem_cons_self, ih fun y hy => h y (List.mem_cons_of_mem _ hy)]
theorem results_pre {fn : Func} {ts : Array Value} {l : List Value} (hl : slotsOk l.length fn = true) (h : ∀ (i : Nat) (v : Value), l[i]? = some v → ts[i]? = some v) : results fn ts = results fn l.toArray := by
 rw [results_rv, results_rv, Array.mapM_eq_mapM_toList, Array.mapM_eq_mapM_toList]
 have hg : ∀ i, i < l.length → ts.getD i undef = l.toArray.getD i undef := by
  intro i hi
  have := h i _ (List.getElem?_eq_getElem hi)
  rw [Array.getD_eq_getD_getElem?, Array.getD_eq_getD_getElem?, this, List.getElem?_toArray, List.getElem?_eq_getElem hi]
 have : fn.results.toList.mapM (rv ts) = fn.results.toList.mapM (rv l.toArray) := by
  refine mapM_same fun x hx => ?_
  have hb := List.all_eq_true.1 hl x hx
  cases x with
  | tmp t => simp only [Nat.blt_eq] at hb; simp only [rv, hg t hb]
  | cell a t => simp only [Nat.blt_eq] at hb; simp only [rv, hg a hb]
 rw [this]
def cutD : Code → Option (Array Oper × Array Oper × Oper × Operand × Code)
 | .seq (.region _ ops0 false) (.seq (.region _ ops1 false) R) => match ops1.toList.getLast? with
  | some d => (match d.op with
   | .defer k => (match k.callee with
    | .value g => if k.args.toList.isEmpty then some (ops0, ops1, d, g, R) else none
    | _ => none)
   | _ => none)
  | none => none
 | _ => none
theorem cutD_ok {c : Code} {ops0 ops1 : Array Oper} {d : Oper} {g : Operand} {R : Code} (h : cutD c = some (ops0, ops1, d, g, R)) :
  ∃ i0 i1 k, c = .seq (.region i0 ops0 false) (.seq (.region i1 ops1 false) R) ∧ ops1.toList = ops1.toList.dropLast ++ [d] ∧ d.op = .defer k ∧ k.callee = .value g ∧ k.args.toList = [] := by
 unfold cutD at h
 split at h
 case h_2 => cases h
 rename_i i0 o0 i1 o1 R'
 split at h
 case h_2 => cases h
 rename_i d' hl
 split at h
 case h_2 => cases h
 rename_i k hk
 split at h
 case h_2 => cases h
 rename_i g' hg
 split at h
 case isFalse => cases h
 rename_i he
 cases h
 refine ⟨i0, i1, k, rfl, ?_, hk, hg, by simpa using he⟩
 obtain ⟨ys, hys⟩ := List.getLast?_eq_some_iff.1 hl
 rw [hys]; simp
abbrev Clo := FuncId → List SV → Pan → St → T St
def finD (cx : Cx) (fn : Func) (clo : Clo) (fid : FuncId) (cargs : List SV) (nb : Nat) (p : Pan) (tm : List SV) (s : St) : RT2 :=
 if SV.scL s.bl.length tm && slotsOk tm.length fn then (clo fid cargs p s).lift.bind fun s' => match resS cx fn tm s' with
  | some v => (match isPan v with
   | none => .leaf (v, gcS nb v s')
   | some _ => .bad 85)
  | none => .bad 84
 else .bad 90
def execDef (X : XP) (rt : RT) (lh : Nat → How) (f : FuncId) (fn : Func) (clo : Clo) (ops0 ops1 : Array Oper) (d : Oper) (g : Operand) (R : Code) (args : List SV) (s : St) : RT2 :=
 (qKg X.cx X.cfT X.rd X.ex ops0 ops0.toList (qKt fn.ntmps args) s).bind fun r0 => match r0.1 with
  | .normal => (qKg X.cx X.cfT X.rd X.ex ops1 ops1.toList.dropLast r0.2.1 r0.2.2).bind fun r1 => match r1.1 with
   | .normal => (match wantS ops1 r1.2.1 d with
    | .yes => (match evO r1.2.1 g with
     | .func (.func fid) first cap => if hasBody X.cx fid && SV.scL r1.2.2.bl.length (first ++ cap) then
       (execT X rt lh f none R 0 (putS r1.2.1 d.dst qZq) r1.2.2).bind fun r2 => match r2.1 with
        | .exit _ => .bad 83
        | .pan t k n => finD X.cx fn clo fid (first ++ cap) s.bl.length (some (t, k, n)) r2.2.1 r2.2.2
        | _ => finD X.cx fn clo fid (first ++ cap) s.bl.length none r2.2.1 r2.2.2
      else .bad 75
     | _ => .bad 72)
    | _ => .bad 41)
   | _ => .bad 86
  | _ => .bad 86
theorem execDef_ok {X : XP} (hX : XOk2 X) {rt : RT} {lh : Nat → How} {rts : RTS} (hrts : RtsOk X.cx.P rts) {f : FuncId} {fn : Func} {c : Code} (hfn : X.cx.P.funcs[f]? = some fn) (hc : fn.body = some c) (hrt : RtOk rt c) {ops0 ops1 : Array Oper} {d : Oper} {g : Operand} {R : Code}
  (hcut : cutD c = some (ops0, ops1, d, g, R)) {args : List SV} {ρ : Env} {β : Bt} {s s' : St} {w : World} {v : SV} (hρ : EnvOk X.cx ρ) (hs : Sat ρ β s w)
  (h : (execDef X rt lh f fn (execClo X.cx X.cf X.ex rts X.m) ops0 ops1 d g R args s).sel ρ = some (v, s')) :
  Calls X.cx.P f (SV.denL ρ β args).toArray w fun e w' => ∃ β', e = endOf ρ β' v ∧ Sat ρ β' s' w' ∧ Ext s s' β β' w w' := by
 obtain ⟨i0, i1, k, rfl, hlast, hdop, hcal, hargs⟩ := cutD_ok hcut
 unfold execDef at h
 obtain ⟨⟨x0, tm0, s0⟩, h0, h⟩ := TT.sel_bind_some h
 simp only at h
 split at h
 case h_2 => cases h
 obtain ⟨⟨x1, tm1, s1⟩, h1, h⟩ := TT.sel_bind_some h
 simp only at h
 split at h
 case h_2 => cases h
 split at h
 case h_2 => cases h
 rename_i hy
 split at h
 case h_2 => cases h
 rename_i fid first cap hg
 split at h
 case isFalse => cases h
 rename_i hb
 simp only [Bool.and_eq_true] at hb
 obtain ⟨hbd, hscc⟩ := hb
 obtain ⟨⟨x2, tm2, s2⟩, h2, h⟩ := TT.sel_bind_some h
 simp only at h
 refine fen_calls (r := none) (n := 0) (callsIn_of_wp_marks hfn hc trivial ?_)
 refine wpIn_seq (wpIn_region_list (runOpsT_ok hX.hcx hX.hcfT hX.hrd hX.hex hρ ops0 ops0.toList (tm := qKt fn.ntmps args) ?_ hs h0 ?_ none))
 ·simp only [qKt, qQf]
  apply Array.ext'
  simp [qQa, den_undef]
 rintro a0 w0 ⟨β0, t0, d0, hs0, hxa⟩
 simp only at d0
 have t0 : a0.tmps = (SV.denL ρ β0 tm0).toArray := t0
 refine wpIn_seq (wpIn_region_list ?_)
 rw [hlast]
 refine runOpsT_ok' hX.hcx hX.hcfT hX.hrd hX.hex hρ ops1 [d] ops1.toList.dropLast none t0 hs0 h1 ?_
 rintro a1 w1 ⟨β1, t1, d1, hs1, hxb⟩
 have t1 : a1.tmps = (SV.denL ρ β1 tm1).toArray := t1
 rw [d0] at d1
 have hw := qXd (ops := ops1) (o := d) t1
 rw [hy] at hw
 have hev : a1.eval g = (SV.func (.func fid) first cap).den ρ β1 := by rw [qQb t1, hg]
 have hrun : (execOp a1.eval d).run X.cx.P w1 = .ok (.defer { target := .fn (.func fid) (SV.denL ρ β1 cap).toArray, args := (SV.denL ρ β1 first).toArray }) w1 := by
  simp only [execOp, hdop, resolve, hcal, hev, SV.den, Deferred.ofValue, Sem.run_bind, Sem.run_pure, Result.andThen_ok]
  have : k.args = #[] := by
   apply Array.ext'
   simpa using hargs
  rw [this]
  simp
 show wpListIn (fen none) 0 X.cx.P ops1 _ [d] a1 w1
 simp only [wpListIn, hw, if_true]
 refine ⟨fun _ _ => trivial, ?_⟩
 rw [show (fen none).round = none from rfl, Oper.semAt_none, hrun, Oper.uponIn_defer]
 show R.wpIn (fen none) 0 X.cx.P _ _ w1
 -- the rest
 have hbody := execT_ok hX R 0 (rt := rt) (lh := lh) (fn := f) (rnd := none) (fun i o hm => hrt i o (by simp [regs, hm])) (fun i r hi => by
  unfold rfOf
  rw [hfn, Nat.zero_add]
  simp only [hc, rfL]
  simpa using hi)
 refine hbody ρ (putS tm1 d.dst qZq) tm2 s1 s2 x2 β1 w1 _ _ hρ (fun j hj => by cases hj) (qZj (a := { a1 with defers := _ :: a1.defers }) t1 _ qZq) hs1 h2 ?_
 rintro a2 w2 ⟨β2, ms, t2, d2, hs2, hxc, hm2⟩
 rw [qQg] at d2
 simp only [d1] at d2
 have hxx : Ext s s2 β β2 w w2 := (hxa.trans hxb).trans hxc
 have fin : ∀ p, (finD X.cx fn (execClo X.cx X.cf X.ex rts X.m) fid (first ++ cap) s.bl.length p tm2 s2).sel ρ = some (v, s') → (∀ (i : Nat) (y : Value), (SV.denL ρ β2 tm2)[i]? = some y → a2.tmps[i]? = some y) →
   LeavesInM (fen none) 0 X.cx.P fn a2.tmps (fun e w' => ∃ β', e = endOf ρ β' v ∧ Sat ρ β' s' w' ∧ Ext s s' β β' w w') a2.defers (modeIn p) w2 := by
  intro p hp htm
  unfold finD at hp
  split at hp
  case isFalse => cases hp
  rename_i hck
  simp only [Bool.and_eq_true] at hck
  obtain ⟨hsct, hslots⟩ := hck
  obtain ⟨s3, h3, h4⟩ := TT.sel_bind_some hp
  rw [T.lift_sel] at h3
  split at h4
  case h_2 => cases h4
  rename_i u hu
  split at h4
  case h_2 => cases h4
  rename_i hnp
  cases h4
  rw [d2]
  refine leavesM (modeIn_run p) (Inv := fun w3 => Sat ρ β2 s2 w3 ∧ Ext s s2 β β2 w w3) (fun w3 hw3 => ?_) ms w2 (fun mm hmm => ?_) hm2.nod ⟨hs2, hxx⟩
  ·have hinv : (invoke (.fn (.func fid) (SV.denL ρ β1 cap).toArray) (SV.denL ρ β1 first).toArray).run X.cx.P w3 = .ok (.enter fid (SV.denL ρ β2 (first ++ cap)).toArray) w3 := by
    unfold hasBody at hbd
    split at hbd
    case h_2 => cases hbd
    rename_i fnc hfnc
    have hden : SV.denL ρ β2 (first ++ cap) = SV.denL ρ β1 (first ++ cap) := SV.denL_sc hxc.ag _ hscc
    rw [hden, qQf]
    have hn := hX.hcx.nogo fid fnc (X.cx.fnOk _ _ hfnc)
    obtain ⟨bd, hbd⟩ := Option.isSome_iff_exists.1 hbd
    simp only [invoke, callFunc, Sem.run_bind, run_program, Result.andThen_ok, X.cx.fnOk _ _ hfnc, hn, hbd]
    simp
   refine ⟨modeIn_run p, .inr ⟨(fun h => by cases h), .func fid, _, fid, _, rfl, hinv, fun _ _ => trivial, ?_⟩⟩
   refine CallsDIn.mono (execClo_ok hX.hcx hrts hX.hcf hX.hex hρ hw3.1 h3) ?_
   rintro e u' w4 ⟨rfl, ⟨V, rfl⟩, β3, hs3, hx3⟩
   show LeavesInM (fen none) 0 X.cx.P fn a2.tmps _ [] (settle (modeOut p)) w4
   rw [settle_out]
   have hden : SV.denL ρ β3 tm2 = SV.denL ρ β2 tm2 := SV.denL_sc hx3.ag _ hsct
   have hres := resS_ok hs3 (rfl : (SV.denL ρ β3 tm2).toArray = _) hu
   rw [hden, ← results_pre (l := SV.denL ρ β2 tm2) (by rw [qQe]; exact hslots) htm] at hres
   obtain ⟨g1, _, g3⟩ := gcS_get s.bl.length v s3
   exact ⟨_, hres, β3, (qXc hnp).symm, hs3.mask g1 (by rw [g3]; exact hs3.kn), ext_gc (hw3.2.trans hx3) v⟩
  ·obtain ⟨b, q1, q2, q3, q4⟩ := hm2.all mm hmm
   refine ⟨b, q1, q3, fun w3 hw3 => ⟨hw3.1.put q4 fun k ad i x ha hi => ?_, hw3.2.put (by have := (hxa.trans hxb).size; omega)⟩⟩
   have := hs1.roLt ha hi
   omega
 cases x2 with
 | exit _ => cases h
 | normal => exact fin none h (fun i y hi => by rw [(t2 : a2.tmps = _), List.getElem?_toArray]; exact hi)
 | ret => exact fin none h (fun i y hi => by rw [(t2 : a2.tmps = _), List.getElem?_toArray]; exact hi)
 | pan t k n => exact fin (some (t, k, n)) h t2
def bothT (cx : Cx) (rts : RTS) (sm : SM) (ex : XF) (lhs : LHS) (cf : CF) (m : Nat) : Nat → CFT × RDT
 | 0 => (fun f args s => match sm f args s with
  | some r => grdT r.lift
  | none => .bad 80, fun _ _ _ => .bad 95)
 | n + 1 => (fun f args s => match sm f args s with
  | some r => grdT r.lift
  | none => match cx.fn f with
   | none => .bad 81
   | some fn => match fn.body with
    | none => .bad 82
    | some c => match cutD c with
     | some (ops0, ops1, d, g, R) => execDef ⟨cx, cf, (bothT cx rts sm ex lhs cf m n).1, (bothT cx rts sm ex lhs cf m n).2, ex, m⟩ (rts f) (lhs f) f fn (execClo cx cf ex rts m) ops0 ops1 d g R args s
     | none => (execT ⟨cx, cf, (bothT cx rts sm ex lhs cf m n).1, (bothT cx rts sm ex lhs cf m n).2, ex, m⟩ (rts f) (lhs f) f none c 0 (qKt fn.ntmps args) s).bind fun r => match r.1 with
      | .exit _ => .bad 83
      | .pan t k n => .leaf (panS t k n, gcS s.bl.length (panS t k n) r.2.2)
      | _ => match resS cx fn r.2.1 r.2.2 with
       | some v => (match isPan v with
        | none => .leaf (v, gcS s.bl.length v r.2.2)
        | some _ => .bad 85)
       | none => .bad 84,
  execRound ⟨cx, cf, (bothT cx rts sm ex lhs cf m n).1, (bothT cx rts sm ex lhs cf m n).2, ex, m⟩ rts lhs)
def execFnT (cx : Cx) (rts : RTS) (sm : SM) (ex : XF) (lhs : LHS) (cf : CF) (m : Nat) (n : Nat) : CFT := (bothT cx rts sm ex lhs cf m n).1
theorem sm_end {cx : Cx} {sm : SM} (hsm : SmOk cx sm) {ρ : Env} {β : Bt} {s s' : St} {w : World} {f : FuncId} {args : List SV} {v : SV} (hρ : EnvOk cx ρ) (hs : Sat ρ β s w) {r : T (SV × St)} (hr : sm f args s = some r) (h : (grdT r.lift).sel ρ = some (v, s')) :
  Calls cx.P f (SV.denL ρ β args).toArray w fun e w' => ∃ β', e = endOf ρ β' v ∧ Sat ρ β' s' w' ∧ Ext s s' β β' w w' := by
 obtain ⟨h1, hn⟩ := grdT_sel h
 rw [T.lift_sel] at h1
 refine (hsm ρ β s s' w f args r v hρ hs hr h1).mono ?_
 rintro e w' ⟨β', rfl, h2, h3⟩
 exact ⟨β', (qXc hn).symm, h2, h3⟩
theorem bothT_ok {cx : Cx} {rts : RTS} {sm : SM} {ex : XF} {lhs : LHS} {cf : CF} {m : Nat} (hcx : CxOk cx) (hrts : RtsOk cx.P rts) (hsm : SmOk cx sm) (hex : XOk cx ex) (hcf : qKe cx cf) : ∀ n,
  qJk cx (bothT cx rts sm ex lhs cf m n).1 ∧ qKq cx (bothT cx rts sm ex lhs cf m n).2
 | 0 => by
  refine ⟨?_, fun ρ β s s' w j args v hρ hs h => by cases h⟩
  intro ρ β s s' w f args v hρ hs h
  simp only [bothT] at h
  split at h
  ·rename_i r hr
   exact sm_end hsm hρ hs hr h
  ·cases h
 | n + 1 => by
  obtain ⟨ih1, ih2⟩ := bothT_ok hcx hrts hsm hex hcf n (lhs := lhs) (m := m)
  have hX : XOk2 ⟨cx, cf, (bothT cx rts sm ex lhs cf m n).1, (bothT cx rts sm ex lhs cf m n).2, ex, m⟩ := ⟨hcx, hcf, ih1, ih2, hex⟩
  refine ⟨?_, execRound_ok hX hrts⟩
  intro ρ β s s' w f args v hρ hs h
  simp only [bothT] at h
  split at h
  ·rename_i r hr
   exact sm_end hsm hρ hs hr h
  ·split at h
   ·cases h
   ·rename_i fn hfn
    split at h
    ·cases h
    ·rename_i c hc
     split at h
     ·rename_i ops0 ops1 d g R hcut
      exact execDef_ok hX hrts (cx.fnOk _ _ hfn) hc (hrts f fn c (cx.fnOk _ _ hfn) hc) hcut hρ hs h
     obtain ⟨⟨x, tm1, s1⟩, h1, h2⟩ := TT.sel_bind_some h
     refine fen_calls (r := none) (n := 0) (callsIn_of_wp_marks (cx.fnOk _ _ hfn) hc trivial ?_)
     refine execT_ok hX c 0 (hrts f fn c (cx.fnOk _ _ hfn) hc) (fun i r hi => ?_) ρ (qKt fn.ntmps args) tm1 s s1 x β w _ _ hρ (fun j hj => by cases hj) ?_ hs h1 ?_
     ·unfold rfOf
      rw [cx.fnOk _ _ hfn, Nat.zero_add]
      simp only [hc]
      exact hi
     ·simp only [qKt, qQf]
      apply Array.ext'
      simp [qQa, den_undef]
     ·rintro a' w' ⟨β', ms, ht, hd, hs', hx, hm⟩
      simp only [List.append_nil] at hd
      have lv : ∀ {u : FrameMode}, u ≠ .run → ∀ {Rr : Ending → World → Prop}, (∀ w2, Sat ρ β' s1 w2 → Ext s s1 β β' w w2 → LeavesInM (fen none) 0 cx.P fn a'.tmps Rr [] u w2) → LeavesInM (fen none) 0 cx.P fn a'.tmps Rr a'.defers u w' := by
       intro u hu Rr hend
       rw [hd, ← List.append_nil ms]
       refine leavesM hu (Inv := fun w2 => Sat ρ β' s1 w2 ∧ Ext s s1 β β' w w2) (fun w2 hw2 => hend w2 hw2.1 hw2.2) ms w' (fun mm hmm => ?_) hm.nod ⟨hs', hx⟩
       obtain ⟨b, q1, q2, q3, q4⟩ := hm.all mm hmm
       refine ⟨b, q1, q3, fun w2 hw2 => ⟨hw2.1.put q4 fun k ad i x ha hi => ?_, hw2.2.put q2⟩⟩
       have := hs.roLt ha hi
       omega
      have key : a'.tmps = (SV.denL ρ β' tm1).toArray → ∀ (v : SV) (s' : St), (match resS cx fn tm1 s1 with
        | some v => (match isPan v with
         | none => TT.leaf (v, gcS s.bl.length v s1)
         | some _ => .bad 85)
        | none => .bad 84).sel ρ = some (v, s') → LeavesInM (fen none) 0 cx.P fn a'.tmps (fun e w' => ∃ β', e = endOf ρ β' v ∧ Sat ρ β' s' w' ∧ Ext s s' β β' w w') a'.defers .returning w' := by
       intro ht v s' h
       split at h
       ·rename_i u hu
        split at h
        ·rename_i hnp
         cases h
         obtain ⟨g1, _, g3⟩ := gcS_get s.bl.length v s1
         refine lv (by simp) fun w2 hw2 hx2 => ?_
         exact ⟨_, resS_ok hw2 ht hu, β', (qXc hnp).symm, hw2.mask g1 (by rw [g3]; exact hw2.kn), ext_gc hx2 v⟩
        ·cases h
       ·cases h
      cases x with
      | exit id => cases h2
      | normal => exact key ht v s' h2
      | ret => exact key ht v s' h2
      | pan t k n =>
       cases h2
       obtain ⟨g1, _, g3⟩ := gcS_get s.bl.length (panS t k n) s1
       refine lv (by simp) fun w2 hw2 hx2 => ?_
       exact ⟨β', (endOf_some (isPan_panS t k n)).symm, hw2.mask g1 (by rw [g3]; exact hw2.kn), ext_gc hx2 (panS t k n)⟩
theorem execFnT_ok {cx : Cx} {rts : RTS} {sm : SM} {ex : XF} {lhs : LHS} {cf : CF} {m : Nat} (hcx : CxOk cx) (hrts : RtsOk cx.P rts) (hsm : SmOk cx sm) (hex : XOk cx ex) (hcf : qKe cx cf) (n : Nat) : qJk cx (execFnT cx rts sm ex lhs cf m n) :=
 (bothT_ok hcx hrts hsm hex hcf n).1
end Go.Eng
end

/-!  -/
noncomputable section
set_option linter.unusedSectionVars false
namespace Go.Eng
theorem qXf {cx : Cx} {n m : Nat} (h : n ≤ m) (hn : cx.okB n = true) : cx.okB m = true := by
 unfold Cx.okB at *
 simp only [Bool.and_eq_true] at hn ⊢
 have := Nat.le_of_ble_eq_true hn.1
 refine ⟨Nat.ble_eq_true_of_le (by omega), List.all_eq_true.2 fun d hd => ?_⟩
 have := List.all_eq_true.1 hn.2 d hd
 simp only [Bool.and_eq_true] at this ⊢
 exact ⟨⟨E.vb_mono h _ this.1.1, E.vb_mono h _ this.1.2⟩, E.vb_mono h _ this.2⟩
def Env.set (ρ : Env) (i : Nat) (y : Int) : Env := { ρ with i := fun j => if j = i then y else ρ.i j }
def Env.setL (ρ : Env) (b : Nat) : List Int → Env
 | [] => ρ
 | x :: l => (ρ.set b x).setL (b + 1) l
theorem setL_get : ∀ (l : List Int) (ρ : Env) (b j : Nat), (ρ.setL b l).i j = if b ≤ j ∧ j < b + l.length then l.getD (j - b) 0 else ρ.i j
 | [], ρ, b, j => by simp [Env.setL]; omega
 | x :: l, ρ, b, j => by
  simp only [Env.setL, setL_get l, List.length_cons]
  by_cases h1 : b + 1 ≤ j ∧ j < b + 1 + l.length
  ·rw [if_pos h1, if_pos (by omega), show j - b = (j - (b + 1)) + 1 by omega, List.getD_cons_succ]
  ·rw [if_neg h1]
   by_cases h2 : j = b
   ·subst h2; simp [Env.set]
   ·rw [if_neg (by omega)]; simp [Env.set, h2]
theorem setL_f : ∀ (l : List Int) (ρ : Env) (b : Nat), (ρ.setL b l).f = ρ.f ∧ (ρ.setL b l).v = ρ.v ∧ (ρ.setL b l).ro = ρ.ro ∧ (ρ.setL b l).pr = ρ.pr
 | [], _, _ => ⟨rfl, rfl, rfl, rfl⟩
 | x :: l, ρ, b => setL_f l (ρ.set b x) (b + 1)
theorem qJn (ρ : Env) (b : Nat) (l : List Int) : Agn b ρ (ρ.setL b l) :=
 ⟨fun j hj => by rw [setL_get, if_neg (by omega)], (setL_f l ρ b).1, (setL_f l ρ b).2.1, (setL_f l ρ b).2.2.1, (setL_f l ρ b).2.2.2⟩
theorem set_agn (ρ : Env) (b : Nat) (x : Int) : Agn b ρ (ρ.set b x) := ⟨fun j hj => by simp [Env.set]; omega, rfl, rfl, rfl, rfl⟩
def TB.hd (J : List Int → Prop) (R : Nat → Env → Prop) : TB → Env → Prop
 | .back l, ρ => J (l.map (E.ev ρ))
 | .exit n, ρ => R n ρ
 | .br e t f, ρ => (e.ev ρ ≠ 0 → t.hd J R ρ) ∧ (e.ev ρ = 0 → f.hd J R ρ)
 | .bad _, _ => False
 | .new i e t, ρ => t.hd J R (ρ.set i (e.ev ρ))
 | .loop L b r, ρ => ∃ I : List Int → Nat → Prop, (∃ m, I (L.init.map (E.ev ρ)) m) ∧
   ∀ σ m, σ.length = L.bds.length → inBd L.bds σ → I σ m → b.hd (fun σ' => ∃ m', m' < m ∧ I σ' m') (fun n ρ' => r.hd J R (ρ'.set L.xid n)) (ρ.setL L.base σ)
def TT.hd {α : Type} (Q : α → Env → Prop) : TT α → Env → Prop
 | .leaf a, ρ => Q a ρ
 | .br e t f, ρ => (e.ev ρ ≠ 0 → t.hd Q ρ) ∧ (e.ev ρ = 0 → f.hd Q ρ)
 | .bad _, _ => False
 | .new i e t, ρ => t.hd Q (ρ.set i (e.ev ρ))
 | .loop L b r, ρ => ∃ I : List Int → Nat → Prop, (∃ m, I (L.init.map (E.ev ρ)) m) ∧
   ∀ σ m, σ.length = L.bds.length → inBd L.bds σ → I σ m → b.hd (fun σ' => ∃ m', m' < m ∧ I σ' m') (fun n ρ' => r.hd Q (ρ'.set L.xid n)) (ρ.setL L.base σ)
def inPath (path : List E) (e : E) : Bool := match e with
 | .c n => n != 0
 | e => path.any (·.beq e)
theorem inPath_ok {ρ : Env} {path : List E} (hp : ∀ e ∈ path, e.ev ρ ≠ 0) {e : E} (h : inPath path e = true) : e.ev ρ ≠ 0 := by
 unfold inPath at h
 split at h
 ·simpa [E.ev] using h
 ·obtain ⟨x, hx, hb⟩ := List.any_eq_true.1 h
  have := E.eq_of_beq hb
  subst this
  exact hp _ hx
def bdsOk (cx : Cx) (path : List E) : List (Option (Int × Int)) → List E → Bool
 | [], [] => true
 | none :: l, _ :: m => bdsOk cx path l m
 | some p :: l, e :: m => (ivIn (e.iv cx) p.1 p.2 || (inPath path (leE cx (.c p.1) e) && inPath path (leE cx e (.c p.2)))
   || (match e with
    | .c n => decide (p.1 ≤ n) && decide (n ≤ p.2)
    | _ => false)) && bdsOk cx path l m
 | _, _ => false
theorem bdsOk_ok {cx : Cx} {ρ : Env} (hρ : EnvOk cx ρ) {path : List E} (hp : ∀ e ∈ path, e.ev ρ ≠ 0) : ∀ {l : List (Option (Int × Int))} {m : List E}, bdsOk cx path l m = true → inBd l (m.map (E.ev ρ))
 | [], [], _ => trivial
 | none :: l, e :: m, h => ⟨trivial, bdsOk_ok hρ hp h⟩
 | some p :: l, e :: m, h => by
  simp only [bdsOk, Bool.and_eq_true, Bool.or_eq_true] at h
  refine ⟨?_, bdsOk_ok hρ hp h.2⟩
  rcases h.1 with (h1 | ⟨h1, h2⟩) | h1
  ·exact ivIn_ok h1 (E.iv_ok hρ e)
  ·exact ⟨qQw hρ (inPath_ok hp h1), qQw hρ (inPath_ok hp h2)⟩
  ·split at h1
   ·simp only [Bool.and_eq_true, decide_eq_true_eq] at h1
    exact h1
   ·cases h1
 | [], _ :: _, h => by cases h
 | none :: _, [], h => by cases h
 | some _ :: _, [], h => by cases h
def TB.fine (cx : Cx) (bds : List (Option (Int × Int))) (x : Nat) : Nat → List E → TB → Bool
 | n, path, .back l => l.all (·.vb n) && bdsOk cx path bds l
 | _, _, .exit _ => true
 | n, path, .br e t f => e.vb n && TB.fine cx bds x n (e :: path) t && TB.fine cx bds x n path f
 | _, _, .bad _ => true
 | n, path, .new i e t => Nat.ble n i && Nat.blt i x && e.vb i && TB.fine cx bds x (i + 1) path t
 | n, path, .loop L b r => Nat.ble n L.base && cx.okB L.base && L.init.all (·.vb n) && bdsOk cx path L.bds L.init && Nat.ble (L.base + L.bds.length) L.xid && Nat.blt L.xid x &&
   TB.fine cx L.bds L.xid (L.base + L.bds.length) path b && TB.fine cx bds x (L.xid + 1) path r
def TT.fine {α : Type} (cx : Cx) : Nat → List E → TT α → Bool
 | _, _, .leaf _ => true
 | n, path, .br e t f => e.vb n && TT.fine cx n (e :: path) t && TT.fine cx n path f
 | _, _, .bad _ => true
 | n, path, .new i e t => Nat.ble n i && e.vb i && cx.okB i && TT.fine cx (i + 1) path t
 | n, path, .loop L b r => Nat.ble n L.base && cx.okB L.base && L.init.all (·.vb n) && bdsOk cx path L.bds L.init && Nat.ble (L.base + L.bds.length) L.xid &&
   TB.fine cx L.bds L.xid (L.base + L.bds.length) path b && TT.fine cx (L.xid + 1) path r
theorem map_agn {n : Nat} {ρ ρ' : Env} (ha : Agn n ρ ρ') {l : List E} (h : l.all (·.vb n) = true) : l.map (E.ev ρ') = l.map (E.ev ρ) :=
 List.map_congr_left fun e he => E.vb_ev ha e (List.all_eq_true.1 h e he)
theorem vb_all_mono {n m : Nat} (hm : n ≤ m) {l : List E} (h : l.all (·.vb n) = true) : l.all (·.vb m) = true :=
 List.all_eq_true.2 fun e he => E.vb_mono hm e (List.all_eq_true.1 h e he)
theorem vals_agn {L : Lp} {x : Nat} {ρ ρ' : Env} (ha : Agn x ρ ρ') (h : L.base + L.bds.length ≤ x) : L.vals ρ' = L.vals ρ := by
 unfold Lp.vals
 refine List.map_congr_left fun k hk => ha.i _ ?_
 have := List.mem_range.1 hk
 omega
theorem TB.sel_agn {cx : Cx} {bds : List (Option (Int × Int))} {x : Nat} : ∀ {t : TB} {n : Nat} {path : List E} {ρ ρ' : Env} {r : List Int ⊕ Nat}, t.fine cx bds x n path = true → n ≤ x → Agn x ρ ρ' → t.sel ρ = some r → t.sel ρ' = some r
 | .back l, n, path, ρ, ρ', r, hf, hn, ha, h => by
  simp only [TB.fine, Bool.and_eq_true] at hf
  simp only [TB.sel] at h ⊢
  rw [map_agn ha (vb_all_mono hn hf.1)]; exact h
 | .exit k, n, path, ρ, ρ', r, hf, hn, ha, h => h
 | .br e t f, n, path, ρ, ρ', r, hf, hn, ha, h => by
  simp only [TB.fine, Bool.and_eq_true] at hf
  simp only [TB.sel] at h ⊢
  rw [E.vb_ev ha e (E.vb_mono hn e hf.1.1)]
  split at h
  ·rename_i hc; rw [if_pos hc]; exact TB.sel_agn hf.1.2 hn ha h
  ·rename_i hc; rw [if_neg hc]; exact TB.sel_agn hf.2 hn ha h
 | .bad _, n, path, ρ, ρ', r, hf, hn, ha, h => h
 | .new i e t, n, path, ρ, ρ', r, hf, hn, ha, h => by
  simp only [TB.fine, Bool.and_eq_true, Nat.blt_eq] at hf
  have hi := hf.1.1.2
  simp only [TB.sel] at h ⊢
  rw [E.vb_ev ha e (E.vb_mono (by omega) e hf.1.2), ha.i i hi]
  split at h
  ·rename_i hc; rw [if_pos hc]; exact TB.sel_agn hf.2 (by omega) ha h
  ·cases h
 | .loop L b t, n, path, ρ, ρ', r, hf, hn, ha, h => by
  simp only [TB.fine, Bool.and_eq_true, Nat.blt_eq] at hf
  obtain ⟨⟨⟨⟨⟨⟨⟨h1, h2⟩, h3⟩, h4⟩, h5⟩, h6⟩, h7⟩, h8⟩ := hf
  have h1 := Nat.le_of_ble_eq_true h1
  have h5 := Nat.le_of_ble_eq_true h5
  simp only [TB.sel] at h ⊢
  split at h
  ·rename_i hc
   rw [map_agn ha (vb_all_mono hn h3)]
   have key : ∀ σ, Chain (fun ρ' => b.sel ρ') L ρ σ → Chain (fun ρ' => b.sel ρ') L ρ' σ := by
    intro σ hch
    induction hch with
    | @last k hs hx =>
     have hv : L.vals ρ' = L.vals ρ := vals_agn ha (by omega)
     rw [← hv]
     exact .last (TB.sel_agn h7 h5 (ha.mono (by omega)) hs) (by rw [ha.i _ h6]; exact hx)
    | @step σ' ρ1 hag hs _ ih => exact .step ρ1 (((ha.mono (by omega : L.base ≤ x)).symm).trans hag) hs ih
   rw [if_pos (key _ hc)]
   exact TB.sel_agn h8 (by omega) ha h
  ·cases h
theorem vals_setL (ρ : Env) (L : Lp) {σ : List Int} (h : σ.length = L.bds.length) : L.vals (ρ.setL L.base σ) = σ := by
 apply List.ext_getElem?
 intro k
 unfold Lp.vals
 rw [List.getElem?_map]
 by_cases hk : k < L.bds.length
 ·rw [List.getElem?_range hk, Option.map_some, setL_get, if_pos (by omega), Nat.add_sub_cancel_left, List.getD_eq_getElem?_getD, List.getElem?_eq_getElem (by omega)]
  rfl
 ·rw [List.getElem?_eq_none (by simpa using hk), List.getElem?_eq_none (by omega)]; rfl
theorem path_agn {n : Nat} {ρ ρ' : Env} (ha : Agn n ρ ρ') {path : List E} (hv : ∀ e ∈ path, e.vb n = true) (hp : ∀ e ∈ path, e.ev ρ ≠ 0) : ∀ e ∈ path, e.ev ρ' ≠ 0 :=
 fun e he => by rw [E.vb_ev ha e (hv e he)]; exact hp e he
theorem TB.hd_sel {cx : Cx} : ∀ {t : TB} {bds : List (Option (Int × Int))} {x n : Nat} {path : List E} {J : List Int → Prop} {R : Nat → Env → Prop} {ρ : Env}, EnvOk cx ρ → cx.okB n = true → t.fine cx bds x n path = true → (∀ e ∈ path, e.vb n = true) → (∀ e ∈ path, e.ev ρ ≠ 0) → t.hd J R ρ →
  ∃ ρ', Agn n ρ ρ' ∧ ((∃ σ, t.sel ρ' = some (.inl σ) ∧ J σ ∧ inBd bds σ) ∨ (∃ k, t.sel ρ' = some (.inr k) ∧ R k ρ'))
 | .back l, bds, x, n, path, J, R, ρ, hρ, hok, hf, hpv, hp, h => by
  simp only [TB.fine, Bool.and_eq_true] at hf
  exact ⟨ρ, Agn.refl _ _, .inl ⟨_, rfl, h, bdsOk_ok hρ hp hf.2⟩⟩
 | .exit k, bds, x, n, path, J, R, ρ, hρ, hok, hf, hpv, hp, h => ⟨ρ, Agn.refl _ _, .inr ⟨k, rfl, h⟩⟩
 | .br e t f, bds, x, n, path, J, R, ρ, hρ, hok, hf, hpv, hp, h => by
  simp only [TB.fine, Bool.and_eq_true] at hf
  by_cases hc : e.ev ρ = 0
  ·obtain ⟨ρ', ha, hr⟩ := TB.hd_sel hρ hok hf.2 hpv hp (h.2 hc)
   refine ⟨ρ', ha, ?_⟩
   have he := E.vb_ev ha e hf.1.1
   simp only [TB.sel, he, hc, ne_eq, not_true_eq_false, if_false]
   exact hr
  ·obtain ⟨ρ', ha, hr⟩ := TB.hd_sel (path := e :: path) hρ hok hf.1.2 (fun c hm => by
    rcases List.mem_cons.1 hm with rfl | hm
    ·exact hf.1.1
    ·exact hpv c hm) (fun c hm => by
    rcases List.mem_cons.1 hm with rfl | hm
    ·exact hc
    ·exact hp c hm) (h.1 hc)
   refine ⟨ρ', ha, ?_⟩
   have he := E.vb_ev ha e hf.1.1
   simp only [TB.sel, he, ne_eq, hc, not_false_eq_true, if_true]
   exact hr
 | .bad _, bds, x, n, path, J, R, ρ, hρ, hok, hf, hpv, hp, h => by cases h
 | .new i e t, bds, x, n, path, J, R, ρ, hρ, hok, hf, hpv, hp, h => by
  simp only [TB.fine, Bool.and_eq_true] at hf
  have hni := Nat.le_of_ble_eq_true hf.1.1.1
  have hoki : cx.okB i = true := qXf hni hok
  have ha0 := set_agn ρ i (e.ev ρ)
  obtain ⟨ρ', ha, hr⟩ := TB.hd_sel (EnvOk.agn hoki hρ ha0) (qXf (by omega) hok) hf.2 (fun c hm => E.vb_mono (by omega) c (hpv c hm)) (path_agn (ha0.mono hni) hpv hp) h
  refine ⟨ρ', (ha0.mono hni).trans (ha.mono (by omega)), ?_⟩
  have hi : ρ'.i i = e.ev ρ := by rw [ha.i i (by omega)]; simp [Env.set]
  have he : e.ev ρ' = e.ev ρ := E.vb_ev (ha0.trans (ha.mono (by omega))) e hf.1.2
  simp only [TB.sel, hi, he, if_true]
  exact hr
 | .loop L b t, bds, x, n, path, J, R, ρ, hρ, hok, hf, hpv, hp, h => by
  simp only [TB.fine, Bool.and_eq_true, Nat.blt_eq] at hf
  obtain ⟨⟨⟨⟨⟨⟨⟨h1, h2⟩, h3⟩, h4⟩, h5⟩, h6⟩, h7⟩, h8⟩ := hf
  have h1 := Nat.le_of_ble_eq_true h1
  have h5 := Nat.le_of_ble_eq_true h5
  obtain ⟨I, ⟨m0, hI0⟩, hstep⟩ := h
  have hin0 := bdsOk_ok hρ hp h4
  have hl0 : (L.init.map (E.ev ρ)).length = L.bds.length := (qXu hin0).1.symm
  have key : ∀ (m : Nat) (σ : List Int), σ.length = L.bds.length → inBd L.bds σ → I σ m →
    ∃ ρ', Agn L.base ρ ρ' ∧ Chain (fun ρ' => b.sel ρ') L ρ' σ ∧ ((∃ τ, t.sel ρ' = some (.inl τ) ∧ J τ ∧ inBd bds τ) ∨ (∃ k, t.sel ρ' = some (.inr k) ∧ R k ρ')) := by
   intro m
   induction m using Nat.strongRecOn with
   | _ m ih =>
    intro σ hσ hin hI
    have ha0 := qJn ρ L.base σ
    have hρ1 := EnvOk.agn h2 hρ ha0
    obtain ⟨ρ1, ha1, hr⟩ := TB.hd_sel (path := path) hρ1 (qXf (by omega) h2) h7 (fun c hm => E.vb_mono (by omega) c (hpv c hm)) (path_agn (ha0.mono h1) hpv hp) (hstep σ m hσ hin hI)
    have hv1 : L.vals ρ1 = σ := by rw [vals_agn ha1 (Nat.le_refl _), vals_setL ρ L hσ]
    have hab : Agn L.base ρ ρ1 := ha0.trans (ha1.mono (by omega))
    rcases hr with ⟨σ', hs, ⟨m', hm', hI'⟩, hin'⟩ | ⟨k, hs, hR⟩
    ·obtain ⟨ρ2, g1, g2, g3⟩ := ih m' hm' σ' ((qXu hin').1.symm) hin' hI'
     refine ⟨ρ2, g1, ?_, g3⟩
     rw [← hv1]
     exact .step ρ1 (g1.symm.trans hab) hs g2
    ·have ha2 := set_agn ρ1 L.xid k
     have hρ2 : EnvOk cx (ρ1.set L.xid k) := EnvOk.agn (qXf (by omega : L.base ≤ L.base) h2) hρ (hab.trans (ha2.mono (by omega)))
     obtain ⟨ρ2, g1, g2⟩ := TB.hd_sel (path := path) hρ2 (qXf (by omega) h2) h8 (fun c hm => E.vb_mono (by omega) c (hpv c hm)) (path_agn ((hab.trans (ha2.mono (by omega))).mono h1) hpv hp) hR
     have hall : Agn L.xid ρ1 ρ2 := ha2.trans (g1.mono (by omega))
     refine ⟨ρ2, hab.trans (hall.mono (by omega)), ?_, g2⟩
     have hv2 : L.vals ρ2 = σ := by rw [vals_agn hall h5, hv1]
     rw [← hv2]
     refine .last (TB.sel_agn h7 h5 hall hs) ?_
     rw [g1.i _ (by omega)]; simp [Env.set]
  obtain ⟨ρ', g1, g2, g3⟩ := key m0 _ hl0 hin0 hI0
  refine ⟨ρ', g1.mono h1, ?_⟩
  have : L.init.map (E.ev ρ') = L.init.map (E.ev ρ) := map_agn (g1.mono h1) h3
  have hc : Chain (fun ρ' => b.sel ρ') L ρ' (L.init.map (E.ev ρ')) := by rw [this]; exact g2
  simp only [TB.sel, if_pos hc]
  exact g3
theorem TT.hd_sel {cx : Cx} {α : Type} {Q : α → Env → Prop} : ∀ {t : TT α} {n : Nat} {path : List E} {ρ : Env}, EnvOk cx ρ → cx.okB n = true → t.fine cx n path = true → (∀ e ∈ path, e.vb n = true) → (∀ e ∈ path, e.ev ρ ≠ 0) → t.hd Q ρ →
  ∃ ρ', Agn n ρ ρ' ∧ ∃ a, t.sel ρ' = some a ∧ Q a ρ'
 | .leaf a, n, path, ρ, hρ, hok, hf, hpv, hp, h => ⟨ρ, Agn.refl _ _, a, rfl, h⟩
 | .br e t f, n, path, ρ, hρ, hok, hf, hpv, hp, h => by
  simp only [TT.fine, Bool.and_eq_true] at hf
  by_cases hc : e.ev ρ = 0
  ·obtain ⟨ρ', ha, a, hr, hQ⟩ := TT.hd_sel hρ hok hf.2 hpv hp (h.2 hc)
   refine ⟨ρ', ha, a, ?_, hQ⟩
   have he := E.vb_ev ha e hf.1.1
   simp only [TT.sel, he, hc, ne_eq, not_true_eq_false, if_false]
   exact hr
  ·obtain ⟨ρ', ha, a, hr, hQ⟩ := TT.hd_sel (path := e :: path) hρ hok hf.1.2 (fun c hm => by
    rcases List.mem_cons.1 hm with rfl | hm
    ·exact hf.1.1
    ·exact hpv c hm) (fun c hm => by
    rcases List.mem_cons.1 hm with rfl | hm
    ·exact hc
    ·exact hp c hm) (h.1 hc)
   refine ⟨ρ', ha, a, ?_, hQ⟩
   have he := E.vb_ev ha e hf.1.1
   simp only [TT.sel, he, ne_eq, hc, not_false_eq_true, if_true]
   exact hr
 | .bad _, n, path, ρ, hρ, hok, hf, hpv, hp, h => by cases h
 | .new i e t, n, path, ρ, hρ, hok, hf, hpv, hp, h => by
  simp only [TT.fine, Bool.and_eq_true] at hf
  have hni := Nat.le_of_ble_eq_true hf.1.1.1
  have ha0 := set_agn ρ i (e.ev ρ)
  obtain ⟨ρ', ha, a, hr, hQ⟩ := TT.hd_sel (EnvOk.agn hf.1.2 hρ ha0) (qXf (by omega) hok) hf.2 (fun c hm => E.vb_mono (by omega) c (hpv c hm)) (path_agn (ha0.mono hni) hpv hp) h
  refine ⟨ρ', (ha0.mono hni).trans (ha.mono (by omega)), a, ?_, hQ⟩
  have hi : ρ'.i i = e.ev ρ := by rw [ha.i i (by omega)]; simp [Env.set]
  have he : e.ev ρ' = e.ev ρ := E.vb_ev (ha0.trans (ha.mono (by omega))) e hf.1.1.2
  simp only [TT.sel, hi, he, if_true]
  exact hr
 | .loop L b t, n, path, ρ, hρ, hok, hf, hpv, hp, h => by
  simp only [TT.fine, Bool.and_eq_true] at hf
  obtain ⟨⟨⟨⟨⟨⟨h1, h2⟩, h3⟩, h4⟩, h5⟩, h7⟩, h8⟩ := hf
  have h1 := Nat.le_of_ble_eq_true h1
  have h5 := Nat.le_of_ble_eq_true h5
  obtain ⟨I, ⟨m0, hI0⟩, hstep⟩ := h
  have hin0 := bdsOk_ok hρ hp h4
  have hl0 : (L.init.map (E.ev ρ)).length = L.bds.length := (qXu hin0).1.symm
  have key : ∀ (m : Nat) (σ : List Int), σ.length = L.bds.length → inBd L.bds σ → I σ m →
    ∃ ρ', Agn L.base ρ ρ' ∧ Chain (fun ρ' => b.sel ρ') L ρ' σ ∧ ∃ a, t.sel ρ' = some a ∧ Q a ρ' := by
   intro m
   induction m using Nat.strongRecOn with
   | _ m ih =>
    intro σ hσ hin hI
    have ha0 := qJn ρ L.base σ
    have hρ1 := EnvOk.agn h2 hρ ha0
    obtain ⟨ρ1, ha1, hr⟩ := TB.hd_sel (path := path) hρ1 (qXf (by omega) h2) h7 (fun c hm => E.vb_mono (by omega) c (hpv c hm)) (path_agn (ha0.mono h1) hpv hp) (hstep σ m hσ hin hI)
    have hv1 : L.vals ρ1 = σ := by rw [vals_agn ha1 (Nat.le_refl _), vals_setL ρ L hσ]
    have hab : Agn L.base ρ ρ1 := ha0.trans (ha1.mono (by omega))
    rcases hr with ⟨σ', hs, ⟨m', hm', hI'⟩, hin'⟩ | ⟨k, hs, hR⟩
    ·obtain ⟨ρ2, g1, g2, g3⟩ := ih m' hm' σ' ((qXu hin').1.symm) hin' hI'
     refine ⟨ρ2, g1, ?_, g3⟩
     rw [← hv1]
     exact .step ρ1 (g1.symm.trans hab) hs g2
    ·have ha2 := set_agn ρ1 L.xid k
     have hρ2 : EnvOk cx (ρ1.set L.xid k) := EnvOk.agn h2 hρ (hab.trans (ha2.mono (by omega)))
     obtain ⟨ρ2, g1, g2⟩ := TT.hd_sel (path := path) hρ2 (qXf (by omega) h2) h8 (fun c hm => E.vb_mono (by omega) c (hpv c hm)) (path_agn ((hab.trans (ha2.mono (by omega))).mono h1) hpv hp) hR
     have hall : Agn L.xid ρ1 ρ2 := ha2.trans (g1.mono (by omega))
     refine ⟨ρ2, hab.trans (hall.mono (by omega)), ?_, g2⟩
     have hv2 : L.vals ρ2 = σ := by rw [vals_agn hall h5, hv1]
     rw [← hv2]
     refine .last (TB.sel_agn h7 h5 hall hs) ?_
     rw [g1.i _ (by omega)]; simp [Env.set]
  obtain ⟨ρ', g1, g2, g3⟩ := key m0 _ hl0 hin0 hI0
  refine ⟨ρ', g1.mono h1, ?_⟩
  have : L.init.map (E.ev ρ') = L.init.map (E.ev ρ) := map_agn (g1.mono h1) h3
  have hc : Chain (fun ρ' => b.sel ρ') L ρ' (L.init.map (E.ev ρ')) := by rw [this]; exact g2
  simp only [TT.sel, if_pos hc]
  exact g3
end Go.Eng
end

/-!  -/
noncomputable section
set_option linter.unusedSectionVars false
namespace Go.Eng
open Go.RowKit Go.WideShapes Go.ChangeShapes
def CurR : Nat → Type
 | 0 => Nat → Prop
 | k + 1 => Int → CurR k
def CurR.app : (k : Nat) → CurR k → List Int → Nat → Prop
 | 0, I, [], m => I m
 | k + 1, I, x :: l, m => CurR.app k (I x) l m
 | 0, _, _ :: _, _ => False
 | _ + 1, _, [], _ => False
def allC : Nat → (List Int → Prop) → Prop
 | 0, F => F []
 | k + 1, F => ∀ x : Int, allC k fun l => F (x :: l)
theorem allC_ok : ∀ {k : Nat} {F : List Int → Prop}, allC k F → ∀ σ : List Int, σ.length = k → F σ
 | 0, F, h, [], _ => h
 | k + 1, F, h, x :: l, hl => allC_ok (h x) l (by simpa using hl)
 | 0, _, _, _ :: _, hl => by simp at hl
 | k + 1, _, _, [], hl => by simp at hl
def E.evP (ρ : Env) : E → Int
 | .c n => n
 | .v i => ρ.i i
 | .b o k x y => o.ev k (x.evP ρ) (y.evP ρ)
 | .w k x => k.wrap (x.evP ρ)
 | .nt x => qQj (x.evP ρ == 0)
 | .ite t x y => if t.evP ρ ≠ 0 then x.evP ρ else y.evP ρ
 | .f n x y z => ρ.f n (x.evP ρ) (y.evP ρ) (z.evP ρ)
 | .cl i _ _ => ρ.i i
abbrev NB := List (Nat × Int × Int)
def lookB : NB → Nat → Int → Int → Bool
 | [], _, _, _ => false
 | (i, l, h) :: m, j, l', h' => match Nat.beq i j with
  | true => decide (l' ≤ l) && decide (h ≤ h')
  | false => lookB m j l' h'
def E.tidy (nb : NB) : E → Bool
 | .c _ => true
 | .v _ => true
 | .b _ _ x y => x.tidy nb && y.tidy nb
 | .w _ x => x.tidy nb
 | .nt x => x.tidy nb
 | .ite t x y => t.tidy nb && x.tidy nb && y.tidy nb
 | .f _ x y z => x.tidy nb && y.tidy nb && z.tidy nb
 | .cl i l h => lookB nb i l h
def nbOk (ρ : Env) (nb : NB) : Prop := ∀ p ∈ nb, p.2.1 ≤ ρ.i p.1 ∧ ρ.i p.1 ≤ p.2.2
theorem lookB_ok {ρ : Env} {i : Nat} {l h : Int} : ∀ {nb : NB}, nbOk ρ nb → lookB nb i l h = true → l ≤ ρ.i i ∧ ρ.i i ≤ h
 | [], _, hl => by cases hl
 | (j, a, b) :: m, hn, hl => by
  simp only [lookB] at hl
  split at hl
  ·rename_i hj
   have := Nat.eq_of_beq_eq_true hj
   subst this
   have := hn (j, a, b) List.mem_cons_self
   simp at hl this
   omega
  ·exact lookB_ok (fun p hp => hn p (List.mem_cons_of_mem _ hp)) hl
theorem E.evP_ev {ρ : Env} {nb : NB} (hn : nbOk ρ nb) : ∀ (e : E), e.tidy nb = true → e.evP ρ = e.ev ρ := by
 intro e
 induction e with
 | c m => intro _; rfl
 | v i => intro _; rfl
 | b o k x y hx hy => intro h; simp only [E.tidy, Bool.and_eq_true] at h; simp only [E.ev, E.evP, hx h.1, hy h.2]
 | w k x hx => intro h; simp only [E.ev, E.evP, hx h]
 | nt x hx => intro h; simp only [E.ev, E.evP, hx h]
 | ite t x y ht hx hy => intro h; simp only [E.tidy, Bool.and_eq_true] at h; simp only [E.ev, E.evP, ht h.1.1, hx h.1.2, hy h.2]
 | f m x y z hx hy hz => intro h; simp only [E.tidy, Bool.and_eq_true] at h; simp only [E.ev, E.evP, hx h.1.1, hy h.1.2, hz h.2]
 | cl i l h => intro ht; obtain ⟨a, b⟩ := lookB_ok hn ht; simp only [E.ev, E.evP, clampZ_in a b]
theorem mapP_ev {ρ : Env} {nb : NB} (hn : nbOk ρ nb) {l : List E} (h : l.all (·.tidy nb) = true) : l.map (E.evP ρ) = l.map (E.ev ρ) :=
 List.map_congr_left fun e he => E.evP_ev hn e (List.all_eq_true.1 h e he)
def lookX : NB → Nat → Option Int
 | [], _ => none
 | (j, a, b) :: l, i => if Nat.beq i j then (if a == b then some a else none) else lookX l i
def decX (nb : NB) : E → Option Bool
 | .b .eq .i64 (.v x) (.c i) => (lookX nb x).map (· == i)
 | _ => none
def TB.chain (x : Nat) : TB → Nat
 | .br (.b .eq .i64 (.v y) (.c _)) _ f => if Nat.beq x y then f.chain x + 1 else 0
 | _ => 0
def TT.chain (x : Nat) : TT (List E) → Nat
 | .br (.b .eq .i64 (.v y) (.c _)) _ f => if Nat.beq x y then f.chain x + 1 else 0
 | _ => 0
def xsOut (k : Nat) (x n : Nat) (xs : NB) : NB := if Nat.blt 5 k then (x, (n : Int), (n : Int)) :: xs else xs
def TB.hdN (cx : Cx) (xs : NB) (J : List Int → Prop) (R : Nat → Env → Prop) : TB → Env → Prop
 | .back l, ρ => J (l.map (E.evP ρ))
 | .exit n, ρ => R n ρ
 | .br e t f, ρ => (match decX xs e with
  | some true => t.hdN cx xs J R ρ
  | some false => f.hdN cx xs J R ρ
  | none => (e.evP ρ ≠ 0 → t.hdN cx xs J R ρ) ∧ (e.evP ρ = 0 → f.hdN cx xs J R ρ))
 | .bad _, _ => False
 | .new i e t, ρ => ∀ y : Int, y = e.evP ρ → inIv y (e.iv cx) → t.hdN cx xs J R (ρ.set i y)
 | .loop L b r, ρ => ∃ I : CurR L.bds.length, (∃ m, I.app _ (L.init.map (E.evP ρ)) m) ∧
   allC L.bds.length fun σ => ∀ m, inBd L.bds σ → I.app _ σ m → b.hdN cx xs (fun σ' => ∃ m', m' < m ∧ I.app _ σ' m') (fun n ρ' => r.hdN cx (xsOut (r.chain L.xid) L.xid n xs) J R (ρ'.set L.xid n)) (ρ.setL L.base σ)
def TT.hdN (cx : Cx) (F : List Int → Prop) (xs : NB) : TT (List E) → Env → Prop
 | .leaf l, ρ => F (l.map (E.evP ρ))
 | .br e t f, ρ => (match decX xs e with
  | some true => t.hdN cx F xs ρ
  | some false => f.hdN cx F xs ρ
  | none => (e.evP ρ ≠ 0 → t.hdN cx F xs ρ) ∧ (e.evP ρ = 0 → f.hdN cx F xs ρ))
 | .bad _, _ => False
 | .new i e t, ρ => ∀ y : Int, y = e.evP ρ → inIv y (e.iv cx) → t.hdN cx F xs (ρ.set i y)
 | .loop L b r, ρ => ∃ I : CurR L.bds.length, (∃ m, I.app _ (L.init.map (E.evP ρ)) m) ∧
   allC L.bds.length fun σ => ∀ m, inBd L.bds σ → I.app _ σ m → b.hdN cx xs (fun σ' => ∃ m', m' < m ∧ I.app _ σ' m') (fun n ρ' => r.hdN cx F (xsOut (r.chain L.xid) L.xid n xs) (ρ'.set L.xid n)) (ρ.setL L.base σ)
def TT.hdP (cx : Cx) (F : List Int → Prop) (t : TT (List E)) (ρ : Env) : Prop := t.hdN cx F [] ρ
def nbL : Nat → List (Option (Int × Int)) → NB
 | _, [] => []
 | i, some p :: l => (i, p.1, p.2) :: nbL (i + 1) l
 | i, none :: l => nbL (i + 1) l
def nbLt (n : Nat) (nb : NB) : Bool := nb.all fun p => Nat.blt p.1 n
theorem lookX_ok {ρ : Env} : ∀ {nb : NB} {i : Nat} {a : Int}, nbOk ρ nb → lookX nb i = some a → ρ.i i = a
 | [], _, _, _, h => by cases h
 | (j, a, b) :: l, i, x, hn, h => by
  simp only [lookX] at h
  split at h
  ·rename_i hj
   have := Nat.eq_of_beq_eq_true hj
   subst this
   split at h
   ·rename_i hab
    have hab := beq_iff_eq.1 hab
    subst hab
    cases h
    have := hn (i, a, a) List.mem_cons_self
    simp at this
    omega
   ·cases h
  ·exact lookX_ok (fun p hp => hn p (List.mem_cons_of_mem _ hp)) h
theorem qXo {ρ : Env} {nb : NB} {e : E} {b : Bool} (hn : nbOk ρ nb) (h : decX nb e = some b) : (b = true → e.ev ρ ≠ 0) ∧ (b = false → e.ev ρ = 0) := by
 unfold decX at h
 split at h
 ·rename_i x i
  obtain ⟨a, ha, rfl⟩ := Option.map_eq_some_iff.1 h
  have := lookX_ok hn ha
  simp only [E.ev, BO.ev, this, beq_iff_eq]
  constructor
  ·intro g; subst g; simp [qQj]
  ·intro g
   have g' : ¬ a = i := by simpa using g
   simp [qQj, g']
 ·cases h
def TB.tidy (cx : Cx) (nb : NB) (K : Nat → NB → Bool) : TB → Bool
 | .back l => l.all (·.tidy nb)
 | .exit n => K n nb
 | .br e t f => e.tidy nb && (match decX nb e with
  | some true => TB.tidy cx nb K t
  | some false => TB.tidy cx nb K f
  | none => TB.tidy cx nb K t && TB.tidy cx nb K f)
 | .bad _ => true
 | .new i e t => e.tidy nb && nbLt i nb && cx.okB i && (match e.iv cx with
  | some p => TB.tidy cx ((i, p.1, p.2) :: nb) K t
  | none => TB.tidy cx nb K t)
 | .loop L b r => L.init.all (·.tidy nb) && nbLt L.base nb && cx.okB L.base && TB.tidy cx (nbL L.base L.bds ++ nb) (fun n nb' => nbLt L.xid nb' && Nat.ble L.base L.xid && TB.tidy cx ((L.xid, (n : Int), (n : Int)) :: nb') K r) b
def TT.tidy (cx : Cx) (nb : NB) : TT (List E) → Bool
 | .leaf l => l.all (·.tidy nb)
 | .br e t f => e.tidy nb && (match decX nb e with
  | some true => TT.tidy cx nb t
  | some false => TT.tidy cx nb f
  | none => TT.tidy cx nb t && TT.tidy cx nb f)
 | .bad _ => true
 | .new i e t => e.tidy nb && nbLt i nb && cx.okB i && (match e.iv cx with
  | some p => TT.tidy cx ((i, p.1, p.2) :: nb) t
  | none => TT.tidy cx nb t)
 | .loop L b r => L.init.all (·.tidy nb) && nbLt L.base nb && cx.okB L.base && TB.tidy cx (nbL L.base L.bds ++ nb) (fun n nb' => nbLt L.xid nb' && Nat.ble L.base L.xid && TT.tidy cx ((L.xid, (n : Int), (n : Int)) :: nb') r) b
theorem nb_agn {n : Nat} {nb : NB} {ρ ρ' : Env} (h : nbLt n nb = true) (ha : Agn n ρ ρ') (hn : nbOk ρ nb) : nbOk ρ' nb := by
 intro p hp
 have := List.all_eq_true.1 h p hp
 rw [ha.i _ (by simpa using this)]
 exact hn p hp
theorem nbL_ok {ρ : Env} {b0 : Nat} {σ0 : List Int} : ∀ {l : List (Option (Int × Int))} {σ : List Int} {i : Nat}, inBd l σ → (∀ k x, σ[k]? = some x → ρ.i (i + k) = x) → nbOk ρ (nbL i l)
 | [], [], i, _, _ => fun p hp => by cases hp
 | some q :: l, x :: σ, i, h, hv => by
  intro p hp
  simp only [nbL] at hp
  rcases List.mem_cons.1 hp with rfl | hp
  ·have := hv 0 x rfl
   simp only [Nat.add_zero] at this
   simp only [this]
   exact h.1
  ·exact nbL_ok (b0 := b0) (σ0 := σ0) h.2 (fun k y hk => by have := hv (k + 1) y (by simpa using hk); rwa [show i + (k + 1) = i + 1 + k by omega] at this) p hp
 | none :: l, x :: σ, i, h, hv => by
  simp only [nbL]
  exact nbL_ok (b0 := b0) (σ0 := σ0) (l := l) (σ := σ) (i := i + 1) h.2 (fun k y hk => by have := hv (k + 1) y (by simpa using hk); rwa [show i + (k + 1) = i + 1 + k by omega] at this)
 | [], _ :: _, _, h, _ => by cases h
 | none :: _, [], _, h, _ => by cases h
 | some _ :: _, [], _, h, _ => by cases h
theorem nb_loop {ρ : Env} {L : Lp} {nb : NB} {σ : List Int} (h : nbLt L.base nb = true) (hn : nbOk ρ nb) (hin : inBd L.bds σ) : nbOk (ρ.setL L.base σ) (nbL L.base L.bds ++ nb) := by
 intro p hp
 rcases List.mem_append.1 hp with hp | hp
 ·refine nbL_ok (b0 := 0) (σ0 := []) hin (fun k x hk => ?_) p hp
  have hlt := (List.getElem?_eq_some_iff.1 hk).1
  rw [setL_get, if_pos (by omega), Nat.add_sub_cancel_left, List.getD_eq_getElem?_getD, hk]; rfl
 ·exact nb_agn h (qJn ρ L.base σ) hn p hp
theorem nb_exit {ρ : Env} {x n : Nat} {nb : NB} (h : nbOk (ρ.set x n) nb) : nbOk (ρ.set x n) ((x, (n : Int), (n : Int)) :: nb) := fun p hp => by
 rcases List.mem_cons.1 hp with rfl | hp
 ·simp [Env.set]
 ·exact h p hp
theorem xs_out {k x n : Nat} {xs nb : NB} (h : ∀ p ∈ xs, p ∈ nb) : ∀ p ∈ xsOut k x n xs, p ∈ (x, (n : Int), (n : Int)) :: nb := by
 intro p hp
 unfold xsOut at hp
 split at hp
 ·rcases List.mem_cons.1 hp with rfl | hp
  ·exact List.mem_cons_self
  ·exact List.mem_cons_of_mem _ (h p hp)
 ·exact List.mem_cons_of_mem _ (h p hp)
theorem nb_sub {ρ : Env} {xs nb : NB} (h : ∀ p ∈ xs, p ∈ nb) (hn : nbOk ρ nb) : nbOk ρ xs := fun p hp => hn p (h p hp)
theorem TB.hdN_ok {cx : Cx} {ys : NB} : ∀ {t : TB} {xs nb : NB} {J : List Int → Prop} {R R' : Nat → Env → Prop} {K : Nat → NB → Bool} {ρ : Env}, (∀ p ∈ ys, p ∈ xs) → (∀ p ∈ xs, p ∈ nb) → EnvOk cx ρ → nbOk ρ nb → TB.tidy cx nb K t = true →
  (∀ n ρ' nb', (∀ p ∈ ys, p ∈ nb') → EnvOk cx ρ' → nbOk ρ' nb' → K n nb' = true → R n ρ' → R' n ρ') → t.hdN cx xs J R ρ → t.hd J R' ρ
 | .back l, xs, nb, J, R, R', K, ρ, hy, hx, hρ, hn, ht, hR, h => by
  simp only [TB.tidy] at ht
  simp only [TB.hdN, mapP_ev hn ht] at h
  exact h
 | .exit n, xs, nb, J, R, R', K, ρ, hy, hx, hρ, hn, ht, hR, h => hR n ρ nb (fun p hp => hx p (hy p hp)) hρ hn ht h
 | .br e t f, xs, nb, J, R, R', K, ρ, hy, hx, hρ, hn, ht, hR, h => by
  simp only [TB.tidy, Bool.and_eq_true] at ht
  simp only [TB.hdN, E.evP_ev hn e ht.1] at h
  obtain ⟨_, ht⟩ := ht
  split at h
  ·rename_i hd0
   have hd0 := (qXo (nb_sub hx hn) hd0).1 rfl
   refine ⟨fun _ => ?_, fun hc => absurd hc hd0⟩
   split at ht
   ·exact TB.hdN_ok hy hx hρ hn ht hR h
   ·rename_i hd
    exact absurd ((qXo hn hd).2 rfl) hd0
   ·simp only [Bool.and_eq_true] at ht
    exact TB.hdN_ok hy hx hρ hn ht.1 hR h
  ·rename_i hd0
   have hd0 := (qXo (nb_sub hx hn) hd0).2 rfl
   refine ⟨fun hc => absurd hd0 hc, fun _ => ?_⟩
   split at ht
   ·rename_i hd
    exact absurd hd0 ((qXo hn hd).1 rfl)
   ·exact TB.hdN_ok hy hx hρ hn ht hR h
   ·simp only [Bool.and_eq_true] at ht
    exact TB.hdN_ok hy hx hρ hn ht.2 hR h
  ·split at ht
   ·rename_i hd
    exact ⟨fun hc => TB.hdN_ok hy hx hρ hn ht hR (h.1 hc), fun hc => absurd hc ((qXo hn hd).1 rfl)⟩
   ·rename_i hd
    exact ⟨fun hc => absurd ((qXo hn hd).2 rfl) hc, fun hc => TB.hdN_ok hy hx hρ hn ht hR (h.2 hc)⟩
   ·simp only [Bool.and_eq_true] at ht
    exact ⟨fun hc => TB.hdN_ok hy hx hρ hn ht.1 hR (h.1 hc), fun hc => TB.hdN_ok hy hx hρ hn ht.2 hR (h.2 hc)⟩
 | .bad _, xs, nb, J, R, R', K, ρ, hy, hx, hρ, hn, ht, hR, h => h
 | .new i e t, xs, nb, J, R, R', K, ρ, hy, hx, hρ, hn, ht, hR, h => by
  simp only [TB.tidy, Bool.and_eq_true] at ht
  obtain ⟨⟨⟨h1, h2⟩, h3⟩, h4⟩ := ht
  simp only [TB.hdN, E.evP_ev hn e h1] at h
  have hiv := E.iv_ok hρ e
  have ha := set_agn ρ i (e.ev ρ)
  have hρ' := EnvOk.agn h3 hρ ha
  have hn' := nb_agn h2 ha hn
  have hh := h _ rfl hiv
  show t.hd J R' (ρ.set i (e.ev ρ))
  split at h4
  ·rename_i p hp
   rw [hp] at hiv
   refine TB.hdN_ok (nb := (i, p.1, p.2) :: nb) hy (fun q hq => List.mem_cons_of_mem _ (hx q hq)) hρ' (fun q hq => ?_) h4 hR hh
   rcases List.mem_cons.1 hq with rfl | hq
   ·simp [Env.set]; exact hiv
   ·exact hn' q hq
  ·exact TB.hdN_ok hy hx hρ' hn' h4 hR hh
 | .loop L b r, xs, nb, J, R, R', K, ρ, hy, hx, hρ, hn, ht, hR, h => by
  simp only [TB.tidy, Bool.and_eq_true] at ht
  obtain ⟨⟨⟨h1, h2⟩, h3⟩, h4⟩ := ht
  obtain ⟨I, ⟨m, hm⟩, hst⟩ := h
  rw [mapP_ev hn h1] at hm
  refine ⟨fun σ m => I.app _ σ m, ⟨m, hm⟩, fun σ m hl hin hI => ?_⟩
  have hb := allC_ok hst σ hl m hin hI
  refine TB.hdN_ok (ys := xs) (xs := xs) (fun _ hp => hp) (fun p hp => List.mem_append.2 (.inr (hx p hp))) (EnvOk.agn h3 hρ (qJn ρ L.base σ)) (nb_loop h2 hn hin) h4 (fun n ρ' nb' e0 e1 e2 e3 e4 => ?_) hb
  simp only [Bool.and_eq_true] at e3
  have ha := set_agn ρ' L.xid n
  exact TB.hdN_ok (ys := ys) (fun p hp => by unfold xsOut; split; exact List.mem_cons_of_mem _ (hy p hp); exact hy p hp) (xs_out e0) (EnvOk.agn (qXf (Nat.le_of_ble_eq_true e3.1.2) h3) e1 ha) (nb_exit (nb_agn e3.1.1 ha e2)) e3.2 hR e4
theorem TT.hdN_ok {cx : Cx} {F : List Int → Prop} : ∀ {t : TT (List E)} {xs nb : NB} {ρ : Env}, (∀ p ∈ xs, p ∈ nb) → EnvOk cx ρ → nbOk ρ nb → TT.tidy cx nb t = true → t.hdN cx F xs ρ → t.hd (fun l ρ => F (l.map (E.ev ρ))) ρ
 | .leaf l, xs, nb, ρ, hx, hρ, hn, ht, h => by
  simp only [TT.tidy] at ht
  simp only [TT.hdN, mapP_ev hn ht] at h
  exact h
 | .br e t f, xs, nb, ρ, hx, hρ, hn, ht, h => by
  simp only [TT.tidy, Bool.and_eq_true] at ht
  simp only [TT.hdN, E.evP_ev hn e ht.1] at h
  obtain ⟨_, ht⟩ := ht
  split at h
  ·rename_i hd0
   have hd0 := (qXo (nb_sub hx hn) hd0).1 rfl
   refine ⟨fun _ => ?_, fun hc => absurd hc hd0⟩
   split at ht
   ·exact TT.hdN_ok hx hρ hn ht h
   ·rename_i hd
    exact absurd ((qXo hn hd).2 rfl) hd0
   ·simp only [Bool.and_eq_true] at ht
    exact TT.hdN_ok hx hρ hn ht.1 h
  ·rename_i hd0
   have hd0 := (qXo (nb_sub hx hn) hd0).2 rfl
   refine ⟨fun hc => absurd hd0 hc, fun _ => ?_⟩
   split at ht
   ·rename_i hd
    exact absurd hd0 ((qXo hn hd).1 rfl)
   ·exact TT.hdN_ok hx hρ hn ht h
   ·simp only [Bool.and_eq_true] at ht
    exact TT.hdN_ok hx hρ hn ht.2 h
  ·split at ht
   ·rename_i hd
    exact ⟨fun hc => TT.hdN_ok hx hρ hn ht (h.1 hc), fun hc => absurd hc ((qXo hn hd).1 rfl)⟩
   ·rename_i hd
    exact ⟨fun hc => absurd ((qXo hn hd).2 rfl) hc, fun hc => TT.hdN_ok hx hρ hn ht (h.2 hc)⟩
   ·simp only [Bool.and_eq_true] at ht
    exact ⟨fun hc => TT.hdN_ok hx hρ hn ht.1 (h.1 hc), fun hc => TT.hdN_ok hx hρ hn ht.2 (h.2 hc)⟩
 | .bad _, xs, nb, ρ, hx, hρ, hn, ht, h => h
 | .new i e t, xs, nb, ρ, hx, hρ, hn, ht, h => by
  simp only [TT.tidy, Bool.and_eq_true] at ht
  obtain ⟨⟨⟨h1, h2⟩, h3⟩, h4⟩ := ht
  simp only [TT.hdN, E.evP_ev hn e h1] at h
  have hiv := E.iv_ok hρ e
  have ha := set_agn ρ i (e.ev ρ)
  have hρ' := EnvOk.agn h3 hρ ha
  have hn' := nb_agn h2 ha hn
  have hh := h _ rfl hiv
  show t.hd (fun l ρ => F (l.map (E.ev ρ))) (ρ.set i (e.ev ρ))
  split at h4
  ·rename_i p hp
   rw [hp] at hiv
   refine TT.hdN_ok (nb := (i, p.1, p.2) :: nb) (fun q hq => List.mem_cons_of_mem _ (hx q hq)) hρ' (fun q hq => ?_) h4 hh
   rcases List.mem_cons.1 hq with rfl | hq
   ·simp [Env.set]; exact hiv
   ·exact hn' q hq
  ·exact TT.hdN_ok hx hρ' hn' h4 hh
 | .loop L b r, xs, nb, ρ, hx, hρ, hn, ht, h => by
  simp only [TT.tidy, Bool.and_eq_true] at ht
  obtain ⟨⟨⟨h1, h2⟩, h3⟩, h4⟩ := ht
  obtain ⟨I, ⟨m, hm⟩, hst⟩ := h
  rw [mapP_ev hn h1] at hm
  refine ⟨fun σ m => I.app _ σ m, ⟨m, hm⟩, fun σ m hl hin hI => ?_⟩
  have hb := allC_ok hst σ hl m hin hI
  refine TB.hdN_ok (ys := xs) (xs := xs) (fun _ hp => hp) (fun p hp => List.mem_append.2 (.inr (hx p hp))) (EnvOk.agn h3 hρ (qJn ρ L.base σ)) (nb_loop h2 hn hin) h4 (fun n ρ' nb' e0 e1 e2 e3 e4 => ?_) hb
  simp only [Bool.and_eq_true] at e3
  have ha := set_agn ρ' L.xid n
  exact TT.hdN_ok (xs_out e0) (EnvOk.agn (qXf (Nat.le_of_ble_eq_true e3.1.2) h3) e1 ha) (nb_exit (nb_agn e3.1.1 ha e2)) e3.2 e4
theorem TT.hdP_ok {cx : Cx} {F : List Int → Prop} {t : TT (List E)} {nb : NB} {ρ : Env} (hρ : EnvOk cx ρ) (hn : nbOk ρ nb) (ht : TT.tidy cx nb t = true) (h : t.hdP cx F ρ) : t.hd (fun l ρ => F (l.map (E.ev ρ))) ρ :=
 TT.hdN_ok (xs := []) (fun _ hp => by cases hp) hρ hn ht h
def eLbeq : List E → List E → Bool
 | [], [] => true
 | a :: l, b :: m => a.beq b && eLbeq l m
 | _, _ => false
theorem eL_of_beq : ∀ {l m : List E}, eLbeq l m = true → l = m
 | [], [], _ => rfl
 | a :: l, b :: m, h => by
  simp only [eLbeq, Bool.and_eq_true] at h
  rw [E.eq_of_beq h.1, eL_of_beq h.2]
 | [], _ :: _, h => by cases h
 | _ :: _, [], h => by cases h
def Lp.beq (a b : Lp) : Bool := Nat.beq a.base b.base && decide (a.bds = b.bds) && eLbeq a.init b.init && Nat.beq a.xid b.xid
theorem Lp.eq_of_beq {a b : Lp} (h : a.beq b = true) : a = b := by
 obtain ⟨a1, a2, a3, a4⟩ := a
 obtain ⟨b1, b2, b3, b4⟩ := b
 simp only [Lp.beq, Bool.and_eq_true, decide_eq_true_eq] at h
 rw [Nat.eq_of_beq_eq_true h.1.1.1, h.1.1.2, eL_of_beq h.1.2, Nat.eq_of_beq_eq_true h.2]
def TB.beq : TB → TB → Bool
 | .back a, .back b => eLbeq a b
 | .exit a, .exit b => Nat.beq a b
 | .br e t f, .br e' t' f' => e.beq e' && TB.beq t t' && TB.beq f f'
 | .bad n, .bad m => Nat.beq n m
 | .new i e t, .new i' e' t' => Nat.beq i i' && e.beq e' && TB.beq t t'
 | .loop L b r, .loop L' b' r' => L.beq L' && TB.beq b b' && TB.beq r r'
 | _, _ => false
theorem TB.eq_of_beq : ∀ {x y : TB}, TB.beq x y = true → x = y := by
 intro x
 induction x with
 | back a => intro y h; cases y <;> simp only [TB.beq] at h <;> first | (rw [eL_of_beq h]) | cases h
 | exit a => intro y h; cases y <;> simp only [TB.beq] at h <;> first | (rw [Nat.eq_of_beq_eq_true h]) | cases h
 | br e t f ht hf =>
  intro y h
  cases y <;> simp only [TB.beq] at h <;> try (cases h; done)
  simp only [Bool.and_eq_true] at h
  rw [E.eq_of_beq h.1.1, ht h.1.2, hf h.2]
 | bad n => intro y h; cases y <;> simp only [TB.beq] at h <;> first | (rw [Nat.eq_of_beq_eq_true h]) | cases h
 | new i e t ht =>
  intro y h
  cases y <;> simp only [TB.beq] at h <;> try (cases h; done)
  simp only [Bool.and_eq_true] at h
  rw [Nat.eq_of_beq_eq_true h.1.1, E.eq_of_beq h.1.2, ht h.2]
 | loop L b r hb hr =>
  intro y h
  cases y <;> simp only [TB.beq] at h <;> try (cases h; done)
  simp only [Bool.and_eq_true] at h
  rw [Lp.eq_of_beq h.1.1, hb h.1.2, hr h.2]
def TT.beq : TT (List E) → TT (List E) → Bool
 | .leaf a, .leaf b => eLbeq a b
 | .br e t f, .br e' t' f' => e.beq e' && TT.beq t t' && TT.beq f f'
 | .bad n, .bad m => Nat.beq n m
 | .new i e t, .new i' e' t' => Nat.beq i i' && e.beq e' && TT.beq t t'
 | .loop L b r, .loop L' b' r' => L.beq L' && TB.beq b b' && TT.beq r r'
 | _, _ => false
theorem TT.eq_of_beq : ∀ {x y : TT (List E)}, TT.beq x y = true → x = y := by
 intro x
 induction x with
 | leaf a => intro y h; cases y <;> simp only [TT.beq] at h <;> first | (rw [eL_of_beq h]) | cases h
 | br e t f ht hf =>
  intro y h
  cases y <;> simp only [TT.beq] at h <;> try (cases h; done)
  simp only [Bool.and_eq_true] at h
  rw [E.eq_of_beq h.1.1, ht h.1.2, hf h.2]
 | bad n => intro y h; cases y <;> simp only [TT.beq] at h <;> first | (rw [Nat.eq_of_beq_eq_true h]) | cases h
 | new i e t ht =>
  intro y h
  cases y <;> simp only [TT.beq] at h <;> try (cases h; done)
  simp only [Bool.and_eq_true] at h
  rw [Nat.eq_of_beq_eq_true h.1.1, E.eq_of_beq h.1.2, ht h.2]
 | loop L b r hr =>
  intro y h
  cases y <;> simp only [TT.beq] at h <;> try (cases h; done)
  simp only [Bool.and_eq_true] at h
  rw [Lp.eq_of_beq h.1.1, TB.eq_of_beq h.1.2, hr h.2]
def projL (pj : SV → St → Option (List E)) : RT2 → TT (List E)
 | .leaf (v, s) => match isPan v with
  | some _ => .bad 91
  | none => match pj v s with
   | some l => .leaf l
   | none => .bad 90
 | .br e t f => .br e (projL pj t) (projL pj f)
 | .bad n => .bad n
 | .new i e t => .new i e (projL pj t)
 | .loop L b r => .loop L b (projL pj r)
theorem qKr {pj : SV → St → Option (List E)} {ρ : Env} : ∀ {t : RT2} {l : List E}, (projL pj t).sel ρ = some l → ∃ v s, t.sel ρ = some (v, s) ∧ pj v s = some l ∧ isPan v = none
 | .leaf (v, s), l, h => by
  simp only [projL] at h
  split at h
  ·cases h
  ·rename_i hn
   split at h
   ·rename_i l' hl
    cases h
    exact ⟨v, s, rfl, hl, hn⟩
   ·cases h
 | .br e t f, l, h => by
  simp only [projL, TT.sel] at h ⊢
  split at h
  ·rename_i hc; rw [if_pos hc]; exact qKr h
  ·rename_i hc; rw [if_neg hc]; exact qKr h
 | .bad n, l, h => by cases h
 | .new i e t, l, h => by
  simp only [projL, TT.sel] at h ⊢
  split at h
  ·rename_i hc; rw [if_pos hc]; exact qKr h
  ·cases h
 | .loop L b r, l, h => by
  simp only [projL, TT.sel] at h ⊢
  split at h
  ·rename_i hc; rw [if_pos hc]; exact qKr h
  ·cases h
theorem qKb {β : Bt} {j : Nat} : ¬ live β ⟨[], []⟩ j := fun ⟨b, h, _⟩ => by simp at h
def kn1 (k : Bool) : List (E × Bool) := if k then [(.c 1, true)] else []
theorem kn1_ok (ρ : Env) (k : Bool) (e : E) (b : Bool) (h : (e, b) ∈ kn1 k) : (e.ev ρ != 0) = b := by
 unfold kn1 at h
 split at h
 ·have := List.mem_singleton.1 h
  injection this with h1 h2
  subst h1 h2
  rfl
 ·cases h
theorem sat_nil1 {ρ : Env} {β : Bt} {w : World} (k : Bool) (h : RoOk ρ β ⟨[], []⟩ w) : Sat ρ β ⟨[], kn1 k⟩ w :=
 ⟨fun j b h => by simp at h, fun i j hi _ _ => absurd hi (fun ⟨b, h, _⟩ => by simp at h), kn1_ok ρ k, fun k a i x h1 h2 => ⟨(h k a i x h1 h2).1, fun j ⟨b, hj, _⟩ => by simp at hj⟩⟩
theorem below_ext {s s' : St} {β β' : Bt} {w w' : World} (hs : s.bl = []) (h : Ext s s' β β' w w') : Below w.heap.size w w' :=
 ⟨h.os, h.tape, h.output, h.size, fun k hk => h.fr k hk fun j ⟨b, hj, _⟩ => by rw [hs] at hj; simp at hj⟩
theorem run_of {cx : Cx} {cf : CFT} (hcf : qJk cx cf) {ρ : Env} (hρ : EnvOk cx ρ) {f : FuncId} {args : List SV} {t : TT (List E)} {pj : SV → St → Option (List E)} {F : List Int → Prop} {k1 : Bool} (ht : TT.beq (projL pj (cf f args ⟨[], kn1 k1⟩)) t = true)
  (hfine : (TT.fine cx 1000 [] t && cx.okB 1000 && SV.vbL 1000 args && TT.tidy cx [] t) = true) (hh : t.hdP cx F ρ) {w : World} (hro : RoOk ρ b0 ⟨[], []⟩ w)
  {vs : Array Value} (hv : vs = (SV.denL ρ b0 args).toArray) :
  Calls cx.P f vs w fun e w' => ∃ (ρ' : Env) (v : SV) (s' : St) (l : List E) (β' : Bt), e = .returned (v.den ρ' β') ∧ pj v s' = some l ∧ F (l.map (E.ev ρ')) ∧ EnvOk cx ρ' ∧ Agn 1000 ρ ρ' ∧ Sat ρ' β' s' w' ∧ Ext ⟨[], []⟩ s' b0 β' w w' := by
 subst hv
 simp only [Bool.and_eq_true] at hfine
 have ht := TT.eq_of_beq ht
 have h1 := TT.hdP_ok hρ (fun p hp => by cases hp) hfine.2 hh
 obtain ⟨ρ', ha, l, hsel, hF⟩ := TT.hd_sel hρ hfine.1.1.2 hfine.1.1.1 (fun e he => by cases he) (fun e he => by cases he) h1
 rw [← ht] at hsel
 obtain ⟨v, s', h2, h3, hnp⟩ := qKr hsel
 have hρ' := EnvOk.agn hfine.1.1.2 hρ ha
 rw [← SV.vbL_den ha b0 args hfine.1.2]
 have hro' : RoOk ρ' b0 ⟨[], []⟩ w := fun k a i x e1 e2 => by rw [ha.ro] at e1 e2 ⊢; exact hro k a i x e1 e2
 refine (hcf ρ' b0 ⟨[], kn1 k1⟩ s' w f args v hρ' (sat_nil1 k1 hro') h2).mono ?_
 rintro e w' ⟨β', rfl, hs, hx⟩
 exact ⟨ρ', v, s', l, β', qXc hnp, h3, hF, hρ', ha, hs, hx.ag, hx.old, hx.fresh, hx.size, hx.fr, hx.len, hx.os, hx.tape, hx.output⟩
end Go.Eng
end
