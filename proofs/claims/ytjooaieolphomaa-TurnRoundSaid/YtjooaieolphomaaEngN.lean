/-
  A symbolic executor, part N: contracts by templates: a function of numbers, told once by an expression, is from then on filled in.
-/
import Derived.Test.YtjooaieolphomaaEngM
set_option linter.unusedVariables false
set_option linter.unusedSimpArgs false
namespace Go.Eng
open Go.RowKit

/-- a context that names more, or less: what is told of functions in the one is told in the other -/
theorem envOk_sh {cx : Cx} {n m : Nat} {ρ : Env} (h : EnvOk { cx with sh := n } ρ) : EnvOk { cx with sh := m } ρ := ⟨h.hi, h.hf, h.hv, h.hF⟩

def E.f' (F : Nat → Int → Int → Int → Int) (n : Nat) (x y z : E) : E :=
  match x, y, z with
  | .c p, .c q, .c r => .c (F n p q r)
  | x, y, z => .f n x y z

theorem E.f'_ev {cx : Cx} {ρ : Env} (hρ : EnvOk cx ρ) (n : Nat) (x y z : E) : (E.f' cx.F n x y z).ev ρ = ρ.f n (x.ev ρ) (y.ev ρ) (z.ev ρ) := by
  unfold E.f'
  split
  · simp only [E.ev, hρ.hF]
  · rfl

def E.ite' (t x y : E) : E :=
  match t with
  | .c n => if n = 0 then y else x
  | t => .ite t x y
theorem E.ite'_ev (ρ : Env) (t x y : E) : (E.ite' t x y).ev ρ = if t.ev ρ ≠ 0 then x.ev ρ else y.ev ρ := by
  unfold E.ite'
  split
  · simp only [E.ev]; split <;> simp_all
  · rfl

/-- an expression, filled in -/
def E.sub (cx : Cx) (σ : List E) : E → E
  | .c n => .c n
  | .v i => σ.getD i (.c 0)
  | .b o k x y => E.b' cx o k (x.sub cx σ) (y.sub cx σ)
  | .w k x => E.w' cx k (x.sub cx σ)
  | .nt x => E.nt' (x.sub cx σ)
  | .ite t x y => E.ite' (t.sub cx σ) (x.sub cx σ) (y.sub cx σ)
  | .f n x y z => E.f' cx.F n (x.sub cx σ) (y.sub cx σ) (z.sub cx σ)
  | .cl i l h => .ite (.b .lt .i64 (σ.getD i (.c 0)) (.c l)) (.c l) (.ite (.b .lt .i64 (.c h) (σ.getD i (.c 0))) (.c h) (σ.getD i (.c 0)))

def subEnv (ρ : Env) (σ : List E) : Env := ⟨fun i => (σ.getD i (.c 0)).ev ρ, ρ.f, ρ.v⟩

theorem E.sub_ev {cx : Cx} {ρ : Env} (hρ : EnvOk cx ρ) (σ : List E) (e : E) : (e.sub cx σ).ev ρ = e.ev (subEnv ρ σ) := by
  induction e with
  | c n => rfl
  | v i => rfl
  | b o k x y hx hy => simp only [E.sub, E.b'_ev hρ, hx, hy]; rfl
  | w k x hx => simp only [E.sub, E.w'_ev hρ, hx]; rfl
  | nt x hx => simp only [E.sub, E.nt'_ev, hx]; rfl
  | ite t x y ht hx hy => simp only [E.sub, E.ite'_ev, ht, hx, hy]; rfl
  | f n x y z hx hy hz => simp only [E.sub, E.f'_ev hρ, hx, hy, hz]; rfl
  | cl i l h =>
    simp only [E.sub, E.ev, BO.ev, subEnv, clampZ]
    by_cases h1 : (σ.getD i (.c 0)).ev ρ < l
    · simp [h1, bool01]
    · by_cases h2 : h < (σ.getD i (.c 0)).ev ρ <;> simp [h1, h2, bool01]

mutual
def SV.sub (cx : Cx) (σ : List E) : SV → SV
  | .int k e => .int k (e.sub cx σ)
  | .bool e => .bool (e.sub cx σ)
  | .agg l => .agg (SV.subL cx σ l)
  | .tup l => .tup (SV.subL cx σ l)
  | x => x
def SV.subL (cx : Cx) (σ : List E) : List SV → List SV
  | [] => []
  | x :: l => x.sub cx σ :: SV.subL cx σ l
end

mutual
/-- numbers alone -/
def SV.nums : SV → Bool
  | .int _ _ => true
  | .bool _ => true
  | .agg l => SV.numsL l
  | .tup l => SV.numsL l
  | _ => false
def SV.numsL : List SV → Bool
  | [] => true
  | x :: l => x.nums && SV.numsL l
end

theorem E.ev_congr {ρ ρ' : Env} {σ : List E} (e : E) (hi : ρ'.i = (subEnv ρ σ).i) (hf : ρ'.f = ρ.f) : e.ev ρ' = e.ev (subEnv ρ σ) := by
  induction e with
  | c n => rfl
  | v i => simp only [E.ev, hi]
  | b o k x y hx hy => simp only [E.ev, hx, hy]
  | w k x hx => simp only [E.ev, hx]
  | nt x hx => simp only [E.ev, hx]
  | ite t x y ht hx hy => simp only [E.ev, ht, hx, hy]
  | f n x y z hx hy hz => simp only [E.ev, hx, hy, hz, hf]; rfl
  | cl i l h => simp only [E.ev, hi]

mutual
theorem SV.sub_den {cx : Cx} {ρ ρ' : Env} (hρ : EnvOk cx ρ) (β β' : Nat → Nat × Nat) (σ : List E) (hi : ρ'.i = (subEnv ρ σ).i) (hf : ρ'.f = ρ.f) : ∀ (x : SV), x.nums = true → (x.sub cx σ).den ρ β = x.den ρ' β'
  | .int k e, _ => by
    simp only [SV.sub, SV.den, E.sub_ev hρ, E.ev_congr e hi hf]
  | .bool e, _ => by
    simp only [SV.sub, SV.den, E.sub_ev hρ, E.ev_congr e hi hf]
  | .agg l, h => by simp only [SV.nums] at h; simp only [SV.sub, SV.den, SV.subL_den hρ β β' σ hi hf l h]
  | .tup l, h => by simp only [SV.nums] at h; simp only [SV.sub, SV.den, SV.subL_den hρ β β' σ hi hf l h]
  | .ptr _ _, h | .lit _, h | .any _, h | .slice _ _ _ _, h | .func _ _ _, h | .iface _ _, h => by cases h
theorem SV.subL_den {cx : Cx} {ρ ρ' : Env} (hρ : EnvOk cx ρ) (β β' : Nat → Nat × Nat) (σ : List E) (hi : ρ'.i = (subEnv ρ σ).i) (hf : ρ'.f = ρ.f) : ∀ (l : List SV), SV.numsL l = true → SV.denL ρ β (SV.subL cx σ l) = SV.denL ρ' β' l
  | [], _ => rfl
  | x :: l, h => by
    simp only [SV.numsL, Bool.and_eq_true] at h
    simp only [SV.subL, SV.denL, SV.sub_den hρ β β' σ hi hf x h.1, SV.subL_den hρ β β' σ hi hf l h.2]
end

/-! ### what is asked of the arguments: a pattern -/

mutual
def SV.bds : SV → List (Int × Int)
  | .int k _ => [(klo k, khi k)]
  | .bool _ => [(0, 1)]
  | .agg l => SV.bdsL l
  | _ => []
def SV.bdsL : List SV → List (Int × Int)
  | [] => []
  | x :: l => x.bds ++ SV.bdsL l
end

mutual
def SV.lin (n : Nat) : SV → Bool
  | .int _ (.v i) => i == n
  | .bool (.v i) => i == n
  | .agg l => SV.linL n l
  | _ => false
def SV.linL (n : Nat) : List SV → Bool
  | [] => true
  | x :: l => x.lin n && SV.linL (n + x.bds.length) l
end

mutual
def SV.mt (cx : Cx) : SV → SV → Option (List E)
  | .int k _, .int k' e => if k = k' ∧ ivIn (e.iv cx) (klo k) (khi k) = true then some [e] else none
  | .bool _, .bool e => if ivIn (e.iv cx) 0 1 = true then some [e] else none
  | .agg l, .agg l' => SV.mtL cx l l'
  | _, _ => none
def SV.mtL (cx : Cx) : List SV → List SV → Option (List E)
  | [], [] => some []
  | p :: ps, x :: xs => match p.mt cx x, SV.mtL cx ps xs with
    | some a, some c => some (a ++ c)
    | _, _ => none
  | _, _ => none
end

def bdOk (ρ : Env) (b : List (Int × Int)) (σ : List E) : Prop :=
  σ.length = b.length ∧ ∀ (i : Nat) (q : Int × Int), b[i]? = some q → q.1 ≤ (σ.getD i (.c 0)).ev ρ ∧ (σ.getD i (.c 0)).ev ρ ≤ q.2

theorem bdOk_one {ρ : Env} {q : Int × Int} {e : E} (h : q.1 ≤ e.ev ρ ∧ e.ev ρ ≤ q.2) : bdOk ρ [q] [e] :=
  ⟨rfl, fun i r hr => by
    cases i with
    | zero => cases hr; exact h
    | succ i => simp at hr⟩
theorem bdOk_app {ρ : Env} {b b' : List (Int × Int)} {σ σ' : List E} (h : bdOk ρ b σ) (h' : bdOk ρ b' σ') : bdOk ρ (b ++ b') (σ ++ σ') := by
  refine ⟨by simp [h.1, h'.1], fun i q hq => ?_⟩
  rw [List.getElem?_append] at hq
  rw [List.getD_eq_getElem?_getD, List.getElem?_append, h.1]
  split at hq
  · rename_i hi
    rw [if_pos hi, ← List.getD_eq_getElem?_getD]
    exact h.2 i q hq
  · rename_i hi
    rw [if_neg hi, ← List.getD_eq_getElem?_getD]
    exact h'.2 _ q hq

mutual
theorem SV.mt_bd {cx : Cx} {ρ : Env} (hρ : EnvOk cx ρ) : ∀ (p x : SV) {σ : List E}, p.mt cx x = some σ → bdOk ρ p.bds σ
  | .int k _, x, σ, h => by
    cases x <;> simp only [SV.mt] at h <;> try (cases h; done)
    split at h
    · rename_i hc
      cases h
      exact bdOk_one (ivIn_ok hc.2 (E.iv_ok hρ _))
    · cases h
  | .bool _, x, σ, h => by
    cases x <;> simp only [SV.mt] at h <;> try (cases h; done)
    split at h
    · rename_i hc
      cases h
      exact bdOk_one (ivIn_ok hc (E.iv_ok hρ _))
    · cases h
  | .agg l, x, σ, h => by
    cases x <;> simp only [SV.mt] at h <;> try (cases h; done)
    exact SV.mtL_bd hρ l _ h
  | .ptr _ _, _, _, h | .lit _, _, _, h | .any _, _, _, h | .slice _ _ _ _, _, _, h | .func _ _ _, _, _, h | .iface _ _, _, _, h | .tup _, _, _, h => by simp [SV.mt] at h
theorem SV.mtL_bd {cx : Cx} {ρ : Env} (hρ : EnvOk cx ρ) : ∀ (p x : List SV) {σ : List E}, SV.mtL cx p x = some σ → bdOk ρ (SV.bdsL p) σ
  | [], x, σ, h => by
    cases x <;> simp only [SV.mtL] at h <;> cases h
    exact ⟨rfl, fun i q hq => by simp [SV.bdsL] at hq⟩
  | p :: ps, x, σ, h => by
    cases x with
    | nil => simp [SV.mtL] at h
    | cons y ys =>
      simp only [SV.mtL] at h
      split at h
      · rename_i u v hu hv
        cases h
        exact bdOk_app (SV.mt_bd hρ p y hu) (SV.mtL_bd hρ ps ys hv)
      · cases h
end

mutual
theorem SV.mt_den {cx : Cx} {ρ ρ' : Env} (hρ : EnvOk cx ρ) (β β' : Nat → Nat × Nat) : ∀ (p x : SV) (n : Nat) {σ : List E}, p.mt cx x = some σ → p.lin n = true →
    (∀ (j : Nat) (e : E), σ[j]? = some e → ρ'.i (n + j) = e.ev ρ) → p.den ρ' β' = x.den ρ β
  | .int k e0, x, n, σ, h, hl, hv => by
    cases x <;> simp only [SV.mt] at h <;> try (cases h; done)
    split at h
    · rename_i hc
      cases h
      cases e0 <;> simp only [SV.lin] at hl <;> try (cases hl; done)
      rename_i i
      have hi : i = n := by simpa using hl
      rw [hi, hc.1]
      have := hv 0 _ rfl
      simp only [SV.den, E.ev]
      rw [← this]; rfl
    · cases h
  | .bool e0, x, n, σ, h, hl, hv => by
    cases x <;> simp only [SV.mt] at h <;> try (cases h; done)
    split at h
    · rename_i hc
      cases h
      cases e0 <;> simp only [SV.lin] at hl <;> try (cases hl; done)
      rename_i i
      have hi : i = n := by simpa using hl
      rw [hi]
      have := hv 0 _ rfl
      simp only [SV.den, E.ev]
      rw [← this]; rfl
    · cases h
  | .agg l, x, n, σ, h, hl, hv => by
    cases x <;> simp only [SV.mt] at h <;> try (cases h; done)
    simp only [SV.lin] at hl
    simp only [SV.den, SV.mtL_den hρ β β' l _ n h hl hv]
  | .ptr _ _, _, _, _, h, _, _ | .lit _, _, _, _, h, _, _ | .any _, _, _, _, h, _, _ | .slice _ _ _ _, _, _, _, h, _, _ | .func _ _ _, _, _, _, h, _, _ | .iface _ _, _, _, _, h, _, _ | .tup _, _, _, _, h, _, _ => by simp [SV.mt] at h
theorem SV.mtL_den {cx : Cx} {ρ ρ' : Env} (hρ : EnvOk cx ρ) (β β' : Nat → Nat × Nat) : ∀ (p x : List SV) (n : Nat) {σ : List E}, SV.mtL cx p x = some σ → SV.linL n p = true →
    (∀ (j : Nat) (e : E), σ[j]? = some e → ρ'.i (n + j) = e.ev ρ) → SV.denL ρ' β' p = SV.denL ρ β x
  | [], x, n, σ, h, hl, hv => by
    cases x <;> simp only [SV.mtL] at h <;> cases h
    rfl
  | p :: ps, x, n, σ, h, hl, hv => by
    cases x with
    | nil => simp [SV.mtL] at h
    | cons y ys =>
      simp only [SV.mtL] at h
      split at h
      · rename_i u v hu hv'
        cases h
        simp only [SV.linL, Bool.and_eq_true] at hl
        have hlen := (SV.mt_bd hρ p y hu).1
        have h1 := SV.mt_den (ρ' := ρ') hρ β β' p y n hu hl.1 (fun j e he => hv j e (by
          rw [List.getElem?_append_left]; exact he; exact (List.getElem?_eq_some_iff.1 he).1))
        have h2 := SV.mtL_den (ρ' := ρ') hρ β β' ps ys (n + p.bds.length) hv' hl.2 (fun j e he => by
          rw [Nat.add_assoc]
          refine hv _ e ?_
          rw [List.getElem?_append_right (by omega), hlen, show p.bds.length + j - p.bds.length = j by omega]
          exact he)
        simp only [SV.denL, h1, h2]
      · cases h
end

/-! ### templates -/

/-- a receiver: a struct of one interface, that holds a pointer; or (1000000) the pointer itself -/
def recvS (t : TypeId) (x : SV) : SV := match Nat.beq t 1000000 with
  | true => x
  | false => .agg [.iface t x]
def isRecv (t : TypeId) : SV → Bool
  | .agg [.iface t' (.ptr _ _)] => Nat.beq t t' && !Nat.beq t 1000000
  | .agg [.iface t' (.any _)] => Nat.beq t t' && !Nat.beq t 1000000
  | .ptr _ _ => Nat.beq t 1000000
  | .any _ => Nat.beq t 1000000
  | _ => false
theorem isRecv_den {cx : Cx} {ρ : Env} (hρ : EnvOk cx ρ) (β β' : Nat → Nat × Nat) {t : TypeId} {x : SV} (h : isRecv t x = true) : ∃ a, x.den ρ β = (recvS t (.any 0)).den ⟨ρ.i, ρ.f, fun _ => .pointer (some a)⟩ β' := by
  unfold isRecv at h
  split at h
  · rename_i t' j o
    simp only [Bool.and_eq_true, Bool.not_eq_true'] at h
    have : t = t' := Nat.eq_of_beq_eq_true h.1
    subst this
    exact ⟨_, by simp only [recvS, h.2]; rfl⟩
  · rename_i t' i
    simp only [Bool.and_eq_true, Bool.not_eq_true'] at h
    have : t = t' := Nat.eq_of_beq_eq_true h.1
    subst this
    obtain ⟨a, ha⟩ := hρ.hv i
    exact ⟨a, by simp [recvS, h.2, SV.den, SV.denL, ha]⟩
  · exact ⟨_, by simp only [recvS, h]; rfl⟩
  · rename_i i
    obtain ⟨a, ha⟩ := hρ.hv i
    exact ⟨a, by simp only [recvS, h]; simp [SV.den, ha]⟩
  · cases h

theorem recvS_den (t : TypeId) (ρ ρ' : Env) (h : ρ'.v = ρ.v) (β β' : Nat → Nat × Nat) : (recvS t (.any 0)).den ρ' β' = (recvS t (.any 0)).den ρ β := by
  unfold recvS
  split <;> simp [SV.den, SV.denL, h]

/-- with a receiver, or without -/
def gT (cx : Cx) (rc : Option TypeId) (ps : List SV) (res : SV) (args : List SV) : Option SV :=
  match rc, args with
  | none, args => (SV.mtL cx ps args).map fun σ => res.sub cx σ
  | some t, r :: args => if isRecv t r then (SV.mtL cx ps args).map fun σ => res.sub cx σ else none
  | some _, [] => none

def tArgs (rc : Option TypeId) (ps : List SV) : List SV :=
  match rc with
  | none => ps
  | some t => recvS t (.any 0) :: ps

def TmplOk (cx : Cx) (f : FuncId) (rc : Option TypeId) (ps : List SV) (res : SV) : Prop :=
  ∀ (ρ : Env) (w : World), EnvOk { cx with Γ := SV.bdsL ps } ρ →
    Calls cx.P f (SV.denL ρ (fun _ => (0, 0)) (tArgs rc ps)).toArray w fun e w' => e = .returned (res.den ρ (fun _ => (0, 0))) ∧ Below w.heap.size w w'

theorem gT_ok {cx : Cx} {f : FuncId} {rc : Option TypeId} {ps : List SV} {res : SV} (hl : SV.linL 0 ps = true) (hn : res.nums = true) (h : TmplOk cx f rc ps res)
    (ρ : Env) (β : Nat → Nat × Nat) (w : World) (args : List SV) (v : SV) (hρ : EnvOk cx ρ) (hg : gT cx rc ps res args = some v) :
    Calls cx.P f (SV.denL ρ β args).toArray w fun e w' => e = .returned (v.den ρ β) ∧ Below w.heap.size w w' := by
  have main : ∀ (a : Addr) (xs : List SV) (σ : List E), SV.mtL cx ps xs = some σ →
      EnvOk { cx with Γ := SV.bdsL ps } ⟨(subEnv ρ σ).i, ρ.f, fun _ => .pointer (some a)⟩ ∧ SV.denL ⟨(subEnv ρ σ).i, ρ.f, fun _ => .pointer (some a)⟩ (fun _ => (0, 0)) ps = SV.denL ρ β xs := by
    intro a xs σ hs
    refine ⟨⟨(SV.mtL_bd hρ ps xs hs).2, hρ.hf, fun _ => ⟨a, rfl⟩, hρ.hF⟩, ?_⟩
    refine SV.mtL_den hρ β _ ps xs 0 hs hl fun j e he => ?_
    simp only [subEnv, Nat.zero_add, List.getD_eq_getElem?_getD, he, Option.getD_some]
  unfold gT at hg
  split at hg
  · obtain ⟨σ, hs, rfl⟩ := Option.map_eq_some_iff.1 hg
    obtain ⟨h1, h2⟩ := main ⟨0, 0, none⟩ args σ hs
    have := h _ w h1
    simp only [tArgs, h2] at this
    refine this.mono ?_
    rintro e w' ⟨rfl, hb⟩
    exact ⟨by rw [SV.sub_den (ρ' := ⟨(subEnv ρ σ).i, ρ.f, fun _ => .pointer (some _)⟩) hρ β (fun _ => (0, 0)) σ rfl rfl res hn], hb⟩
  · rename_i t r xs
    split at hg
    · rename_i hr
      obtain ⟨σ, hs, rfl⟩ := Option.map_eq_some_iff.1 hg
      obtain ⟨a, ha⟩ := isRecv_den hρ β (fun _ => (0, 0)) hr
      obtain ⟨h1, h2⟩ := main a xs σ hs
      have := h _ w h1
      simp only [tArgs, SV.denL, h2] at this
      rw [recvS_den t ⟨ρ.i, ρ.f, fun _ => .pointer (some a)⟩ _ (by rfl) (fun _ => (0, 0))] at this
      simp only [SV.denL, ha]
      refine this.mono ?_
      rintro e w' ⟨rfl, hb⟩
      exact ⟨by rw [SV.sub_den (ρ' := ⟨(subEnv ρ σ).i, ρ.f, fun _ => .pointer (some _)⟩) hρ β (fun _ => (0, 0)) σ rfl rfl res hn], hb⟩
    · cases hg
  · cases hg

/-- a template, by a run -/
theorem tmpl_run {cx : Cx} {f : FuncId} {rc : Option TypeId} {ps : List SV} {res : SV} {cf : CF} (hcf : CallOk { cx with Γ := SV.bdsL ps } cf) (h : T.beqV (projV (cf f (tArgs rc ps) ⟨[], []⟩)) (.leaf res) = true) : TmplOk cx f rc ps res :=
  fun ρ w hρ => value_of hcf hρ h rfl rfl w

/-- a template in other words -/
theorem tmpl_as {cx : Cx} {f : FuncId} {rc : Option TypeId} {ps : List SV} {res res' : SV} (h : TmplOk cx f rc ps res) (he : ∀ ρ : Env, EnvOk { cx with Γ := SV.bdsL ps } ρ → res.den ρ (fun _ => (0, 0)) = res'.den ρ (fun _ => (0, 0))) : TmplOk cx f rc ps res' :=
  fun ρ w hρ => by rw [← he ρ hρ]; exact h ρ w hρ

/-- a template holds however much is named -/
theorem tmpl_sh {cx : Cx} {n m : Nat} {f : FuncId} {rc : Option TypeId} {ps : List SV} {res : SV} (h : TmplOk { cx with sh := n } f rc ps res) : TmplOk { cx with sh := m } f rc ps res :=
  fun ρ w hρ => h ρ w ⟨hρ.hi, hρ.hf, hρ.hv, hρ.hF⟩

/-! ### a tree of numbers is one number -/

def E.mix (e x y : E) : E := if x.beq y then x else .ite e x y
theorem E.mix_ev (ρ : Env) (e x y : E) : (E.mix e x y).ev ρ = if e.ev ρ ≠ 0 then x.ev ρ else y.ev ρ := by
  unfold E.mix
  split
  · rename_i h
    have := E.eq_of_beq h
    subst this
    split <;> rfl
  · rfl

mutual
def SV.mix (e : E) : SV → SV → Option SV
  | .int k x, .int k' y => if k = k' then some (.int k (E.mix e x y)) else none
  | .bool x, .bool y => some (.bool (E.mix e x y))
  | .agg l, .agg m => (SV.mixL e l m).map .agg
  | .tup l, .tup m => (SV.mixL e l m).map .tup
  | _, _ => none
def SV.mixL (e : E) : List SV → List SV → Option (List SV)
  | [], [] => some []
  | x :: l, y :: m => match x.mix e y, SV.mixL e l m with
    | some a, some c => some (a :: c)
    | _, _ => none
  | _, _ => none
end

mutual
theorem SV.mix_den {ρ : Env} {β : Nat → Nat × Nat} {e : E} : ∀ (x y : SV) {r : SV}, x.mix e y = some r → r.den ρ β = if e.ev ρ ≠ 0 then x.den ρ β else y.den ρ β
  | .int k a, y, r, h => by
    cases y <;> simp only [SV.mix] at h <;> try (cases h; done)
    split at h
    · rename_i hk
      cases h
      subst hk
      simp only [SV.den, E.mix_ev]
      split <;> rfl
    · cases h
  | .bool a, y, r, h => by
    cases y <;> simp only [SV.mix] at h <;> try (cases h; done)
    cases h
    simp only [SV.den, E.mix_ev]
    split <;> rfl
  | .agg l, y, r, h => by
    cases y <;> simp only [SV.mix] at h <;> try (cases h; done)
    obtain ⟨z, hz, rfl⟩ := Option.map_eq_some_iff.1 h
    simp only [SV.den, SV.mixL_den l _ hz]
    split <;> rfl
  | .tup l, y, r, h => by
    cases y <;> simp only [SV.mix] at h <;> try (cases h; done)
    obtain ⟨z, hz, rfl⟩ := Option.map_eq_some_iff.1 h
    simp only [SV.den, SV.mixL_den l _ hz]
    split <;> rfl
  | .ptr _ _, _, _, h | .lit _, _, _, h | .any _, _, _, h | .slice _ _ _ _, _, _, h | .func _ _ _, _, _, h | .iface _ _, _, _, h => by simp [SV.mix] at h
theorem SV.mixL_den {ρ : Env} {β : Nat → Nat × Nat} {e : E} : ∀ (x y : List SV) {r : List SV}, SV.mixL e x y = some r → SV.denL ρ β r = if e.ev ρ ≠ 0 then SV.denL ρ β x else SV.denL ρ β y
  | [], y, r, h => by
    cases y <;> simp only [SV.mixL] at h <;> cases h
    simp [SV.denL]
  | x :: l, y, r, h => by
    cases y with
    | nil => simp [SV.mixL] at h
    | cons y m =>
      simp only [SV.mixL] at h
      split at h
      · rename_i a c ha hc
        cases h
        simp only [SV.denL, SV.mix_den x y ha, SV.mixL_den l m hc]
        split <;> rfl
      · cases h
end

def T.one : T SV → Option SV
  | .leaf v => some v
  | .br e t f => match T.one t, T.one f with
    | some a, some c => a.mix e c
    | _, _ => none
  | .bad _ => none
  | .new _ _ _ => none

theorem T.one_gives {ρ : Env} : ∀ {t : T SV} {v : SV}, T.one t = some v → T.gives ρ (v.den ρ (fun _ => (0, 0))) t
  | .leaf a, v, h => by cases h; rfl
  | .br e t f, v, h => by
    simp only [T.one] at h
    split at h
    · rename_i a c ha hc
      rw [SV.mix_den a c h]
      refine ⟨fun he => ?_, fun he => ?_⟩
      · rw [if_pos he]; exact T.one_gives ha
      · rw [if_neg (by simp [he])]; exact T.one_gives hc
    · cases h
  | .bad n, v, h => by cases h
  | .new _ _ _, v, h => by cases h

def oneIs (r : R) (res : SV) : Bool := match T.one (projV r) with
  | some v => v.beq res
  | none => false

theorem tmpl_one {cx : Cx} {f : FuncId} {rc : Option TypeId} {ps : List SV} {res : SV} {cf : CF} (hcf : CallOk { cx with Γ := SV.bdsL ps } cf) (h : oneIs (cf f (tArgs rc ps) ⟨[], []⟩) res = true) : TmplOk cx f rc ps res := by
  intro ρ w hρ
  unfold oneIs at h
  split at h
  · rename_i v hv
    have := SV.eq_of_beq _ _ h
    subst this
    have hg := T.one_gives (ρ := ρ) hv
    obtain ⟨u, s', hsel, hsc, hX⟩ := projV_sel hg
    refine (hcf ρ _ _ _ w f _ _ hρ (sat_nil ρ (fun _ => (0, 0)) w) hsel).mono ?_
    rintro x w' ⟨β', rfl, _, hx⟩
    refine ⟨?_, below_ext rfl hx⟩
    rw [← hX, SV.den_sc (n := 0) (fun j hj => by omega) u hsc]
  · cases h

/-! ### lists of templates -/

structure Tm where
  f : FuncId
  rc : Option TypeId
  ps : List SV
  res : SV

def Tm.ok (t : Tm) : Bool := SV.linL 0 t.ps && t.res.nums
def toldT (cx : Cx) (l : List Tm) : Told := l.map fun t => (t.f, gT cx t.rc t.ps t.res)

def TmsOk (cx : Cx) (l : List Tm) : Prop := ∀ t, t ∈ l → t.ok = true ∧ TmplOk cx t.f t.rc t.ps t.res

theorem tms_nil (cx : Cx) : TmsOk cx [] := fun _ h => by cases h
theorem tms_cons {cx : Cx} {t : Tm} {l : List Tm} (ho : t.ok = true) (h : TmplOk cx t.f t.rc t.ps t.res) (hl : TmsOk cx l) : TmsOk cx (t :: l) := by
  intro u hu
  rcases List.mem_cons.1 hu with rfl | hu
  · exact ⟨ho, h⟩
  · exact hl u hu
theorem tms_app {cx : Cx} {l m : List Tm} (hl : TmsOk cx l) (hm : TmsOk cx m) : TmsOk cx (l ++ m) := by
  intro u hu
  rcases List.mem_append.1 hu with hu | hu
  · exact hl u hu
  · exact hm u hu

theorem toldT_ok {cx : Cx} {l : List Tm} (h : TmsOk cx l) : ToldOk cx (toldT cx l) := by
  intro f g hm
  simp only [toldT, List.mem_map] at hm
  obtain ⟨t, ht, he⟩ := hm
  cases he
  obtain ⟨h1, h2⟩ := h t ht
  simp only [Tm.ok, Bool.and_eq_true] at h1
  exact gT_ok h1.1 h1.2 h2

theorem told_app {cx : Cx} {l m : Told} (hl : ToldOk cx l) (hm : ToldOk cx m) : ToldOk cx (l ++ m) := by
  intro f g h
  rcases List.mem_append.1 h with h | h
  · exact hl f g h
  · exact hm f g h

end Go.Eng
