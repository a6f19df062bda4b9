/-
  A symbolic executor, part S: summaries of functions as trees with names, filled in where the function is called.
-/
import Derived.Test.YtjooaieolphomaaEngQ
set_option linter.unusedVariables false
set_option linter.unusedSimpArgs false
namespace Go.Eng
open Go.RowKit

def lookN : List (Nat × E) → Nat → Option E
  | [], _ => none
  | (i, e) :: l, j => match Nat.beq i j with
    | true => some e
    | false => lookN l j

def clampE (l h : Int) (x : E) : E := .ite (.b .lt .i64 x (.c l)) (.c l) (.ite (.b .lt .i64 (.c h) x) (.c h) x)
theorem clampE_ev (ρ : Env) (l h : Int) (x : E) : (clampE l h x).ev ρ = clampZ l h (x.ev ρ) := by
  simp only [clampE, E.ev, BO.ev, clampZ]
  by_cases h1 : x.ev ρ < l
  · simp [h1, bool01]
  · by_cases h2 : h < x.ev ρ <;> simp [h1, h2, bool01]

/-- an expression, filled in: variables by σ, names by nm -/
def E.subN (cx : Cx) (σ : List E) (nm : List (Nat × E)) : E → E
  | .c n => .c n
  | .v i => (match Nat.blt i 1000 with
    | true => σ.getD i (.c 0)
    | false => match lookN nm i with
      | some e => e
      | none => .v i)
  | .b o k x y => E.b' cx o k (x.subN cx σ nm) (y.subN cx σ nm)
  | .w k x => E.w' cx k (x.subN cx σ nm)
  | .nt x => E.nt' (x.subN cx σ nm)
  | .ite t x y => E.ite' (t.subN cx σ nm) (x.subN cx σ nm) (y.subN cx σ nm)
  | .f n x y z => E.f' cx.F n (x.subN cx σ nm) (y.subN cx σ nm) (z.subN cx σ nm)
  | .cl i l h => match Nat.blt i 1000 with
    | true => clampE l h (σ.getD i (.c 0))
    | false => match lookN nm i with
      | some e => if ivIn (e.iv cx) l h then e else clampE l h e
      | none => .cl i l h

def envN (ρ : Env) (σ : List E) (nm : List (Nat × E)) : Env :=
  ⟨fun j => match Nat.blt j 1000 with
    | true => (σ.getD j (.c 0)).ev ρ
    | false => match lookN nm j with
      | some e => e.ev ρ
      | none => ρ.i j, ρ.f, ρ.v⟩

theorem E.subN_ev {cx : Cx} {ρ : Env} (hρ : EnvOk cx ρ) (σ : List E) (nm : List (Nat × E)) (e : E) : (e.subN cx σ nm).ev ρ = e.ev (envN ρ σ nm) := by
  induction e with
  | c n => rfl
  | v i =>
    simp only [E.subN, E.ev, envN]
    split
    · rfl
    · split <;> rfl
  | b o k x y hx hy => simp only [E.subN, E.b'_ev hρ, hx, hy]; rfl
  | w k x hx => simp only [E.subN, E.w'_ev hρ, hx]; rfl
  | nt x hx => simp only [E.subN, E.nt'_ev, hx]; rfl
  | ite t x y ht hx hy => simp only [E.subN, E.ite'_ev, ht, hx, hy]; rfl
  | f n x y z hx hy hz => simp only [E.subN, E.f'_ev hρ, hx, hy, hz]; rfl
  | cl i l h =>
    simp only [E.subN, E.ev, envN]
    split
    · rw [clampE_ev]
    · split
      · split
        · rename_i hi
          obtain ⟨a, b⟩ := ivIn_ok hi (E.iv_ok hρ _)
          rw [clampZ_in a b]
        · rw [clampE_ev]
      · rfl

mutual
def SV.subN (cx : Cx) (σ : List E) (nm : List (Nat × E)) : SV → SV
  | .int k e => .int k (e.subN cx σ nm)
  | .bool e => .bool (e.subN cx σ nm)
  | .agg l => .agg (SV.subNL cx σ nm l)
  | .tup l => .tup (SV.subNL cx σ nm l)
  | x => x
def SV.subNL (cx : Cx) (σ : List E) (nm : List (Nat × E)) : List SV → List SV
  | [] => []
  | x :: l => x.subN cx σ nm :: SV.subNL cx σ nm l
end
mutual
theorem SV.subN_den {cx : Cx} {ρ ρ' : Env} (hρ : EnvOk cx ρ) (β β' : Nat → Nat × Nat) (σ : List E) (nm : List (Nat × E)) (he : ∀ e : E, e.ev ρ' = e.ev (envN ρ σ nm)) : ∀ (x : SV), x.nums = true → (x.subN cx σ nm).den ρ β = x.den ρ' β'
  | .int k e, _ => by simp only [SV.subN, SV.den, E.subN_ev hρ, he]
  | .bool e, _ => by simp only [SV.subN, SV.den, E.subN_ev hρ, he]
  | .agg l, h => by simp only [SV.nums] at h; simp only [SV.subN, SV.den, SV.subNL_den hρ β β' σ nm he l h]
  | .tup l, h => by simp only [SV.nums] at h; simp only [SV.subN, SV.den, SV.subNL_den hρ β β' σ nm he l h]
  | .ptr _ _, h | .lit _, h | .any _, h | .slice _ _ _ _, h | .func _ _ _, h | .iface _ _, h => by cases h
theorem SV.subNL_den {cx : Cx} {ρ ρ' : Env} (hρ : EnvOk cx ρ) (β β' : Nat → Nat × Nat) (σ : List E) (nm : List (Nat × E)) (he : ∀ e : E, e.ev ρ' = e.ev (envN ρ σ nm)) : ∀ (l : List SV), SV.numsL l = true → SV.denL ρ β (SV.subNL cx σ nm l) = SV.denL ρ' β' l
  | [], _ => rfl
  | x :: l, h => by
    simp only [SV.numsL, Bool.and_eq_true] at h
    simp only [SV.subNL, SV.denL, SV.subN_den hρ β β' σ nm he x h.1, SV.subNL_den hρ β β' σ nm he l h.2]
end

/-- a summary, filled in -/
def T.inst (cx : Cx) (σ : List E) : List (Nat × E) → T SV → St → R
  | nm, .leaf v, s => .leaf (v.subN cx σ nm, s)
  | nm, .br e t f, s => fork s (e.subN cx σ nm) (fun s => T.inst cx σ nm t s) (fun s => T.inst cx σ nm f s)
  | nm, .new i e t, s => shareE cx (e.subN cx σ nm) s fun e' s => T.inst cx σ ((i, e') :: nm) t s
  | _, .bad n, _ => .bad n

/-- each name of a summary is new, from 1000 on; numbers alone come of it -/
def T.fineV : Nat → T SV → Bool
  | _, .leaf v => v.nums && v.sc 0
  | n, .br e t f => e.vb n && T.fineV n t && T.fineV n f
  | _, .bad _ => true
  | n, .new i e t => Nat.ble n i && e.vb i && T.fineV (i + 1) t

def keysB (n : Nat) (nm : List (Nat × E)) : Prop := ∀ p ∈ nm, p.1 < n

theorem lookN_none {n : Nat} : ∀ {nm : List (Nat × E)}, keysB n nm → ∀ j, n ≤ j → lookN nm j = none
  | [], _, _, _ => rfl
  | (i, e) :: l, hk, j, hj => by
    have h1 : i < n := hk (i, e) List.mem_cons_self
    simp only [lookN]
    have h2 : Nat.beq i j = false := by
      cases hb : Nat.beq i j with
      | false => rfl
      | true => have := Nat.eq_of_beq_eq_true hb; omega
    rw [h2]
    exact lookN_none (fun p hp => hk p (List.mem_cons_of_mem _ hp)) j hj

theorem inst_ok {cx : Cx} {ρ : Env} (hρ : EnvOk cx ρ) {β : Nat → Nat × Nat} {w : World} (σ : List E) {v : SV} {s' : St} : ∀ (t : T SV) (nm : List (Nat × E)) (n : Nat) (s : St), 1000 ≤ n → keysB n nm → T.fineV n t = true → Sat ρ β s w →
    (T.inst cx σ nm t s).sel ρ = some (v, s') →
    Sat ρ β s' w ∧ s'.bl = s.bl ∧ ∃ (ρ' : Env) (v0 : SV), (∀ j, j < n → ρ'.i j = (envN ρ σ nm).i j) ∧ ρ'.f = ρ.f ∧ ρ'.v = ρ.v ∧ t.sel ρ' = some v0 ∧ v0.nums = true ∧ v0.sc 0 = true ∧ v.den ρ β = v0.den ρ' (fun _ => (0, 0))
  | .leaf u, nm, n, s, hn, hk, hf, hs, h => by
    cases h
    simp only [T.fineV, Bool.and_eq_true] at hf
    exact ⟨hs, rfl, envN ρ σ nm, u, fun _ _ => rfl, rfl, rfl, rfl, hf.1, hf.2, SV.subN_den hρ β _ σ nm (fun _ => rfl) u hf.1⟩
  | .br e t f, nm, n, s, hn, hk, hf, hs, h => by
    simp only [T.fineV, Bool.and_eq_true] at hf
    simp only [T.inst] at h
    obtain ⟨s1, e1, hs1, ⟨hne, h⟩ | ⟨h0, h⟩⟩ := fork_ok hs h
    · obtain ⟨g1, g2, ρ', v0, a1, a2, a3, a4, a5⟩ := inst_ok hρ σ t nm n s1 hn hk hf.1.2 hs1 h
      refine ⟨g1, g2.trans e1, ρ', v0, a1, a2, a3, ?_, a5⟩
      rw [E.subN_ev hρ] at hne
      simp only [T.sel, E.vb_ev a1 a2 e hf.1.1, a4]
      rw [if_pos hne]
    · obtain ⟨g1, g2, ρ', v0, a1, a2, a3, a4, a5⟩ := inst_ok hρ σ f nm n s1 hn hk hf.2 hs1 h
      refine ⟨g1, g2.trans e1, ρ', v0, a1, a2, a3, ?_, a5⟩
      rw [E.subN_ev hρ] at h0
      simp only [T.sel, E.vb_ev a1 a2 e hf.1.1, a4, h0]
      simp
  | .new i e t, nm, n, s, hn, hk, hf, hs, h => by
    simp only [T.fineV, Bool.and_eq_true] at hf
    simp only [T.inst] at h
    have hni : n ≤ i := Nat.le_of_ble_eq_true hf.1.1
    obtain ⟨e', s1, he', hb1, hs1, h1⟩ := shareE_ok hρ hs h
    have hk' : keysB (i + 1) ((i, e') :: nm) := by
      intro p hp
      rcases List.mem_cons.1 hp with rfl | hp
      · simp
      · have := hk p hp; omega
    obtain ⟨g1, g2, ρ', v0, a1, a2, a3, a4, a5⟩ := inst_ok hρ σ t ((i, e') :: nm) (i + 1) s1 (by omega) hk' hf.2 hs1 h1
    have hlow : ∀ j, j < i → (envN ρ σ ((i, e') :: nm)).i j = (envN ρ σ nm).i j := by
      intro j hj
      simp only [envN]
      split
      · rfl
      · have : Nat.beq i j = false := by
          cases hb : Nat.beq i j with
          | false => rfl
          | true => have := Nat.eq_of_beq_eq_true hb; omega
        simp only [lookN, this]
    have a1' : ∀ j, j < i → ρ'.i j = (envN ρ σ nm).i j := fun j hj => (a1 j (by omega)).trans (hlow j hj)
    refine ⟨g1, g2.trans hb1, ρ', v0, fun j hj => a1' j (by omega), a2, a3, ?_, a5⟩
    have hi : ρ'.i i = e.ev ρ' := by
      rw [a1 i (by omega), E.vb_ev a1' a2 e hf.1.2, ← E.subN_ev hρ, ← he']
      simp only [envN]
      have h1000 : Nat.blt i 1000 = false := by
        cases hb : Nat.blt i 1000 with
        | false => rfl
        | true => have : i < 1000 := by simpa using hb
                  omega
      have hb : Nat.beq i i = true := Nat.beq_refl i
      simp only [h1000, lookN, hb]
    simp only [T.sel, hi, if_true, a4]
  | .bad m, nm, n, s, hn, hk, hf, hs, h => by cases h

/-! ### what a tree hangs on -/

theorem E.ev_if {ρ ρ' : Env} (hi : ρ'.i = ρ.i) (hf : ρ'.f = ρ.f) (e : E) : e.ev ρ' = e.ev ρ := by
  induction e with
  | c n => rfl
  | v i => simp only [E.ev, hi]
  | b o k x y hx hy => simp only [E.ev, hx, hy]
  | w k x hx => simp only [E.ev, hx]
  | nt x hx => simp only [E.ev, hx]
  | ite t x y ht hx hy => simp only [E.ev, ht, hx, hy]
  | f n x y z hx hy hz => simp only [E.ev, hx, hy, hz, hf]
  | cl i l h => simp only [E.ev, hi]
theorem sel_v {ρ ρ' : Env} (hi : ρ'.i = ρ.i) (hf : ρ'.f = ρ.f) {α : Type} (t : T α) : t.sel ρ' = t.sel ρ := by
  induction t with
  | leaf a => rfl
  | br e t f ht hf' => simp only [T.sel, E.ev_if hi hf, ht, hf']
  | bad n => rfl
  | new i e t ht => simp only [T.sel, E.ev_if hi hf, ht, hi]
mutual
theorem nums_v {ρ ρ' : Env} (hi : ρ'.i = ρ.i) (hf : ρ'.f = ρ.f) (β : Nat → Nat × Nat) : ∀ (x : SV), x.nums = true → x.den ρ' β = x.den ρ β
  | .int k e, _ => by simp only [SV.den, E.ev_if hi hf]
  | .bool e, _ => by simp only [SV.den, E.ev_if hi hf]
  | .agg l, h => by simp only [SV.nums] at h; simp only [SV.den, numsL_v hi hf β l h]
  | .tup l, h => by simp only [SV.nums] at h; simp only [SV.den, numsL_v hi hf β l h]
  | .ptr _ _, h | .lit _, h | .any _, h | .slice _ _ _ _, h | .func _ _ _, h | .iface _ _, h => by cases h
theorem numsL_v {ρ ρ' : Env} (hi : ρ'.i = ρ.i) (hf : ρ'.f = ρ.f) (β : Nat → Nat × Nat) : ∀ (l : List SV), SV.numsL l = true → SV.denL ρ' β l = SV.denL ρ β l
  | [], _ => rfl
  | x :: l, h => by
    simp only [SV.numsL, Bool.and_eq_true] at h
    simp only [SV.denL, nums_v hi hf β x h.1, numsL_v hi hf β l h.2]
end

/-! ### a list of summaries -/

structure Sm where
  f : FuncId
  rc : Option TypeId
  ps : List SV
  t : T SV

def TreeOk (cx : Cx) (m : Sm) : Prop :=
  ∀ (ρ : Env) (w : World) (v : SV), EnvOk { cx with Γ := SV.bdsL m.ps } ρ → m.t.sel ρ = some v →
    Calls cx.P m.f (SV.denL ρ (fun _ => (0, 0)) (tArgs m.rc m.ps)).toArray w fun e w' => e = .returned (v.den ρ (fun _ => (0, 0))) ∧ Below w.heap.size w w'

def Sm.ok (m : Sm) : Bool := SV.linL 0 m.ps && Nat.ble (SV.bdsL m.ps).length 1000 && T.fineV 1000 m.t

def gS (cx : Cx) (m : Sm) (args : List SV) (s : St) : Option R :=
  match m.rc, args with
  | none, args => (SV.mtL cx m.ps args).map fun σ => T.inst cx σ [] m.t s
  | some t, r :: args => if isRecv t r then (SV.mtL cx m.ps args).map fun σ => T.inst cx σ [] m.t s else none
  | some _, [] => none

def smS (cx : Cx) : List Sm → SM
  | [], _, _, _ => none
  | m :: l, f, args, s => match Nat.beq f m.f with
    | true => (match gS cx m args s with
      | some r => some r
      | none => smS cx l f args s)
    | false => smS cx l f args s

def SmsOk (cx : Cx) (l : List Sm) : Prop := ∀ m, m ∈ l → m.ok = true ∧ TreeOk cx m

theorem gS_ok {cx : Cx} {m : Sm} (ho : m.ok = true) (h : TreeOk cx m) (ρ : Env) (β : Nat → Nat × Nat) (s s' : St) (w : World) (args : List SV) (r : R) (v : SV) (hρ : EnvOk cx ρ) (hs : Sat ρ β s w)
    (hg : gS cx m args s = some r) (hr : r.sel ρ = some (v, s')) :
    Calls cx.P m.f (SV.denL ρ β args).toArray w fun e w' => ∃ β', e = .returned (v.den ρ β') ∧ Sat ρ β' s' w' ∧ Ext s s' β β' w w' := by
  simp only [Sm.ok, Bool.and_eq_true] at ho
  obtain ⟨⟨hl, hlen⟩, hfine⟩ := ho
  have hlen := Nat.le_of_ble_eq_true hlen
  have main : ∀ (a : Addr) (xs : List SV) (σ : List E), SV.mtL cx m.ps xs = some σ → (T.inst cx σ [] m.t s).sel ρ = some (v, s') →
      Sat ρ β s' w ∧ s'.bl = s.bl ∧ ∃ (ρ' : Env) (v0 : SV), EnvOk { cx with Γ := SV.bdsL m.ps } ρ' ∧ ρ'.v = (fun _ => .pointer (some a)) ∧ SV.denL ρ' (fun _ => (0, 0)) m.ps = SV.denL ρ β xs ∧ m.t.sel ρ' = some v0 ∧ v.den ρ β = v0.den ρ' (fun _ => (0, 0)) := by
    intro a xs σ hm hsel
    obtain ⟨g1, g2, ρ', v0, a1, a2, a3, a4, a5, a6, a7⟩ := inst_ok hρ σ m.t [] 1000 s (Nat.le_refl _) (fun p hp => by cases hp) hfine hs hsel
    have hi : ∀ j, j < 1000 → ρ'.i j = (σ.getD j (.c 0)).ev ρ := fun j hj => by
      rw [a1 j hj]
      have : Nat.blt j 1000 = true := by simpa using hj
      simp only [envN, this]
    obtain ⟨hb1, hb2⟩ := SV.mtL_bd hρ m.ps xs hm
    refine ⟨g1, g2, ⟨ρ'.i, ρ'.f, fun _ => .pointer (some a)⟩, v0, ⟨fun i p hp => ?_, fun n p x y z hp => by simp only [a2]; exact hρ.hf n p x y z hp, fun _ => ⟨a, rfl⟩, by simp only [a2]; exact hρ.hF⟩, rfl, ?_, ?_, ?_⟩
    · have hip : i < (SV.bdsL m.ps).length := (List.getElem?_eq_some_iff.1 hp).1
      simp only [hi i (by omega)]
      exact hb2 i p hp
    · refine SV.mtL_den hρ β _ m.ps xs 0 hm hl fun j e he => ?_
      have hj : j < σ.length := (List.getElem?_eq_some_iff.1 he).1
      simp only [Nat.zero_add, hi j (by omega), List.getD_eq_getElem?_getD, he, Option.getD_some]
    · rw [← a4]
      exact sel_v (ρ := ρ') (ρ' := ⟨ρ'.i, ρ'.f, fun _ => .pointer (some a)⟩) rfl rfl m.t
    · rw [a7]
      exact (nums_v (ρ := ρ') (ρ' := ⟨ρ'.i, ρ'.f, fun _ => .pointer (some a)⟩) rfl rfl _ v0 a5).symm
  have same : ∀ w', Sat ρ β s' w → Below w.heap.size w w' → s'.bl = s.bl → Sat ρ β s' w' ∧ Ext s s' β β w w' := fun w' g hb e => ⟨sat_below g hb, (ext_below hb).trans (ext_kn e β w')⟩
  unfold gS at hg
  split at hg
  · rename_i hrc
    obtain ⟨σ, hm, rfl⟩ := Option.map_eq_some_iff.1 hg
    obtain ⟨g1, g2, ρ', v0, b1, b2, b3, b4, b5⟩ := main ⟨0, 0, .none⟩ _ σ hm hr
    have := h ρ' w v0 b1 b4
    simp only [hrc, tArgs, b3] at this
    refine this.mono ?_
    rintro e w' ⟨rfl, hb⟩
    obtain ⟨c1, c2⟩ := same w' g1 hb g2
    exact ⟨β, by rw [b5], c1, c2⟩
  · rename_i t r0 xs hrc
    split at hg
    · rename_i hrv
      obtain ⟨σ, hm, rfl⟩ := Option.map_eq_some_iff.1 hg
      obtain ⟨a, ha⟩ := isRecv_den hρ β (fun _ => (0, 0)) hrv
      obtain ⟨g1, g2, ρ', v0, b1, b2, b3, b4, b5⟩ := main a xs σ hm hr
      have := h ρ' w v0 b1 b4
      simp only [hrc, tArgs, SV.denL, b3] at this
      rw [recvS_den t ⟨ρ.i, ρ.f, fun _ => .pointer (some a)⟩ ρ' b2 (fun _ => (0, 0))] at this
      simp only [SV.denL, ha]
      refine this.mono ?_
      rintro e w' ⟨rfl, hb⟩
      obtain ⟨c1, c2⟩ := same w' g1 hb g2
      exact ⟨β, by rw [b5], c1, c2⟩
    · cases hg
  · cases hg

theorem smS_ok {cx : Cx} : ∀ {l : List Sm}, SmsOk cx l → SmOk cx (smS cx l)
  | [], _ => fun ρ β s s' w f args r v _ _ h _ => by cases h
  | m :: l, hl => by
    have ih : SmOk cx (smS cx l) := smS_ok fun m hm => hl m (List.mem_cons_of_mem _ hm)
    intro ρ β s s' w f args r v hρ hs h hsel
    simp only [smS] at h
    split at h
    · rename_i hf
      have hf' : f = m.f := Nat.eq_of_beq_eq_true hf
      subst hf'
      split at h
      · rename_i r1 hg
        cases h
        obtain ⟨ho, ht⟩ := hl m List.mem_cons_self
        exact gS_ok ho ht ρ β s s' w args r v hρ hs hg hsel
      · exact ih ρ β s s' w m.f args r v hρ hs h hsel
    · exact ih ρ β s s' w f args r v hρ hs h hsel

/-- two ways of being told -/
def smOr (a b : SM) : SM := fun f args s => match a f args s with
  | some r => some r
  | none => b f args s
theorem smOr_ok {cx : Cx} {a b : SM} (ha : SmOk cx a) (hb : SmOk cx b) : SmOk cx (smOr a b) := by
  intro ρ β s s' w f args r v hρ hs h hsel
  simp only [smOr] at h
  split at h
  · rename_i r1 h1
    cases h
    exact ha ρ β s s' w f args r v hρ hs h1 hsel
  · exact hb ρ β s s' w f args r v hρ hs h hsel

theorem sms_nil (cx : Cx) : SmsOk cx [] := fun _ h => by cases h
theorem sms_cons {cx : Cx} {m : Sm} {l : List Sm} (ho : m.ok = true) (h : TreeOk cx m) (hl : SmsOk cx l) : SmsOk cx (m :: l) := by
  intro u hu
  rcases List.mem_cons.1 hu with rfl | hu
  · exact ⟨ho, h⟩
  · exact hl u hu
theorem sms_app {cx : Cx} {l m : List Sm} (hl : SmsOk cx l) (hm : SmsOk cx m) : SmsOk cx (l ++ m) := by
  intro u hu
  rcases List.mem_append.1 hu with hu | hu
  · exact hl u hu
  · exact hm u hu

/-- a run's tree is a summary -/
def sameT : R → T SV → Bool
  | .leaf (v, _), .leaf u => v.sc 0 && v.beq u
  | .br e t f, .br e' t' f' => e.beq e' && sameT t t' && sameT f f'
  | .bad _, .bad _ => true
  | .new i e t, .new i' e' t' => Nat.beq i i' && e.beq e' && sameT t t'
  | _, _ => false
theorem sameT_sel {ρ : Env} {v : SV} : ∀ {r : R} {t : T SV}, sameT r t = true → t.sel ρ = some v → ∃ s', r.sel ρ = some (v, s') ∧ v.sc 0 = true
  | .leaf (u, s'), .leaf u', h, hs => by
    simp only [sameT, Bool.and_eq_true] at h
    have := SV.eq_of_beq _ _ h.2
    subst this
    cases hs
    exact ⟨s', rfl, h.1⟩
  | .br e t f, .br e' t' f', h, hs => by
    simp only [sameT, Bool.and_eq_true] at h
    have := E.eq_of_beq h.1.1
    subst this
    simp only [T.sel] at hs ⊢
    split at hs
    · rename_i hc; rw [if_pos hc]; exact sameT_sel h.1.2 hs
    · rename_i hc; rw [if_neg hc]; exact sameT_sel h.2 hs
  | .new i e t, .new i' e' t', h, hs => by
    simp only [sameT, Bool.and_eq_true] at h
    have h1 := Nat.eq_of_beq_eq_true h.1.1
    have h2 := E.eq_of_beq h.1.2
    subst h1; subst h2
    simp only [T.sel] at hs ⊢
    split at hs
    · rename_i hc; rw [if_pos hc]; exact sameT_sel h.2 hs
    · cases hs
  | .bad _, .bad _, _, hs => by cases hs
  | .leaf _, .br _ _ _, h, _ | .leaf _, .bad _, h, _ | .leaf _, .new _ _ _, h, _ | .br _ _ _, .leaf _, h, _ | .br _ _ _, .bad _, h, _ | .br _ _ _, .new _ _ _, h, _
  | .bad _, .leaf _, h, _ | .bad _, .br _ _ _, h, _ | .bad _, .new _ _ _, h, _ | .new _ _ _, .leaf _, h, _ | .new _ _ _, .br _ _ _, h, _ | .new _ _ _, .bad _, h, _ => by simp [sameT] at h

theorem tree_run {cx : Cx} {m : Sm} {cf : CF} (hcf : CallOk { cx with Γ := SV.bdsL m.ps } cf) (h : sameT (cf m.f (tArgs m.rc m.ps) ⟨[], []⟩) m.t = true) : TreeOk cx m := by
  intro ρ w v hρ hv
  obtain ⟨s', hsel, hsc⟩ := sameT_sel h hv
  refine (hcf ρ _ _ _ w m.f _ _ hρ (sat_nil ρ (fun _ => (0, 0)) w) hsel).mono ?_
  rintro x w' ⟨β', rfl, _, hx⟩
  refine ⟨?_, below_ext rfl hx⟩
  rw [SV.den_sc (n := 0) (fun j hj => by omega) v hsc]

/-! ### the tables of all regions -/

abbrev RowT := BT (BT (List Row))
def rtsB (t : RowT) : RTS := fun f => match t.find f with
  | some v => fun id => v.find id
  | none => fun _ => none
def chkF (fn : Func) (v : BT (List Row)) : Bool := match fn.body with
  | some c => rtChk (fun id => v.find id) c
  | none => true
def RowAt (P : Program) (f : FuncId) (v : BT (List Row)) : Prop := ∀ fn c, P.funcs[f]? = some fn → fn.body = some c → RtOk (fun id => v.find id) c
theorem rowAt_of {P : Program} {f : FuncId} {fn : Func} {v : BT (List Row)} (hf : P.funcs[f]? = some fn) (h : chkF fn v = true) : RowAt P f v := by
  intro fn' c h1 h2
  rw [hf] at h1
  cases h1
  simp only [chkF, h2] at h
  exact rtChk_ok h
theorem rtsB_ok {P : Program} {t : RowT} (h : t.All (RowAt P)) : RtsOk P (rtsB t) := by
  intro f fn c h1 h2
  unfold rtsB
  cases ht : t.find f with
  | none => exact fun id ops _ u hu => by cases hu
  | some v => exact BT.find_all h ht fn c h1 h2

end Go.Eng
