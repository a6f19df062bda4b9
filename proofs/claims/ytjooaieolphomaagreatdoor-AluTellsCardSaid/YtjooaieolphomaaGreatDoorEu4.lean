/-
  Several parts in one file: the engine, or its laws.
-/
import Derived.Test.YtjooaieolphomaaGreatDoorEu3
import Derived.Below
import Derived.ChangeSame
import Derived.Lib.BitFns
import Derived.OpenShut
import Derived.Lib.LaidTab

/-! A symbolic executor, part TF: what is to be shown of a tree with loops, so that it selects an answer that is right. -/
section
set_option linter.unusedVariables false
set_option linter.unusedSimpArgs false
set_option linter.unusedSectionVars false
namespace Go.Eng

theorem okB_mono {cx : Cx} {n m : Nat} (h : n ≤ m) (hn : cx.okB n = true) : cx.okB m = true := by
  unfold Cx.okB at *
  simp only [Bool.and_eq_true] at hn ⊢
  have := Nat.le_of_ble_eq_true hn.1
  refine ⟨Nat.ble_eq_true_of_le (by omega), List.all_eq_true.2 fun d hd => ?_⟩
  have := List.all_eq_true.1 hn.2 d hd
  simp only [Bool.and_eq_true] at this ⊢
  exact ⟨⟨E.vb_mono h _ this.1.1, E.vb_mono h _ this.1.2⟩, E.vb_mono h _ this.2⟩

def Env.set (ρ : Env) (i : Nat) (y : Int) : Env := { ρ with i := fun j => if j = i then y else ρ.i j }
def Env.setL (ρ : Env) (b : Nat) : List Int → Env
  | [] => ρ
  | x :: l => (ρ.set b x).setL (b + 1) l

theorem setL_get : ∀ (l : List Int) (ρ : Env) (b j : Nat), (ρ.setL b l).i j = if b ≤ j ∧ j < b + l.length then l.getD (j - b) 0 else ρ.i j
  | [], ρ, b, j => by simp [Env.setL]; omega
  | x :: l, ρ, b, j => by
    simp only [Env.setL, setL_get l, List.length_cons]
    by_cases h1 : b + 1 ≤ j ∧ j < b + 1 + l.length
    · rw [if_pos h1, if_pos (by omega), show j - b = (j - (b + 1)) + 1 by omega, List.getD_cons_succ]
    · rw [if_neg h1]
      by_cases h2 : j = b
      · subst h2; simp [Env.set]
      · rw [if_neg (by omega)]; simp [Env.set, h2]
theorem setL_f : ∀ (l : List Int) (ρ : Env) (b : Nat), (ρ.setL b l).f = ρ.f ∧ (ρ.setL b l).v = ρ.v ∧ (ρ.setL b l).ro = ρ.ro
  | [], _, _ => ⟨rfl, rfl, rfl⟩
  | x :: l, ρ, b => setL_f l (ρ.set b x) (b + 1)
theorem setL_agn (ρ : Env) (b : Nat) (l : List Int) : Agn b ρ (ρ.setL b l) :=
  ⟨fun j hj => by rw [setL_get, if_neg (by omega)], (setL_f l ρ b).1, (setL_f l ρ b).2.1, (setL_f l ρ b).2.2⟩
theorem set_agn (ρ : Env) (b : Nat) (x : Int) : Agn b ρ (ρ.set b x) := ⟨fun j hj => by simp [Env.set]; omega, rfl, rfl, rfl⟩

/-- a round holds: J is asked of what comes back to the head, R of the way out -/
def TB.hd (J : List Int → Prop) (R : Nat → Env → Prop) : TB → Env → Prop
  | .back l, ρ => J (l.map (E.ev ρ))
  | .exit n, ρ => R n ρ
  | .br e t f, ρ => (e.ev ρ ≠ 0 → t.hd J R ρ) ∧ (e.ev ρ = 0 → f.hd J R ρ)
  | .bad _, _ => False
  | .new i e t, ρ => t.hd J R (ρ.set i (e.ev ρ))
  | .loop L b r, ρ => ∃ I : List Int → Nat → Prop, (∃ m, I (L.init.map (E.ev ρ)) m) ∧
      ∀ σ m, σ.length = L.bds.length → inBd L.bds σ → I σ m → b.hd (fun σ' => ∃ m', m' < m ∧ I σ' m') (fun n ρ' => r.hd J R (ρ'.set L.xid n)) (ρ.setL L.base σ)

def TT.hd {α : Type} (Q : α → Env → Prop) : TT α → Env → Prop
  | .leaf a, ρ => Q a ρ
  | .br e t f, ρ => (e.ev ρ ≠ 0 → t.hd Q ρ) ∧ (e.ev ρ = 0 → f.hd Q ρ)
  | .bad _, _ => False
  | .new i e t, ρ => t.hd Q (ρ.set i (e.ev ρ))
  | .loop L b r, ρ => ∃ I : List Int → Nat → Prop, (∃ m, I (L.init.map (E.ev ρ)) m) ∧
      ∀ σ m, σ.length = L.bds.length → inBd L.bds σ → I σ m → b.hd (fun σ' => ∃ m', m' < m ∧ I σ' m') (fun n ρ' => r.hd Q (ρ'.set L.xid n)) (ρ.setL L.base σ)

/-! ### what is asked of a tree's names -/

/-- the bounds hold of what comes to a head: by the expressions' own bounds, or by what is known on the way -/
def inPath (path : List E) (e : E) : Bool := match e with
  | .c n => n != 0
  | e => path.any (·.beq e)
theorem inPath_ok {ρ : Env} {path : List E} (hp : ∀ e ∈ path, e.ev ρ ≠ 0) {e : E} (h : inPath path e = true) : e.ev ρ ≠ 0 := by
  unfold inPath at h
  split at h
  · simpa [E.ev] using h
  · obtain ⟨x, hx, hb⟩ := List.any_eq_true.1 h
    have := E.eq_of_beq hb
    subst this
    exact hp _ hx

def bdsOk (cx : Cx) (path : List E) : List (Option (Int × Int)) → List E → Bool
  | [], [] => true
  | none :: l, _ :: m => bdsOk cx path l m
  | some p :: l, e :: m => (ivIn (e.iv cx) p.1 p.2 || (inPath path (leE cx (.c p.1) e) && inPath path (leE cx e (.c p.2)))
      || (match e with
        | .c n => decide (p.1 ≤ n) && decide (n ≤ p.2)
        | _ => false)) && bdsOk cx path l m
  | _, _ => false

theorem bdsOk_ok {cx : Cx} {ρ : Env} (hρ : EnvOk cx ρ) {path : List E} (hp : ∀ e ∈ path, e.ev ρ ≠ 0) : ∀ {l : List (Option (Int × Int))} {m : List E}, bdsOk cx path l m = true → inBd l (m.map (E.ev ρ))
  | [], [], _ => trivial
  | none :: l, e :: m, h => ⟨trivial, bdsOk_ok hρ hp h⟩
  | some p :: l, e :: m, h => by
    simp only [bdsOk, Bool.and_eq_true, Bool.or_eq_true] at h
    refine ⟨?_, bdsOk_ok hρ hp h.2⟩
    rcases h.1 with (h1 | ⟨h1, h2⟩) | h1
    · exact ivIn_ok h1 (E.iv_ok hρ e)
    · exact ⟨leE_ne hρ (inPath_ok hp h1), leE_ne hρ (inPath_ok hp h2)⟩
    · split at h1
      · simp only [Bool.and_eq_true, decide_eq_true_eq] at h1
        exact h1
      · cases h1
  | [], _ :: _, h => by cases h
  | none :: _, [], h => by cases h
  | some _ :: _, [], h => by cases h

/-- names rise, from n on, below x; what comes to the head has its bounds -/
def TB.fine (cx : Cx) (bds : List (Option (Int × Int))) (x : Nat) : Nat → List E → TB → Bool
  | n, path, .back l => l.all (·.vb n) && bdsOk cx path bds l
  | _, _, .exit _ => true
  | n, path, .br e t f => e.vb n && TB.fine cx bds x n (e :: path) t && TB.fine cx bds x n path f
  | _, _, .bad _ => true
  | n, path, .new i e t => Nat.ble n i && Nat.blt i x && e.vb i && TB.fine cx bds x (i + 1) path t
  | n, path, .loop L b r => Nat.ble n L.base && cx.okB L.base && L.init.all (·.vb n) && bdsOk cx path L.bds L.init && Nat.ble (L.base + L.bds.length) L.xid && Nat.blt L.xid x &&
      TB.fine cx L.bds L.xid (L.base + L.bds.length) path b && TB.fine cx bds x (L.xid + 1) path r

def TT.fine {α : Type} (cx : Cx) : Nat → List E → TT α → Bool
  | _, _, .leaf _ => true
  | n, path, .br e t f => e.vb n && TT.fine cx n (e :: path) t && TT.fine cx n path f
  | _, _, .bad _ => true
  | n, path, .new i e t => Nat.ble n i && e.vb i && cx.okB i && TT.fine cx (i + 1) path t
  | n, path, .loop L b r => Nat.ble n L.base && cx.okB L.base && L.init.all (·.vb n) && bdsOk cx path L.bds L.init && Nat.ble (L.base + L.bds.length) L.xid &&
      TB.fine cx L.bds L.xid (L.base + L.bds.length) path b && TT.fine cx (L.xid + 1) path r

theorem map_agn {n : Nat} {ρ ρ' : Env} (ha : Agn n ρ ρ') {l : List E} (h : l.all (·.vb n) = true) : l.map (E.ev ρ') = l.map (E.ev ρ) :=
  List.map_congr_left fun e he => E.vb_ev ha e (List.all_eq_true.1 h e he)
theorem vb_all_mono {n m : Nat} (hm : n ≤ m) {l : List E} (h : l.all (·.vb n) = true) : l.all (·.vb m) = true :=
  List.all_eq_true.2 fun e he => E.vb_mono hm e (List.all_eq_true.1 h e he)
theorem vals_agn {L : Lp} {x : Nat} {ρ ρ' : Env} (ha : Agn x ρ ρ') (h : L.base + L.bds.length ≤ x) : L.vals ρ' = L.vals ρ := by
  unfold Lp.vals
  refine List.map_congr_left fun k hk => ha.i _ ?_
  have := List.mem_range.1 hk
  omega

/-- what a round selects hangs on the names below x alone -/
theorem TB.sel_agn {cx : Cx} {bds : List (Option (Int × Int))} {x : Nat} : ∀ {t : TB} {n : Nat} {path : List E} {ρ ρ' : Env} {r : List Int ⊕ Nat}, t.fine cx bds x n path = true → n ≤ x → Agn x ρ ρ' → t.sel ρ = some r → t.sel ρ' = some r
  | .back l, n, path, ρ, ρ', r, hf, hn, ha, h => by
    simp only [TB.fine, Bool.and_eq_true] at hf
    simp only [TB.sel] at h ⊢
    rw [map_agn ha (vb_all_mono hn hf.1)]; exact h
  | .exit k, n, path, ρ, ρ', r, hf, hn, ha, h => h
  | .br e t f, n, path, ρ, ρ', r, hf, hn, ha, h => by
    simp only [TB.fine, Bool.and_eq_true] at hf
    simp only [TB.sel] at h ⊢
    rw [E.vb_ev ha e (E.vb_mono hn e hf.1.1)]
    split at h
    · rename_i hc; rw [if_pos hc]; exact TB.sel_agn hf.1.2 hn ha h
    · rename_i hc; rw [if_neg hc]; exact TB.sel_agn hf.2 hn ha h
  | .bad _, n, path, ρ, ρ', r, hf, hn, ha, h => h
  | .new i e t, n, path, ρ, ρ', r, hf, hn, ha, h => by
    simp only [TB.fine, Bool.and_eq_true, Nat.blt_eq] at hf
    have hi := hf.1.1.2
    simp only [TB.sel] at h ⊢
    rw [E.vb_ev ha e (E.vb_mono (by omega) e hf.1.2), ha.i i hi]
    split at h
    · rename_i hc; rw [if_pos hc]; exact TB.sel_agn hf.2 (by omega) ha h
    · cases h
  | .loop L b t, n, path, ρ, ρ', r, hf, hn, ha, h => by
    simp only [TB.fine, Bool.and_eq_true, Nat.blt_eq] at hf
    obtain ⟨⟨⟨⟨⟨⟨⟨h1, h2⟩, h3⟩, h4⟩, h5⟩, h6⟩, h7⟩, h8⟩ := hf
    have h1 := Nat.le_of_ble_eq_true h1
    have h5 := Nat.le_of_ble_eq_true h5
    simp only [TB.sel] at h ⊢
    split at h
    · rename_i hc
      rw [map_agn ha (vb_all_mono hn h3)]
      have key : ∀ σ, Chain (fun ρ' => b.sel ρ') L ρ σ → Chain (fun ρ' => b.sel ρ') L ρ' σ := by
        intro σ hch
        induction hch with
        | @last k hs hx =>
          have hv : L.vals ρ' = L.vals ρ := vals_agn ha (by omega)
          rw [← hv]
          exact .last (TB.sel_agn h7 h5 (ha.mono (by omega)) hs) (by rw [ha.i _ h6]; exact hx)
        | @step σ' ρ1 hag hs _ ih => exact .step ρ1 (((ha.mono (by omega : L.base ≤ x)).symm).trans hag) hs ih
      rw [if_pos (key _ hc)]
      exact TB.sel_agn h8 (by omega) ha h
    · cases h

/-! ### what holds selects -/

theorem vals_setL (ρ : Env) (L : Lp) {σ : List Int} (h : σ.length = L.bds.length) : L.vals (ρ.setL L.base σ) = σ := by
  apply List.ext_getElem?
  intro k
  unfold Lp.vals
  rw [List.getElem?_map]
  by_cases hk : k < L.bds.length
  · rw [List.getElem?_range hk, Option.map_some, setL_get, if_pos (by omega), Nat.add_sub_cancel_left, List.getD_eq_getElem?_getD, List.getElem?_eq_getElem (by omega)]
    rfl
  · rw [List.getElem?_eq_none (by simpa using hk), List.getElem?_eq_none (by omega)]; rfl

theorem path_agn {n : Nat} {ρ ρ' : Env} (ha : Agn n ρ ρ') {path : List E} (hv : ∀ e ∈ path, e.vb n = true) (hp : ∀ e ∈ path, e.ev ρ ≠ 0) : ∀ e ∈ path, e.ev ρ' ≠ 0 :=
  fun e he => by rw [E.vb_ev ha e (hv e he)]; exact hp e he

theorem TB.hd_sel {cx : Cx} : ∀ {t : TB} {bds : List (Option (Int × Int))} {x n : Nat} {path : List E} {J : List Int → Prop} {R : Nat → Env → Prop} {ρ : Env}, EnvOk cx ρ → cx.okB n = true → t.fine cx bds x n path = true → (∀ e ∈ path, e.vb n = true) → (∀ e ∈ path, e.ev ρ ≠ 0) → t.hd J R ρ →
    ∃ ρ', Agn n ρ ρ' ∧ ((∃ σ, t.sel ρ' = some (.inl σ) ∧ J σ ∧ inBd bds σ) ∨ (∃ k, t.sel ρ' = some (.inr k) ∧ R k ρ'))
  | .back l, bds, x, n, path, J, R, ρ, hρ, hok, hf, hpv, hp, h => by
    simp only [TB.fine, Bool.and_eq_true] at hf
    exact ⟨ρ, Agn.refl _ _, .inl ⟨_, rfl, h, bdsOk_ok hρ hp hf.2⟩⟩
  | .exit k, bds, x, n, path, J, R, ρ, hρ, hok, hf, hpv, hp, h => ⟨ρ, Agn.refl _ _, .inr ⟨k, rfl, h⟩⟩
  | .br e t f, bds, x, n, path, J, R, ρ, hρ, hok, hf, hpv, hp, h => by
    simp only [TB.fine, Bool.and_eq_true] at hf
    by_cases hc : e.ev ρ = 0
    · obtain ⟨ρ', ha, hr⟩ := TB.hd_sel hρ hok hf.2 hpv hp (h.2 hc)
      refine ⟨ρ', ha, ?_⟩
      have he := E.vb_ev ha e hf.1.1
      simp only [TB.sel, he, hc, ne_eq, not_true_eq_false, if_false]
      exact hr
    · obtain ⟨ρ', ha, hr⟩ := TB.hd_sel (path := e :: path) hρ hok hf.1.2 (fun c hm => by
        rcases List.mem_cons.1 hm with rfl | hm
        · exact hf.1.1
        · exact hpv c hm) (fun c hm => by
        rcases List.mem_cons.1 hm with rfl | hm
        · exact hc
        · exact hp c hm) (h.1 hc)
      refine ⟨ρ', ha, ?_⟩
      have he := E.vb_ev ha e hf.1.1
      simp only [TB.sel, he, ne_eq, hc, not_false_eq_true, if_true]
      exact hr
  | .bad _, bds, x, n, path, J, R, ρ, hρ, hok, hf, hpv, hp, h => by cases h
  | .new i e t, bds, x, n, path, J, R, ρ, hρ, hok, hf, hpv, hp, h => by
    simp only [TB.fine, Bool.and_eq_true] at hf
    have hni := Nat.le_of_ble_eq_true hf.1.1.1
    have hoki : cx.okB i = true := okB_mono hni hok
    have ha0 := set_agn ρ i (e.ev ρ)
    obtain ⟨ρ', ha, hr⟩ := TB.hd_sel (EnvOk.agn hoki hρ ha0) (okB_mono (by omega) hok) hf.2 (fun c hm => E.vb_mono (by omega) c (hpv c hm)) (path_agn (ha0.mono hni) hpv hp) h
    refine ⟨ρ', (ha0.mono hni).trans (ha.mono (by omega)), ?_⟩
    have hi : ρ'.i i = e.ev ρ := by rw [ha.i i (by omega)]; simp [Env.set]
    have he : e.ev ρ' = e.ev ρ := E.vb_ev (ha0.trans (ha.mono (by omega))) e hf.1.2
    simp only [TB.sel, hi, he, if_true]
    exact hr
  | .loop L b t, bds, x, n, path, J, R, ρ, hρ, hok, hf, hpv, hp, h => by
    simp only [TB.fine, Bool.and_eq_true, Nat.blt_eq] at hf
    obtain ⟨⟨⟨⟨⟨⟨⟨h1, h2⟩, h3⟩, h4⟩, h5⟩, h6⟩, h7⟩, h8⟩ := hf
    have h1 := Nat.le_of_ble_eq_true h1
    have h5 := Nat.le_of_ble_eq_true h5
    obtain ⟨I, ⟨m0, hI0⟩, hstep⟩ := h
    have hin0 := bdsOk_ok hρ hp h4
    have hl0 : (L.init.map (E.ev ρ)).length = L.bds.length := (inBd_get hin0).1.symm
    have key : ∀ (m : Nat) (σ : List Int), σ.length = L.bds.length → inBd L.bds σ → I σ m →
        ∃ ρ', Agn L.base ρ ρ' ∧ Chain (fun ρ' => b.sel ρ') L ρ' σ ∧ ((∃ τ, t.sel ρ' = some (.inl τ) ∧ J τ ∧ inBd bds τ) ∨ (∃ k, t.sel ρ' = some (.inr k) ∧ R k ρ')) := by
      intro m
      induction m using Nat.strongRecOn with
      | _ m ih =>
        intro σ hσ hin hI
        have ha0 := setL_agn ρ L.base σ
        have hρ1 := EnvOk.agn h2 hρ ha0
        obtain ⟨ρ1, ha1, hr⟩ := TB.hd_sel (path := path) hρ1 (okB_mono (by omega) h2) h7 (fun c hm => E.vb_mono (by omega) c (hpv c hm)) (path_agn (ha0.mono h1) hpv hp) (hstep σ m hσ hin hI)
        have hv1 : L.vals ρ1 = σ := by rw [vals_agn ha1 (Nat.le_refl _), vals_setL ρ L hσ]
        have hab : Agn L.base ρ ρ1 := ha0.trans (ha1.mono (by omega))
        rcases hr with ⟨σ', hs, ⟨m', hm', hI'⟩, hin'⟩ | ⟨k, hs, hR⟩
        · obtain ⟨ρ2, g1, g2, g3⟩ := ih m' hm' σ' ((inBd_get hin').1.symm) hin' hI'
          refine ⟨ρ2, g1, ?_, g3⟩
          rw [← hv1]
          exact .step ρ1 (g1.symm.trans hab) hs g2
        · have ha2 := set_agn ρ1 L.xid k
          have hρ2 : EnvOk cx (ρ1.set L.xid k) := EnvOk.agn (okB_mono (by omega : L.base ≤ L.base) h2) hρ (hab.trans (ha2.mono (by omega)))
          obtain ⟨ρ2, g1, g2⟩ := TB.hd_sel (path := path) hρ2 (okB_mono (by omega) h2) h8 (fun c hm => E.vb_mono (by omega) c (hpv c hm)) (path_agn ((hab.trans (ha2.mono (by omega))).mono h1) hpv hp) hR
          have hall : Agn L.xid ρ1 ρ2 := ha2.trans (g1.mono (by omega))
          refine ⟨ρ2, hab.trans (hall.mono (by omega)), ?_, g2⟩
          have hv2 : L.vals ρ2 = σ := by rw [vals_agn hall h5, hv1]
          rw [← hv2]
          refine .last (TB.sel_agn h7 h5 hall hs) ?_
          rw [g1.i _ (by omega)]; simp [Env.set]
    obtain ⟨ρ', g1, g2, g3⟩ := key m0 _ hl0 hin0 hI0
    refine ⟨ρ', g1.mono h1, ?_⟩
    have : L.init.map (E.ev ρ') = L.init.map (E.ev ρ) := map_agn (g1.mono h1) h3
    have hc : Chain (fun ρ' => b.sel ρ') L ρ' (L.init.map (E.ev ρ')) := by rw [this]; exact g2
    simp only [TB.sel, if_pos hc]
    exact g3

theorem TT.hd_sel {cx : Cx} {α : Type} {Q : α → Env → Prop} : ∀ {t : TT α} {n : Nat} {path : List E} {ρ : Env}, EnvOk cx ρ → cx.okB n = true → t.fine cx n path = true → (∀ e ∈ path, e.vb n = true) → (∀ e ∈ path, e.ev ρ ≠ 0) → t.hd Q ρ →
    ∃ ρ', Agn n ρ ρ' ∧ ∃ a, t.sel ρ' = some a ∧ Q a ρ'
  | .leaf a, n, path, ρ, hρ, hok, hf, hpv, hp, h => ⟨ρ, Agn.refl _ _, a, rfl, h⟩
  | .br e t f, n, path, ρ, hρ, hok, hf, hpv, hp, h => by
    simp only [TT.fine, Bool.and_eq_true] at hf
    by_cases hc : e.ev ρ = 0
    · obtain ⟨ρ', ha, a, hr, hQ⟩ := TT.hd_sel hρ hok hf.2 hpv hp (h.2 hc)
      refine ⟨ρ', ha, a, ?_, hQ⟩
      have he := E.vb_ev ha e hf.1.1
      simp only [TT.sel, he, hc, ne_eq, not_true_eq_false, if_false]
      exact hr
    · obtain ⟨ρ', ha, a, hr, hQ⟩ := TT.hd_sel (path := e :: path) hρ hok hf.1.2 (fun c hm => by
        rcases List.mem_cons.1 hm with rfl | hm
        · exact hf.1.1
        · exact hpv c hm) (fun c hm => by
        rcases List.mem_cons.1 hm with rfl | hm
        · exact hc
        · exact hp c hm) (h.1 hc)
      refine ⟨ρ', ha, a, ?_, hQ⟩
      have he := E.vb_ev ha e hf.1.1
      simp only [TT.sel, he, ne_eq, hc, not_false_eq_true, if_true]
      exact hr
  | .bad _, n, path, ρ, hρ, hok, hf, hpv, hp, h => by cases h
  | .new i e t, n, path, ρ, hρ, hok, hf, hpv, hp, h => by
    simp only [TT.fine, Bool.and_eq_true] at hf
    have hni := Nat.le_of_ble_eq_true hf.1.1.1
    have ha0 := set_agn ρ i (e.ev ρ)
    obtain ⟨ρ', ha, a, hr, hQ⟩ := TT.hd_sel (EnvOk.agn hf.1.2 hρ ha0) (okB_mono (by omega) hok) hf.2 (fun c hm => E.vb_mono (by omega) c (hpv c hm)) (path_agn (ha0.mono hni) hpv hp) h
    refine ⟨ρ', (ha0.mono hni).trans (ha.mono (by omega)), a, ?_, hQ⟩
    have hi : ρ'.i i = e.ev ρ := by rw [ha.i i (by omega)]; simp [Env.set]
    have he : e.ev ρ' = e.ev ρ := E.vb_ev (ha0.trans (ha.mono (by omega))) e hf.1.1.2
    simp only [TT.sel, hi, he, if_true]
    exact hr
  | .loop L b t, n, path, ρ, hρ, hok, hf, hpv, hp, h => by
    simp only [TT.fine, Bool.and_eq_true] at hf
    obtain ⟨⟨⟨⟨⟨⟨h1, h2⟩, h3⟩, h4⟩, h5⟩, h7⟩, h8⟩ := hf
    have h1 := Nat.le_of_ble_eq_true h1
    have h5 := Nat.le_of_ble_eq_true h5
    obtain ⟨I, ⟨m0, hI0⟩, hstep⟩ := h
    have hin0 := bdsOk_ok hρ hp h4
    have hl0 : (L.init.map (E.ev ρ)).length = L.bds.length := (inBd_get hin0).1.symm
    have key : ∀ (m : Nat) (σ : List Int), σ.length = L.bds.length → inBd L.bds σ → I σ m →
        ∃ ρ', Agn L.base ρ ρ' ∧ Chain (fun ρ' => b.sel ρ') L ρ' σ ∧ ∃ a, t.sel ρ' = some a ∧ Q a ρ' := by
      intro m
      induction m using Nat.strongRecOn with
      | _ m ih =>
        intro σ hσ hin hI
        have ha0 := setL_agn ρ L.base σ
        have hρ1 := EnvOk.agn h2 hρ ha0
        obtain ⟨ρ1, ha1, hr⟩ := TB.hd_sel (path := path) hρ1 (okB_mono (by omega) h2) h7 (fun c hm => E.vb_mono (by omega) c (hpv c hm)) (path_agn (ha0.mono h1) hpv hp) (hstep σ m hσ hin hI)
        have hv1 : L.vals ρ1 = σ := by rw [vals_agn ha1 (Nat.le_refl _), vals_setL ρ L hσ]
        have hab : Agn L.base ρ ρ1 := ha0.trans (ha1.mono (by omega))
        rcases hr with ⟨σ', hs, ⟨m', hm', hI'⟩, hin'⟩ | ⟨k, hs, hR⟩
        · obtain ⟨ρ2, g1, g2, g3⟩ := ih m' hm' σ' ((inBd_get hin').1.symm) hin' hI'
          refine ⟨ρ2, g1, ?_, g3⟩
          rw [← hv1]
          exact .step ρ1 (g1.symm.trans hab) hs g2
        · have ha2 := set_agn ρ1 L.xid k
          have hρ2 : EnvOk cx (ρ1.set L.xid k) := EnvOk.agn h2 hρ (hab.trans (ha2.mono (by omega)))
          obtain ⟨ρ2, g1, g2⟩ := TT.hd_sel (path := path) hρ2 (okB_mono (by omega) h2) h8 (fun c hm => E.vb_mono (by omega) c (hpv c hm)) (path_agn ((hab.trans (ha2.mono (by omega))).mono h1) hpv hp) hR
          have hall : Agn L.xid ρ1 ρ2 := ha2.trans (g1.mono (by omega))
          refine ⟨ρ2, hab.trans (hall.mono (by omega)), ?_, g2⟩
          have hv2 : L.vals ρ2 = σ := by rw [vals_agn hall h5, hv1]
          rw [← hv2]
          refine .last (TB.sel_agn h7 h5 hall hs) ?_
          rw [g1.i _ (by omega)]; simp [Env.set]
    obtain ⟨ρ', g1, g2, g3⟩ := key m0 _ hl0 hin0 hI0
    refine ⟨ρ', g1.mono h1, ?_⟩
    have : L.init.map (E.ev ρ') = L.init.map (E.ev ρ) := map_agn (g1.mono h1) h3
    have hc : Chain (fun ρ' => b.sel ρ') L ρ' (L.init.map (E.ev ρ')) := by rw [this]; exact g2
    simp only [TT.sel, if_pos hc]
    exact g3

end Go.Eng
end

/-! A symbolic executor, part TG: what is to be shown, as a plain statement of numbers; a law's answer. -/
section
set_option linter.unusedVariables false
set_option linter.unusedSimpArgs false
set_option linter.unusedSectionVars false
namespace Go.Eng
open Go.RowKit Go.WideShapes Go.ChangeShapes

/-! ### relations of so many numbers -/

def CurR : Nat → Type
  | 0 => Nat → Prop
  | k + 1 => Int → CurR k
def CurR.app : (k : Nat) → CurR k → List Int → Nat → Prop
  | 0, I, [], m => I m
  | k + 1, I, x :: l, m => CurR.app k (I x) l m
  | 0, _, _ :: _, _ => False
  | _ + 1, _, [], _ => False
def allC : Nat → (List Int → Prop) → Prop
  | 0, F => F []
  | k + 1, F => ∀ x : Int, allC k fun l => F (x :: l)
theorem allC_ok : ∀ {k : Nat} {F : List Int → Prop}, allC k F → ∀ σ : List Int, σ.length = k → F σ
  | 0, F, h, [], _ => h
  | k + 1, F, h, x :: l, hl => allC_ok (h x) l (by simpa using hl)
  | 0, _, _, _ :: _, hl => by simp at hl
  | k + 1, _, _, [], hl => by simp at hl

/-- the same without clamps -/
def E.evP (ρ : Env) : E → Int
  | .c n => n
  | .v i => ρ.i i
  | .b o k x y => o.ev k (x.evP ρ) (y.evP ρ)
  | .w k x => k.wrap (x.evP ρ)
  | .nt x => bool01 (x.evP ρ == 0)
  | .ite t x y => if t.evP ρ ≠ 0 then x.evP ρ else y.evP ρ
  | .f n x y z => ρ.f n (x.evP ρ) (y.evP ρ) (z.evP ρ)
  | .cl i _ _ => ρ.i i

abbrev NB := List (Nat × Int × Int)
def lookB : NB → Nat → Int → Int → Bool
  | [], _, _, _ => false
  | (i, l, h) :: m, j, l', h' => match Nat.beq i j with
    | true => decide (l' ≤ l) && decide (h ≤ h')
    | false => lookB m j l' h'
def E.tidy (nb : NB) : E → Bool
  | .c _ => true
  | .v _ => true
  | .b _ _ x y => x.tidy nb && y.tidy nb
  | .w _ x => x.tidy nb
  | .nt x => x.tidy nb
  | .ite t x y => t.tidy nb && x.tidy nb && y.tidy nb
  | .f _ x y z => x.tidy nb && y.tidy nb && z.tidy nb
  | .cl i l h => lookB nb i l h
def nbOk (ρ : Env) (nb : NB) : Prop := ∀ p ∈ nb, p.2.1 ≤ ρ.i p.1 ∧ ρ.i p.1 ≤ p.2.2

theorem lookB_ok {ρ : Env} {i : Nat} {l h : Int} : ∀ {nb : NB}, nbOk ρ nb → lookB nb i l h = true → l ≤ ρ.i i ∧ ρ.i i ≤ h
  | [], _, hl => by cases hl
  | (j, a, b) :: m, hn, hl => by
    simp only [lookB] at hl
    split at hl
    · rename_i hj
      have := Nat.eq_of_beq_eq_true hj
      subst this
      have := hn (j, a, b) List.mem_cons_self
      simp at hl this
      omega
    · exact lookB_ok (fun p hp => hn p (List.mem_cons_of_mem _ hp)) hl

theorem E.evP_ev {ρ : Env} {nb : NB} (hn : nbOk ρ nb) : ∀ (e : E), e.tidy nb = true → e.evP ρ = e.ev ρ := by
  intro e
  induction e with
  | c m => intro _; rfl
  | v i => intro _; rfl
  | b o k x y hx hy => intro h; simp only [E.tidy, Bool.and_eq_true] at h; simp only [E.ev, E.evP, hx h.1, hy h.2]
  | w k x hx => intro h; simp only [E.ev, E.evP, hx h]
  | nt x hx => intro h; simp only [E.ev, E.evP, hx h]
  | ite t x y ht hx hy => intro h; simp only [E.tidy, Bool.and_eq_true] at h; simp only [E.ev, E.evP, ht h.1.1, hx h.1.2, hy h.2]
  | f m x y z hx hy hz => intro h; simp only [E.tidy, Bool.and_eq_true] at h; simp only [E.ev, E.evP, hx h.1.1, hy h.1.2, hz h.2]
  | cl i l h => intro ht; obtain ⟨a, b⟩ := lookB_ok hn ht; simp only [E.ev, E.evP, clampZ_in a b]

theorem mapP_ev {ρ : Env} {nb : NB} (hn : nbOk ρ nb) {l : List E} (h : l.all (·.tidy nb) = true) : l.map (E.evP ρ) = l.map (E.ev ρ) :=
  List.map_congr_left fun e he => E.evP_ev hn e (List.all_eq_true.1 h e he)

/-! ### the plain statement -/

def TB.hdP (cx : Cx) (J : List Int → Prop) (R : Nat → Env → Prop) : TB → Env → Prop
  | .back l, ρ => J (l.map (E.evP ρ))
  | .exit n, ρ => R n ρ
  | .br e t f, ρ => (e.evP ρ ≠ 0 → t.hdP cx J R ρ) ∧ (e.evP ρ = 0 → f.hdP cx J R ρ)
  | .bad _, _ => False
  | .new i e t, ρ => ∀ y : Int, y = e.evP ρ → inIv y (e.iv cx) → t.hdP cx J R (ρ.set i y)
  | .loop L b r, ρ => ∃ I : CurR L.bds.length, (∃ m, I.app _ (L.init.map (E.evP ρ)) m) ∧
      allC L.bds.length fun σ => ∀ m, inBd L.bds σ → I.app _ σ m → b.hdP cx (fun σ' => ∃ m', m' < m ∧ I.app _ σ' m') (fun n ρ' => r.hdP cx J R (ρ'.set L.xid n)) (ρ.setL L.base σ)

def TT.hdP (cx : Cx) (F : List Int → Prop) : TT (List E) → Env → Prop
  | .leaf l, ρ => F (l.map (E.evP ρ))
  | .br e t f, ρ => (e.evP ρ ≠ 0 → t.hdP cx F ρ) ∧ (e.evP ρ = 0 → f.hdP cx F ρ)
  | .bad _, _ => False
  | .new i e t, ρ => ∀ y : Int, y = e.evP ρ → inIv y (e.iv cx) → t.hdP cx F (ρ.set i y)
  | .loop L b r, ρ => ∃ I : CurR L.bds.length, (∃ m, I.app _ (L.init.map (E.evP ρ)) m) ∧
      allC L.bds.length fun σ => ∀ m, inBd L.bds σ → I.app _ σ m → b.hdP cx (fun σ' => ∃ m', m' < m ∧ I.app _ σ' m') (fun n ρ' => r.hdP cx F (ρ'.set L.xid n)) (ρ.setL L.base σ)

/-- the names' bounds of a loop -/
def nbL : Nat → List (Option (Int × Int)) → NB
  | _, [] => []
  | i, some p :: l => (i, p.1, p.2) :: nbL (i + 1) l
  | i, none :: l => nbL (i + 1) l
def nbLt (n : Nat) (nb : NB) : Bool := nb.all fun p => Nat.blt p.1 n

def TB.tidy (cx : Cx) (nb : NB) (K : NB → Bool) : TB → Bool
  | .back l => l.all (·.tidy nb)
  | .exit _ => K nb
  | .br e t f => e.tidy nb && TB.tidy cx nb K t && TB.tidy cx nb K f
  | .bad _ => true
  | .new i e t => e.tidy nb && nbLt i nb && cx.okB i && (match e.iv cx with
    | some p => TB.tidy cx ((i, p.1, p.2) :: nb) K t
    | none => TB.tidy cx nb K t)
  | .loop L b r => L.init.all (·.tidy nb) && nbLt L.base nb && cx.okB L.base && TB.tidy cx (nbL L.base L.bds ++ nb) (fun nb' => nbLt L.xid nb' && Nat.ble L.base L.xid && TB.tidy cx nb' K r) b

def TT.tidy (cx : Cx) (nb : NB) : TT (List E) → Bool
  | .leaf l => l.all (·.tidy nb)
  | .br e t f => e.tidy nb && TT.tidy cx nb t && TT.tidy cx nb f
  | .bad _ => true
  | .new i e t => e.tidy nb && nbLt i nb && cx.okB i && (match e.iv cx with
    | some p => TT.tidy cx ((i, p.1, p.2) :: nb) t
    | none => TT.tidy cx nb t)
  | .loop L b r => L.init.all (·.tidy nb) && nbLt L.base nb && cx.okB L.base && TB.tidy cx (nbL L.base L.bds ++ nb) (fun nb' => nbLt L.xid nb' && Nat.ble L.base L.xid && TT.tidy cx nb' r) b

theorem nb_agn {n : Nat} {nb : NB} {ρ ρ' : Env} (h : nbLt n nb = true) (ha : Agn n ρ ρ') (hn : nbOk ρ nb) : nbOk ρ' nb := by
  intro p hp
  have := List.all_eq_true.1 h p hp
  rw [ha.i _ (by simpa using this)]
  exact hn p hp

theorem nbL_ok {ρ : Env} {b0 : Nat} {σ0 : List Int} : ∀ {l : List (Option (Int × Int))} {σ : List Int} {i : Nat}, inBd l σ → (∀ k x, σ[k]? = some x → ρ.i (i + k) = x) → nbOk ρ (nbL i l)
  | [], [], i, _, _ => fun p hp => by cases hp
  | some q :: l, x :: σ, i, h, hv => by
    intro p hp
    simp only [nbL] at hp
    rcases List.mem_cons.1 hp with rfl | hp
    · have := hv 0 x rfl
      simp only [Nat.add_zero] at this
      simp only [this]
      exact h.1
    · exact nbL_ok (b0 := b0) (σ0 := σ0) h.2 (fun k y hk => by have := hv (k + 1) y (by simpa using hk); rwa [show i + (k + 1) = i + 1 + k by omega] at this) p hp
  | none :: l, x :: σ, i, h, hv => by
    simp only [nbL]
    exact nbL_ok (b0 := b0) (σ0 := σ0) (l := l) (σ := σ) (i := i + 1) h.2 (fun k y hk => by have := hv (k + 1) y (by simpa using hk); rwa [show i + (k + 1) = i + 1 + k by omega] at this)
  | [], _ :: _, _, h, _ => by cases h
  | none :: _, [], _, h, _ => by cases h
  | some _ :: _, [], _, h, _ => by cases h

theorem nb_loop {ρ : Env} {L : Lp} {nb : NB} {σ : List Int} (h : nbLt L.base nb = true) (hn : nbOk ρ nb) (hin : inBd L.bds σ) : nbOk (ρ.setL L.base σ) (nbL L.base L.bds ++ nb) := by
  intro p hp
  rcases List.mem_append.1 hp with hp | hp
  · refine nbL_ok (b0 := 0) (σ0 := []) hin (fun k x hk => ?_) p hp
    have hlt := (List.getElem?_eq_some_iff.1 hk).1
    rw [setL_get, if_pos (by omega), Nat.add_sub_cancel_left, List.getD_eq_getElem?_getD, hk]; rfl
  · exact nb_agn h (setL_agn ρ L.base σ) hn p hp

theorem TB.hdP_ok {cx : Cx} : ∀ {t : TB} {nb : NB} {J : List Int → Prop} {R R' : Nat → Env → Prop} {K : NB → Bool} {ρ : Env}, EnvOk cx ρ → nbOk ρ nb → TB.tidy cx nb K t = true →
    (∀ n ρ' nb', EnvOk cx ρ' → nbOk ρ' nb' → K nb' = true → R n ρ' → R' n ρ') → t.hdP cx J R ρ → t.hd J R' ρ
  | .back l, nb, J, R, R', K, ρ, hρ, hn, ht, hR, h => by
    simp only [TB.tidy] at ht
    simp only [TB.hdP, mapP_ev hn ht] at h
    exact h
  | .exit n, nb, J, R, R', K, ρ, hρ, hn, ht, hR, h => hR n ρ nb hρ hn ht h
  | .br e t f, nb, J, R, R', K, ρ, hρ, hn, ht, hR, h => by
    simp only [TB.tidy, Bool.and_eq_true] at ht
    simp only [TB.hdP, E.evP_ev hn e ht.1.1] at h
    exact ⟨fun hc => TB.hdP_ok hρ hn ht.1.2 hR (h.1 hc), fun hc => TB.hdP_ok hρ hn ht.2 hR (h.2 hc)⟩
  | .bad _, nb, J, R, R', K, ρ, hρ, hn, ht, hR, h => h
  | .new i e t, nb, J, R, R', K, ρ, hρ, hn, ht, hR, h => by
    simp only [TB.tidy, Bool.and_eq_true] at ht
    obtain ⟨⟨⟨h1, h2⟩, h3⟩, h4⟩ := ht
    simp only [TB.hdP, E.evP_ev hn e h1] at h
    have hiv := E.iv_ok hρ e
    have ha := set_agn ρ i (e.ev ρ)
    have hρ' := EnvOk.agn h3 hρ ha
    have hn' := nb_agn h2 ha hn
    have hh := h _ rfl hiv
    show t.hd J R' (ρ.set i (e.ev ρ))
    split at h4
    · rename_i p hp
      rw [hp] at hiv
      refine TB.hdP_ok (nb := (i, p.1, p.2) :: nb) hρ' (fun q hq => ?_) h4 hR hh
      rcases List.mem_cons.1 hq with rfl | hq
      · simp [Env.set]; exact hiv
      · exact hn' q hq
    · exact TB.hdP_ok hρ' hn' h4 hR hh
  | .loop L b r, nb, J, R, R', K, ρ, hρ, hn, ht, hR, h => by
    simp only [TB.tidy, Bool.and_eq_true] at ht
    obtain ⟨⟨⟨h1, h2⟩, h3⟩, h4⟩ := ht
    obtain ⟨I, ⟨m, hm⟩, hst⟩ := h
    rw [mapP_ev hn h1] at hm
    refine ⟨fun σ m => I.app _ σ m, ⟨m, hm⟩, fun σ m hl hin hI => ?_⟩
    have hb := allC_ok hst σ hl m hin hI
    refine TB.hdP_ok (EnvOk.agn h3 hρ (setL_agn ρ L.base σ)) (nb_loop h2 hn hin) h4 (fun n ρ' nb' e1 e2 e3 e4 => ?_) hb
    simp only [Bool.and_eq_true] at e3
    have ha := set_agn ρ' L.xid n
    exact TB.hdP_ok (EnvOk.agn (okB_mono (Nat.le_of_ble_eq_true e3.1.2) h3) e1 ha) (nb_agn e3.1.1 ha e2) e3.2 hR e4

theorem TT.hdP_ok {cx : Cx} {F : List Int → Prop} : ∀ {t : TT (List E)} {nb : NB} {ρ : Env}, EnvOk cx ρ → nbOk ρ nb → TT.tidy cx nb t = true → t.hdP cx F ρ → t.hd (fun l ρ => F (l.map (E.ev ρ))) ρ
  | .leaf l, nb, ρ, hρ, hn, ht, h => by
    simp only [TT.tidy] at ht
    simp only [TT.hdP, mapP_ev hn ht] at h
    exact h
  | .br e t f, nb, ρ, hρ, hn, ht, h => by
    simp only [TT.tidy, Bool.and_eq_true] at ht
    simp only [TT.hdP, E.evP_ev hn e ht.1.1] at h
    exact ⟨fun hc => TT.hdP_ok hρ hn ht.1.2 (h.1 hc), fun hc => TT.hdP_ok hρ hn ht.2 (h.2 hc)⟩
  | .bad _, nb, ρ, hρ, hn, ht, h => h
  | .new i e t, nb, ρ, hρ, hn, ht, h => by
    simp only [TT.tidy, Bool.and_eq_true] at ht
    obtain ⟨⟨⟨h1, h2⟩, h3⟩, h4⟩ := ht
    simp only [TT.hdP, E.evP_ev hn e h1] at h
    have hiv := E.iv_ok hρ e
    have ha := set_agn ρ i (e.ev ρ)
    have hρ' := EnvOk.agn h3 hρ ha
    have hn' := nb_agn h2 ha hn
    have hh := h _ rfl hiv
    show t.hd (fun l ρ => F (l.map (E.ev ρ))) (ρ.set i (e.ev ρ))
    split at h4
    · rename_i p hp
      rw [hp] at hiv
      refine TT.hdP_ok (nb := (i, p.1, p.2) :: nb) hρ' (fun q hq => ?_) h4 hh
      rcases List.mem_cons.1 hq with rfl | hq
      · simp [Env.set]; exact hiv
      · exact hn' q hq
    · exact TT.hdP_ok hρ' hn' h4 hh
  | .loop L b r, nb, ρ, hρ, hn, ht, h => by
    simp only [TT.tidy, Bool.and_eq_true] at ht
    obtain ⟨⟨⟨h1, h2⟩, h3⟩, h4⟩ := ht
    obtain ⟨I, ⟨m, hm⟩, hst⟩ := h
    rw [mapP_ev hn h1] at hm
    refine ⟨fun σ m => I.app _ σ m, ⟨m, hm⟩, fun σ m hl hin hI => ?_⟩
    have hb := allC_ok hst σ hl m hin hI
    refine TB.hdP_ok (EnvOk.agn h3 hρ (setL_agn ρ L.base σ)) (nb_loop h2 hn hin) h4 (fun n ρ' nb' e1 e2 e3 e4 => ?_) hb
    simp only [Bool.and_eq_true] at e3
    have ha := set_agn ρ' L.xid n
    exact TT.hdP_ok (EnvOk.agn (okB_mono (Nat.le_of_ble_eq_true e3.1.2) h3) e1 ha) (nb_agn e3.1.1 ha e2) e3.2 e4

/-! ### trees, held against each other -/

def eLbeq : List E → List E → Bool
  | [], [] => true
  | a :: l, b :: m => a.beq b && eLbeq l m
  | _, _ => false
theorem eL_of_beq : ∀ {l m : List E}, eLbeq l m = true → l = m
  | [], [], _ => rfl
  | a :: l, b :: m, h => by
    simp only [eLbeq, Bool.and_eq_true] at h
    rw [E.eq_of_beq h.1, eL_of_beq h.2]
  | [], _ :: _, h => by cases h
  | _ :: _, [], h => by cases h
def Lp.beq (a b : Lp) : Bool := Nat.beq a.base b.base && decide (a.bds = b.bds) && eLbeq a.init b.init && Nat.beq a.xid b.xid
theorem Lp.eq_of_beq {a b : Lp} (h : a.beq b = true) : a = b := by
  obtain ⟨a1, a2, a3, a4⟩ := a
  obtain ⟨b1, b2, b3, b4⟩ := b
  simp only [Lp.beq, Bool.and_eq_true, decide_eq_true_eq] at h
  rw [Nat.eq_of_beq_eq_true h.1.1.1, h.1.1.2, eL_of_beq h.1.2, Nat.eq_of_beq_eq_true h.2]
def TB.beq : TB → TB → Bool
  | .back a, .back b => eLbeq a b
  | .exit a, .exit b => Nat.beq a b
  | .br e t f, .br e' t' f' => e.beq e' && TB.beq t t' && TB.beq f f'
  | .bad n, .bad m => Nat.beq n m
  | .new i e t, .new i' e' t' => Nat.beq i i' && e.beq e' && TB.beq t t'
  | .loop L b r, .loop L' b' r' => L.beq L' && TB.beq b b' && TB.beq r r'
  | _, _ => false
theorem TB.eq_of_beq : ∀ {x y : TB}, TB.beq x y = true → x = y := by
  intro x
  induction x with
  | back a => intro y h; cases y <;> simp only [TB.beq] at h <;> first | (rw [eL_of_beq h]) | cases h
  | exit a => intro y h; cases y <;> simp only [TB.beq] at h <;> first | (rw [Nat.eq_of_beq_eq_true h]) | cases h
  | br e t f ht hf =>
    intro y h
    cases y <;> simp only [TB.beq] at h <;> try (cases h; done)
    simp only [Bool.and_eq_true] at h
    rw [E.eq_of_beq h.1.1, ht h.1.2, hf h.2]
  | bad n => intro y h; cases y <;> simp only [TB.beq] at h <;> first | (rw [Nat.eq_of_beq_eq_true h]) | cases h
  | new i e t ht =>
    intro y h
    cases y <;> simp only [TB.beq] at h <;> try (cases h; done)
    simp only [Bool.and_eq_true] at h
    rw [Nat.eq_of_beq_eq_true h.1.1, E.eq_of_beq h.1.2, ht h.2]
  | loop L b r hb hr =>
    intro y h
    cases y <;> simp only [TB.beq] at h <;> try (cases h; done)
    simp only [Bool.and_eq_true] at h
    rw [Lp.eq_of_beq h.1.1, hb h.1.2, hr h.2]
def TT.beq : TT (List E) → TT (List E) → Bool
  | .leaf a, .leaf b => eLbeq a b
  | .br e t f, .br e' t' f' => e.beq e' && TT.beq t t' && TT.beq f f'
  | .bad n, .bad m => Nat.beq n m
  | .new i e t, .new i' e' t' => Nat.beq i i' && e.beq e' && TT.beq t t'
  | .loop L b r, .loop L' b' r' => L.beq L' && TB.beq b b' && TT.beq r r'
  | _, _ => false
theorem TT.eq_of_beq : ∀ {x y : TT (List E)}, TT.beq x y = true → x = y := by
  intro x
  induction x with
  | leaf a => intro y h; cases y <;> simp only [TT.beq] at h <;> first | (rw [eL_of_beq h]) | cases h
  | br e t f ht hf =>
    intro y h
    cases y <;> simp only [TT.beq] at h <;> try (cases h; done)
    simp only [Bool.and_eq_true] at h
    rw [E.eq_of_beq h.1.1, ht h.1.2, hf h.2]
  | bad n => intro y h; cases y <;> simp only [TT.beq] at h <;> first | (rw [Nat.eq_of_beq_eq_true h]) | cases h
  | new i e t ht =>
    intro y h
    cases y <;> simp only [TT.beq] at h <;> try (cases h; done)
    simp only [Bool.and_eq_true] at h
    rw [Nat.eq_of_beq_eq_true h.1.1, E.eq_of_beq h.1.2, ht h.2]
  | loop L b r hr =>
    intro y h
    cases y <;> simp only [TT.beq] at h <;> try (cases h; done)
    simp only [Bool.and_eq_true] at h
    rw [Lp.eq_of_beq h.1.1, TB.eq_of_beq h.1.2, hr h.2]

/-! ### answers -/

/-- an answer, as numbers -/
def projL (pj : SV → St → Option (List E)) : RT2 → TT (List E)
  | .leaf (v, s) => match pj v s with
    | some l => .leaf l
    | none => .bad 90
  | .br e t f => .br e (projL pj t) (projL pj f)
  | .bad n => .bad n
  | .new i e t => .new i e (projL pj t)
  | .loop L b r => .loop L b (projL pj r)
theorem projL_sel {pj : SV → St → Option (List E)} {ρ : Env} : ∀ {t : RT2} {l : List E}, (projL pj t).sel ρ = some l → ∃ v s, t.sel ρ = some (v, s) ∧ pj v s = some l
  | .leaf (v, s), l, h => by
    simp only [projL] at h
    split at h
    · rename_i l' hl
      cases h
      exact ⟨v, s, rfl, hl⟩
    · cases h
  | .br e t f, l, h => by
    simp only [projL, TT.sel] at h ⊢
    split at h
    · rename_i hc; rw [if_pos hc]; exact projL_sel h
    · rename_i hc; rw [if_neg hc]; exact projL_sel h
  | .bad n, l, h => by cases h
  | .new i e t, l, h => by
    simp only [projL, TT.sel] at h ⊢
    split at h
    · rename_i hc; rw [if_pos hc]; exact projL_sel h
    · cases h
  | .loop L b r, l, h => by
    simp only [projL, TT.sel] at h ⊢
    split at h
    · rename_i hc; rw [if_pos hc]; exact projL_sel h
    · cases h

theorem live_nil {β : Bt} {j : Nat} : ¬ live β ⟨[], []⟩ j := fun ⟨b, h, _⟩ => by simp at h
theorem sat_nil {ρ : Env} {β : Bt} {w : World} (h : RoOk ρ β ⟨[], []⟩ w) : Sat ρ β ⟨[], []⟩ w :=
  ⟨fun j b h => by simp at h, fun i j hi _ _ => absurd hi live_nil, fun e b h => (by cases h), h⟩
theorem below_ext {s s' : St} {β β' : Bt} {w w' : World} (hs : s.bl = []) (h : Ext s s' β β' w w') : Below w.heap.size w w' :=
  ⟨h.os, h.tape, h.output, h.size, fun k hk => h.fr k hk fun j ⟨b, hj, _⟩ => by rw [hs] at hj; simp at hj⟩

/-- a call that is run, and whose tree holds: what is selected -/
theorem run_of {cx : Cx} {cf : CFT} (hcf : CallOkT cx cf) {ρ : Env} (hρ : EnvOk cx ρ) {f : FuncId} {args : List SV} {t : TT (List E)} {pj : SV → St → Option (List E)} {F : List Int → Prop} (ht : TT.beq (projL pj (cf f args ⟨[], []⟩)) t = true)
    (hfine : (TT.fine cx 1000 [] t && cx.okB 1000 && SV.vbL 1000 args && TT.tidy cx [] t) = true) (hh : t.hdP cx F ρ) {w : World} (hro : RoOk ρ b0 ⟨[], []⟩ w)
    {vs : Array Value} (hv : vs = (SV.denL ρ b0 args).toArray) :
    Calls cx.P f vs w fun e w' => ∃ (ρ' : Env) (v : SV) (s' : St) (l : List E) (β' : Bt), e = .returned (v.den ρ' β') ∧ pj v s' = some l ∧ F (l.map (E.ev ρ')) ∧ EnvOk cx ρ' ∧ Agn 1000 ρ ρ' ∧ Sat ρ' β' s' w' ∧ Ext ⟨[], []⟩ s' b0 β' w w' := by
  subst hv
  simp only [Bool.and_eq_true] at hfine
  have ht := TT.eq_of_beq ht
  have h1 := TT.hdP_ok hρ (fun p hp => by cases hp) hfine.2 hh
  obtain ⟨ρ', ha, l, hsel, hF⟩ := TT.hd_sel hρ hfine.1.1.2 hfine.1.1.1 (fun e he => by cases he) (fun e he => by cases he) h1
  rw [← ht] at hsel
  obtain ⟨v, s', h2, h3⟩ := projL_sel hsel
  have hρ' := EnvOk.agn hfine.1.1.2 hρ ha
  rw [← SV.vbL_den ha b0 args hfine.1.2]
  have hro' : RoOk ρ' b0 ⟨[], []⟩ w := fun k a i x e1 e2 => by rw [ha.ro] at e1 e2; exact hro k a i x e1 e2
  refine (hcf ρ' b0 ⟨[], []⟩ s' w f args v hρ' (sat_nil hro') h2).mono ?_
  rintro e w' ⟨β', rfl, hs, hx⟩
  exact ⟨ρ', v, s', l, β', rfl, h3, hF, hρ', ha, hs, hx⟩

def pjB : SV → St → Option (List E)
  | .bool e, _ => some [e]
  | _, _ => none
def isOne : List Int → Prop
  | [b] => b ≠ 0
  | _ => False

/-- a law's answer -/
theorem lawT_of {cx : Cx} {cf : CFT} (hcf : CallOkT cx cf) {ρ : Env} (hρ : EnvOk cx ρ) {f : FuncId} {args : List SV} {t : TT (List E)} (ht : TT.beq (projL pjB (cf f args ⟨[], []⟩)) t = true)
    (hfine : (TT.fine cx 1000 [] t && cx.okB 1000 && SV.vbL 1000 args && TT.tidy cx [] t) = true) (hh : t.hdP cx isOne ρ) {w : World} (hro : RoOk ρ b0 ⟨[], []⟩ w)
    {vs : Array Value} (hv : vs = (SV.denL ρ b0 args).toArray) :
    Calls cx.P f vs w fun e w' => e = .returned (.bool true) ∧ Below w.heap.size w w' := by
  refine (run_of hcf hρ ht hfine hh hro hv).mono ?_
  rintro e w' ⟨ρ', v, s', l, β', rfl, h2, h3, _, _, _, hx⟩
  refine ⟨?_, below_ext rfl hx⟩
  unfold pjB at h2
  split at h2
  · rename_i b
    cases h2
    simp only [List.map_cons, List.map_nil, isOne] at h3
    simp only [SV.den, bne_iff_ne, ne_eq, h3, not_false_eq_true, Ending.returned.injEq, Value.bool.injEq]
  · cases h2

end Go.Eng
end

/-! A symbolic executor, part TH: contracts of functions from elsewhere; the numbers' own functions. -/
section
set_option linter.unusedVariables false
set_option linter.unusedSimpArgs false
set_option linter.unusedSectionVars false
namespace Go.Eng
open Go.RowKit

/-! ### what stays as it was stays described -/

theorem block_lt {w : World} {a : Addr} {x : Value} (h : w.cell? a = some x) : a.block < w.heap.size := by
  unfold World.cell? at h
  rcases Nat.lt_or_ge a.block w.heap.size with h' | h'
  · exact h'
  · rw [Array.getElem?_eq_none h'] at h; cases h

theorem sat_below {ρ : Env} {β : Bt} {s : St} {w w' : World} (hs : Sat ρ β s w) (h : Below w.heap.size w w') : Sat ρ β s w' := by
  refine ⟨fun j b hj => ?_, hs.inj, hs.kn, fun k a i x e1 e2 => ?_⟩
  · refine blkOk_same (fun ho => ?_) (hs.blk j b hj)
    exact h.block _ (hs.lt ⟨b, hj, ho⟩)
  · obtain ⟨h1, h2⟩ := hs.ro k a i x e1 e2
    refine ⟨?_, h2⟩
    rw [h.cell (p := a.add i) (block_lt h1)]; exact h1

theorem ext_below {β : Bt} {s : St} {w w' : World} (h : Below w.heap.size w w') : Ext s s β β w w' :=
  ⟨fun _ _ => rfl, fun _ _ h => h, fun j hj h => absurd (live_lt h) (by omega), h.size, fun b hb _ => h.block b hb, Nat.le_refl _, h.os, h.tape, h.output⟩

/-! ### a list of contracts: a function, and what it gives, where it is told -/

abbrev Told := List (FuncId × (List SV → Option SV))

def ToldOk (cx : Cx) (l : Told) : Prop :=
  ∀ f g, (f, g) ∈ l → ∀ (ρ : Env) (β : Bt) (w : World) (args : List SV) (v : SV), EnvOk cx ρ → g args = some v →
    Calls cx.P f (SV.denL ρ β args).toArray w fun e w' => e = .returned (v.den ρ β) ∧ Below w.heap.size w w'

def smOf : Told → SM
  | [], _, _, _ => none
  | (f', g) :: l, f, args, s => if f == f' then (match g args with
    | some v => some (ret s v)
    | none => smOf l f args s) else smOf l f args s

theorem smOf_ok {cx : Cx} : ∀ {l : Told}, ToldOk cx l → SmOk cx (smOf l)
  | [], _ => fun ρ β s s' w f args r v _ _ h _ => by cases h
  | (f', g) :: l, hl => by
    have ih : SmOk cx (smOf l) := smOf_ok fun f g hm => hl f g (List.mem_cons_of_mem _ hm)
    intro ρ β s s' w f args r v hρ hs h hsel
    simp only [smOf] at h
    split at h
    · rename_i hf
      have hf' : f = f' := by simpa using hf
      subst hf'
      cases hu : g args with
      | some u =>
        rw [hu] at h
        cases h
        cases hsel
        refine (hl f g List.mem_cons_self ρ β w args _ hρ hu).mono ?_
        rintro e w' ⟨rfl, hb⟩
        exact ⟨β, rfl, sat_below hs hb, ext_below hb⟩
      | none =>
        rw [hu] at h
        exact ih ρ β s s' w f args r v hρ hs h hsel
    · exact ih ρ β s s' w f args r v hρ hs h hsel

theorem told_nil (cx : Cx) : ToldOk cx [] := fun _ _ h => by cases h
theorem told_cons {cx : Cx} {f : FuncId} {g : List SV → Option SV} {l : Told}
    (h : ∀ (ρ : Env) (β : Bt) (w : World) (args : List SV) (v : SV), EnvOk cx ρ → g args = some v →
      Calls cx.P f (SV.denL ρ β args).toArray w fun e w' => e = .returned (v.den ρ β) ∧ Below w.heap.size w w') (hl : ToldOk cx l) : ToldOk cx ((f, g) :: l) := by
  intro f' g' hm
  rcases List.mem_cons.1 hm with h' | h'
  · cases h'; exact h
  · exact hl f' g' h'

theorem xok_none (cx : Cx) : XOk cx (fun _ _ => none) := fun _ _ _ _ _ _ _ h => by cases h

/-! ### the numbers' functions -/

/-- how many bits a number of 32 bits has, without its leading noughts -/
def blen (x : Int) : Int := (Lib.bitLen (x % 4294967296).toNat : Int)

/-- two numbers at once: a round product -/
def mulqZ (x y : Int) : Int :=
  BO.ev .min .i64 (BO.ev .max .i64 (BO.ev .padd .i64 (BO.ev .shr .i64 (x * y) 30) (BO.ev .and .i64 (BO.ev .shr .i64 (x * y) 29) 1)) (-2147483648)) 2147483647

theorem sat_bd (k : IntKind) (m : Int) : -2147483648 ≤ BO.ev .min k (BO.ev .max k m (-2147483648)) 2147483647 ∧ BO.ev .min k (BO.ev .max k m (-2147483648)) 2147483647 ≤ 2147483647 := by
  simp only [BO.ev]
  constructor <;> split <;> (try split) <;> omega
theorem mulqZ_bd (x y : Int) : -2147483648 ≤ mulqZ x y ∧ mulqZ x y ≤ 2147483647 := sat_bd _ _

/-- a bit of a word -/
def bitZ (x i : Int) : Int := x % 4294967296 / 2 ^ i.toNat % 2
theorem bitZ_bd (x i : Int) : 0 ≤ bitZ x i ∧ bitZ x i ≤ 1 := by unfold bitZ; omega

/-- how many bits a number of 64 bits has, without its leading noughts -/
def blen64 (x : Int) : Int := (Lib.bitLen (x % 18446744073709551616).toNat : Int)

noncomputable def fN (n : Nat) (x y z : Int) : Int :=
  match n with
  | 0 => blen x
  | 1 => mulqZ x y
  | 2 => bitZ x y
  | 3 => blen64 x
  | n => fL n x y z
def phiN (n : Nat) : Option (Int × Int) :=
  match n with
  | 0 => some (0, 32)
  | 1 => some (-2147483648, 2147483647)
  | 2 => some (0, 1)
  | 3 => some (0, 64)
  | 20 => some (0, 1)
  | 21 => some (0, 140737488355328)
  | 22 => some (0, 255)
  | _ => none
theorem lfN (n : Nat) (x y z : Int) (h : 10 < n) (_ : n < 30) : fN n x y z = fL n x y z := by
  unfold fN
  split <;> first | omega | rfl

theorem bitLen_le : ∀ (k x : Nat), k ≤ 64 → x < 2 ^ k → Lib.bitLen x ≤ k
  | 0, x, _, h => by
    have : x = 0 := by simpa using h
    subst this
    decide
  | k + 1, x, hk, h => by
    rcases Nat.eq_zero_or_pos x with h0 | h0
    · subst h0; exact Nat.le_trans (by decide) (Nat.zero_le _)
    · rw [Lib.bitLen_half x (by omega) (Nat.lt_of_lt_of_le h (Nat.pow_le_pow_right (by omega) hk))]
      have := bitLen_le k (x / 2) (by omega) (by rw [Nat.pow_succ] at h; omega)
      omega

theorem bitLen_bd : ∀ (k x : Nat), k ≤ 63 → 2 ^ k ≤ x → x < 2 ^ (k + 1) → Lib.bitLen x = k + 1
  | 0, x, _, h, h2 => by
    have : x = 1 := by omega
    subst this
    decide
  | k + 1, x, hk, h, h2 => by
    have hx : x < 2 ^ 64 := Nat.lt_of_lt_of_le h2 (Nat.pow_le_pow_right (by omega) (by omega))
    have hp : 0 < 2 ^ k := Nat.two_pow_pos k
    rw [Nat.pow_succ] at h h2
    rw [Nat.pow_succ] at h2
    rw [Lib.bitLen_half x (by omega) hx, bitLen_bd k (x / 2) (by omega) (by omega) (by rw [Nat.pow_succ]; omega)]
    omega

theorem blen_bd (x : Int) : 0 ≤ blen x ∧ blen x ≤ 32 := by
  unfold blen
  have := bitLen_le 32 (x % 4294967296).toNat (by omega) (by omega)
  omega

theorem blen64_bd (x : Int) : 0 ≤ blen64 x ∧ blen64 x ≤ 64 := by
  unfold blen64
  have := bitLen_le 64 (x % 18446744073709551616).toNat (by omega) (by omega)
  omega
theorem seqZ_bd (x y : Int) : 0 ≤ seqZ x y ∧ seqZ x y ≤ 1 := by unfold seqZ; split <;> omega

theorem phiN_ok (n : Nat) (p : Int × Int) (x y z : Int) (h : phiN n = some p) : p.1 ≤ fN n x y z ∧ fN n x y z ≤ p.2 := by
  unfold phiN at h
  split at h <;> cases h
  · exact blen_bd x
  · exact mulqZ_bd x y
  · exact bitZ_bd x y
  · exact blen64_bd x
  · exact seqZ_bd x y
  · exact slenZ_bd x
  · exact sbyteZ_bd x y

theorem blen_of {x : Int} (k : Nat) (hk : k ≤ 31) (h1 : 2 ^ k ≤ x) (h2 : x < 2 ^ (k + 1)) : blen x = (k : Int) + 1 := by
  have hle : (2 : Int) ^ (k + 1) ≤ 2 ^ 32 := by
    have : (2 : Nat) ^ (k + 1) ≤ 2 ^ 32 := Nat.pow_le_pow_right (by omega) (by omega)
    exact_mod_cast this
  have h0 : (0 : Int) < 2 ^ k := Int.pow_pos (by omega)
  have h3 : (2 : Int) ^ 32 = 4294967296 := by decide
  unfold blen
  rw [Int.emod_eq_of_lt (by omega) (by omega)]
  obtain ⟨m, rfl⟩ := Int.eq_ofNat_of_zero_le (show 0 ≤ x by omega)
  rw [Int.toNat_natCast, bitLen_bd k m (by omega) (by exact_mod_cast h1) (by exact_mod_cast h2)]
  rfl

/-- the case split on a positive number's bits -/
theorem blen_cases {x : Int} (h0 : 1 ≤ x) (h1 : x ≤ 4294967295) : ∃ k : Nat, k ≤ 31 ∧ (2 : Int) ^ k ≤ x ∧ x < 2 ^ (k + 1) ∧ blen x = k + 1 := by
  have hb : ∀ n : Nat, n ≤ 32 → x < 2 ^ n → ∃ k : Nat, k < n ∧ (2 : Int) ^ k ≤ x ∧ x < 2 ^ (k + 1) := by
    intro n
    induction n with
    | zero => intro _ h; simp at h; omega
    | succ n ih =>
      intro hn h
      rcases Int.lt_or_le x (2 ^ n) with h' | h'
      · obtain ⟨k, a, b⟩ := ih (by omega) h'
        exact ⟨k, by omega, b⟩
      · exact ⟨n, by omega, h', h⟩
  obtain ⟨k, hk, a, b⟩ := hb 32 (by omega) (by omega)
  exact ⟨k, by omega, a, b, blen_of k (by omega) a b⟩

/-- math/bits.Len32, of a number that is not known -/
def gLen (cx : Cx) : List SV → Option SV
  | [.int .u32 (.c _)] => none
  | [.int .u32 e] => if ivIn (e.iv cx) 0 4294967295 then some (.int .i64 (.f 0 e (.c 0) (.c 0))) else none
  | _ => none

theorem gLen_ok {cx : Cx} (hF : cx.F = fN) {f : FuncId} (h : ∀ (x : Int) (w : World), 0 ≤ x → x ≤ 4294967295 → Calls cx.P f #[.int .u32 x] w fun e w' => e = .returned (.int .i64 (Lib.bitLen x.toNat)) ∧ w' = w)
    (ρ : Env) (β : Bt) (w : World) (args : List SV) (v : SV) (hρ : EnvOk cx ρ) (hg : gLen cx args = some v) :
    Calls cx.P f (SV.denL ρ β args).toArray w fun e w' => e = .returned (v.den ρ β) ∧ Below w.heap.size w w' := by
  unfold gLen at hg
  split at hg
  · cases hg
  · rename_i e _
    split at hg
    · rename_i hi
      cases hg
      obtain ⟨a, b⟩ := ivIn_ok hi (E.iv_ok hρ e)
      refine (h (e.ev ρ) w a b).mono ?_
      rintro x w' ⟨rfl, rfl⟩
      refine ⟨?_, Below.refl _ _⟩
      simp only [SV.den, E.ev, hρ.hF, hF, fN, blen]
      rw [Int.emod_eq_of_lt a (by omega)]
    · cases hg
  · cases hg

/-- math/bits.Len64, of a number that is not known -/
def gLen64 (cx : Cx) : List SV → Option SV
  | [.int .u64 (.c _)] => none
  | [.int .u64 e] => if ivIn (e.iv cx) 0 18446744073709551615 then some (.int .i64 (.f 3 e (.c 0) (.c 0))) else none
  | _ => none

theorem gLen64_ok {cx : Cx} (hF : cx.F = fN) {f : FuncId} (h : ∀ (x : Int) (w : World), 0 ≤ x → x ≤ 18446744073709551615 → Calls cx.P f #[.int .u64 x] w fun e w' => e = .returned (.int .i64 (Lib.bitLen x.toNat)) ∧ w' = w)
    (ρ : Env) (β : Bt) (w : World) (args : List SV) (v : SV) (hρ : EnvOk cx ρ) (hg : gLen64 cx args = some v) :
    Calls cx.P f (SV.denL ρ β args).toArray w fun e w' => e = .returned (v.den ρ β) ∧ Below w.heap.size w w' := by
  unfold gLen64 at hg
  split at hg
  · cases hg
  · rename_i e _
    split at hg
    · rename_i hi
      cases hg
      obtain ⟨a, b⟩ := ivIn_ok hi (E.iv_ok hρ e)
      refine (h (e.ev ρ) w a b).mono ?_
      rintro x w' ⟨rfl, rfl⟩
      refine ⟨?_, Below.refl _ _⟩
      simp only [SV.den, E.ev, hρ.hF, hF, fN, blen64]
      rw [Int.emod_eq_of_lt a (by omega)]
    · cases hg
  · cases hg

end Go.Eng
end

/-! A symbolic executor, part TI: arguments that are arrays of numbers; the round product and the saturated sum, in plain numbers. -/
section
set_option linter.unusedVariables false
set_option linter.unusedSimpArgs false
namespace Go.Eng
open Go.RowKit Go.WideShapes Go.ChangeShapes

theorem wf_bd {k : IntKind} {x : Int} (h : (Lit.int k x).wf = true) : klo k ≤ x ∧ x ≤ khi k := by
  cases k <;> simpa [Lit.wf, IntKind.min, IntKind.max, IntKind.bits, IntKind.signed, klo, khi] using h

section
variable {H : Type} {enc : TypeId × Value → H} {P : Program} {w : World} {base : Nat} {spare : Nat → Bool} {held : Bool}

theorem mapM_some_of {α γ : Type} (f : α → Option γ) (g : α → γ) : ∀ (l : List α), (∀ a ∈ l, f a = some (g a)) → l.mapM f = some (l.map g)
  | [], _ => rfl
  | a :: l, h => by
    rw [List.mapM_cons, h a (by simp), mapM_some_of f g l (fun x hx => h x (by simp [hx]))]
    rfl

theorem open_arrI {r : Reach} {b0 : Nat} {t e : TypeId} {n : Nat} {k : IntKind} {v : Value} {d : DataW H} {ps : List MemPlace} (ht : P.underlying t = some (.array n e)) (he : P.underlying e = some (.int k)) (hce : P.cellsOf e = 1) (hct : P.cellsOf t = n)
    (hval : Value.okWide P w r b0 t v) (hd : DataW.Trod enc P w base spare held t v d ps) :
    ∃ xs : List Int, xs.length = n ∧ v = .agg (xs.map (Value.int k)).toArray ∧ d = .agg (xs.map fun x => .lit (.int k x)) ∧ ps = [] ∧ ∀ x ∈ xs, (Lit.int k x).wf = true := by
  have hv : ∃ cs : Array Value, v = .agg cs ∧ cs.size = n := by
    simp only [Value.okWide, ht] at hval
    obtain ⟨cs, h1, h2, _⟩ := hval
    exact ⟨cs, h1, by rw [h2, hct]⟩
  obtain ⟨cs, rfl, hn⟩ := hv
  obtain ⟨fuel, hf⟩ := hd
  obtain ⟨xs, m, rfl, hx, hl, hxl, hall⟩ := DataW.trod_array ht hf
  have key : ∀ i, i < n → ∃ a, cs.toList[i]? = some (.int k a) ∧ xs[i]? = some (.lit (.int k a), []) ∧ (Lit.int k a).wf = true := by
    intro i hi
    have h := hall i hi
    rw [hce, Nat.mul_one] at h
    have hxi : ∃ y, xs[i]? = some y := by
      rw [List.getElem?_eq_getElem (by omega)]
      exact ⟨_, rfl⟩
    obtain ⟨y, hy⟩ := hxi
    rw [hy] at h
    obtain ⟨a, h1, h2, h3⟩ := DataW.trod_int he h
    refine ⟨a, ?_, by rw [hy, h2], h3⟩
    have hc : ((Value.agg cs).cells.toList.drop i).take 1 = [.int k a] := h1
    have hci : (Value.agg cs).cells.toList[i]? = some (.int k a) := by
      have : (((Value.agg cs).cells.toList.drop i).take 1)[0]? = some (.int k a) := by rw [hc]; rfl
      simpa [List.getElem?_take, List.getElem?_drop] using this
    exact hci
  let f : Nat → Int := fun i => if h : i < n then Classical.choose (key i h) else 0
  have hf' : ∀ i (h : i < n), cs.toList[i]? = some (.int k (f i)) ∧ xs[i]? = some (.lit (.int k (f i)), []) ∧ (Lit.int k (f i)).wf = true := by
    intro i h
    have := Classical.choose_spec (key i h)
    simp only [f, h, dif_pos]
    exact this
  refine ⟨(List.range n).map f, by simp, ?_, ?_, ?_, ?_⟩
  · congr 1
    apply Array.ext'
    apply List.ext_getElem?
    intro i
    rcases Nat.lt_or_ge i n with h | h
    · rw [(hf' i h).1]; simp [h]
    · rw [List.getElem?_eq_none (by simpa [hn] using h)]; simp [h]
  · have hx1 := (Prod.mk.inj hx).1
    rw [hx1]
    congr 1
    apply List.ext_getElem?
    intro i
    rcases Nat.lt_or_ge i n with h | h
    · rw [List.getElem?_map, (hf' i h).2.1]; simp [h]
    · rw [List.getElem?_eq_none (by simpa [hxl] using h)]; simp [h]
  · have hx2 := (Prod.mk.inj hx).2
    rw [hx2]
    rw [List.flatMap_eq_nil_iff]
    intro y hy
    obtain ⟨i, hi⟩ := List.mem_iff_getElem?.1 hy
    rcases Nat.lt_or_ge i n with h | h
    · rw [(hf' i h).2.1] at hi
      cases hi; rfl
    · rw [List.getElem?_eq_none (by omega)] at hi; cases hi
  · intro x hx'
    obtain ⟨i, hi, rfl⟩ := List.mem_map.1 hx'
    exact (hf' i (by simpa using hi)).2.2

theorem shut_arrI {t e : TypeId} {n : Nat} {k : IntKind} {xs : List Int} (ht : P.underlying t = some (.array n e)) (he : P.underlying e = some (.int k)) (hce : P.cellsOf e = 1) (hct : P.cellsOf t = n) (hl : xs.length = n) (hw : ∀ x ∈ xs, (Lit.int k x).wf = true) :
    DataW.Trod enc P w base spare held t (.agg (xs.map (Value.int k)).toArray) (.agg (xs.map fun x => .lit (.int k x))) [] := by
  refine ⟨2, ?_⟩
  have hm : (List.range n).mapM (fun i => DataW.trod enc P w base spare held 1 e ((((Value.agg (xs.map (Value.int k)).toArray).cells.toList).drop (i * P.cellsOf e)).take (P.cellsOf e))) = some ((List.range n).map fun i => ((DataW.lit (.int k (xs.getD i 0)) : DataW H), ([] : List MemPlace))) := by
    refine mapM_some_of _ _ _ fun i hi => ?_
    have hi' : i < xs.length := by simpa [hl] using hi
    have hc : (((Value.agg (xs.map (Value.int k)).toArray).cells.toList).drop (i * P.cellsOf e)).take (P.cellsOf e) = [.int k xs[i]] := by
      rw [hce, Nat.mul_one]
      simp [Value.cells, List.drop_eq_getElem_cons, hi']
    rw [hc]
    have hwf := hw xs[i] (List.getElem_mem hi')
    simp [DataW.trod, he, hwf, List.getD_eq_getElem?_getD, hi']
  unfold DataW.trod
  rw [ht]
  have hlen : (Value.agg (xs.map (Value.int k)).toArray).cells.toList.length = P.cellsOf t := by rw [hct]; simp [Value.cells, hl]
  simp only [Value.cells] at hm hlen ⊢
  simp only [hlen, if_true, hm, Option.map_some, Option.some.injEq, Prod.mk.injEq, DataW.agg.injEq]
  refine ⟨?_, ?_⟩
  · apply List.ext_getElem?
    intro i
    rcases Nat.lt_or_ge i n with h | h
    · simp [h, show i < xs.length by omega, List.getD_eq_getElem?_getD]
    · simp [show xs.length ≤ i by omega, show n ≤ i from h]
  · simp
end

/-! ### plain numbers -/

theorem and1 (q : Int) : IntKind.wrap .i64 ((BitVec.ofInt IntKind.i64.bits q &&& BitVec.ofInt IntKind.i64.bits 1).toNat : Int) = q % 2 := by
  have h3 : (BitVec.ofInt IntKind.i64.bits 1).toNat = 1 := by decide
  have h2 : ((BitVec.ofInt IntKind.i64.bits q).toNat : Int) = q % 18446744073709551616 := by
    have : IntKind.i64.bits = 64 := rfl
    rw [this, BitVec.toNat_ofInt]
    have h : (((2 ^ 64 : Nat)) : Int) = 18446744073709551616 := by decide
    rw [h]
    omega
  have hm : ((BitVec.ofInt IntKind.i64.bits q &&& BitVec.ofInt IntKind.i64.bits 1).toNat : Int) = q % 2 := by
    rw [BitVec.toNat_and, h3, Nat.and_one_is_mod]
    omega
  rw [hm]
  exact wrap_in _ _ (by simp [klo]; omega) (by simp [khi]; omega)

/-- what is cut at 32 bits -/
def satZ (m : Int) : Int := if m < -2147483648 then -2147483648 else if 2147483647 < m then 2147483647 else m

theorem sat_eq (k : IntKind) (m : Int) : BO.ev .min k (BO.ev .max k m (-2147483648)) 2147483647 = satZ m := by
  simp only [BO.ev, satZ]
  split <;> split <;> (try split) <;> omega
theorem satZ_id {m : Int} (h1 : -2147483648 ≤ m) (h2 : m ≤ 2147483647) : satZ m = m := by
  unfold satZ; split <;> (try split) <;> omega
theorem satZ_bd (m : Int) : -2147483648 ≤ satZ m ∧ satZ m ≤ 2147483647 := by
  unfold satZ; split <;> (try split) <;> omega

theorem mulqZ_eq (x y : Int) : mulqZ x y = satZ ((x * y + 536870912) / 1073741824) := by
  unfold mulqZ
  rw [sat_eq]
  congr 1
  generalize x * y = p
  have e1 : BO.ev .shr .i64 p 30 = p / 1073741824 := by
    simp only [BO.ev]
    have : Nat.min (Int.toNat 30) IntKind.i64.bits = 30 := rfl
    rw [this, Int.fdiv_eq_ediv_of_nonneg _ (by decide)]; rfl
  have e2 : BO.ev .shr .i64 p 29 = p / 536870912 := by
    simp only [BO.ev]
    have : Nat.min (Int.toNat 29) IntKind.i64.bits = 29 := rfl
    rw [this, Int.fdiv_eq_ediv_of_nonneg _ (by decide)]; rfl
  have e3 : BO.ev .and .i64 (p / 536870912) 1 = (p / 536870912) % 2 := and1 _
  rw [e1, e2, e3]
  simp only [BO.ev]
  omega

theorem mulq_one_l {x : Int} (h1 : -2147483648 ≤ x) (h2 : x ≤ 2147483647) : mulqZ 1073741824 x = x := by
  rw [mulqZ_eq, show (1073741824 * x + 536870912) / 1073741824 = x by omega, satZ_id h1 h2]
theorem mulq_one_r {x : Int} (h1 : -2147483648 ≤ x) (h2 : x ≤ 2147483647) : mulqZ x 1073741824 = x := by
  rw [mulqZ_eq, show (x * 1073741824 + 536870912) / 1073741824 = x by omega, satZ_id h1 h2]
theorem mulq_zero_l (x : Int) : mulqZ 0 x = 0 := by
  rw [mulqZ_eq, Int.zero_mul]; rfl
theorem mulq_zero_r (x : Int) : mulqZ x 0 = 0 := by
  rw [mulqZ_eq, Int.mul_zero]; rfl

end Go.Eng
end

/-! A symbolic executor, part TJ: tables of types and functions as trees. -/
section
set_option linter.unusedVariables false
set_option linter.unusedSimpArgs false
namespace Go.Eng

inductive BT (α : Type) where
  | nil
  | node (k : Nat) (v : α) (l r : BT α)

def BT.find {α : Type} : BT α → Nat → Option α
  | .nil, _ => none
  | .node k v l r, i => match Nat.beq i k with
    | true => some v
    | false => match Nat.blt i k with
      | true => l.find i
      | false => r.find i

def BT.All {α : Type} (p : Nat → α → Prop) : BT α → Prop
  | .nil => True
  | .node k v l r => p k v ∧ BT.All p l ∧ BT.All p r

theorem BT.find_all {α : Type} {p : Nat → α → Prop} : ∀ {t : BT α} {i : Nat} {v : α}, t.All p → t.find i = some v → p i v
  | .nil, i, v, _, h => by cases h
  | .node k u l r, i, v, ha, h => by
    simp only [BT.find] at h
    split at h
    · rename_i hk
      cases h
      have : i = k := Nat.eq_of_beq_eq_true hk
      subst this
      exact ha.1
    · split at h
      · exact BT.find_all ha.2.1 h
      · exact BT.find_all ha.2.2 h

def infB (t : BT TypeInfo) (i : TypeId) : Option TypeInfo := t.find i
def undB (t : BT TypeInfo) (i : TypeId) : Option TypeDesc :=
  match t.find i with
  | some j => match j.desc with
    | .named _ u => (match t.find u with
      | some k => some k.desc
      | none => none)
    | d => some d
  | none => none
def fnB (t : BT Func) (i : FuncId) : Option Func := t.find i

theorem undB_ok {P : Program} {t : BT TypeInfo} (h : t.All fun i v => P.info? i = some v) (i : TypeId) (d : TypeDesc) (hd : undB t i = some d) : P.underlying i = some d := by
  unfold undB at hd
  split at hd
  · rename_i j hj
    have h1 := BT.find_all h hj
    obtain ⟨desc, a1, a2, a3, a4, a5, a6, a7, a8, a9⟩ := j
    simp only at hd
    split at hd
    · rename_i n u
      split at hd <;> cases hd
      rename_i k hk
      have h2 := BT.find_all h hk
      simp only [Program.underlying, h1, h2, Option.map_some]
    · rename_i hno
      cases hd
      unfold Program.underlying
      rw [h1]
      cases d <;> first | rfl | (exact (hno _ _ rfl).elim)
  · cases hd

/-! ### the tables of all regions -/

abbrev RowT := BT (BT (List Row))
def rtsB (t : RowT) : RTS := fun f => match t.find f with
  | some v => fun id => v.find id
  | none => fun _ => none
def chkF (fn : Func) (v : BT (List Row)) : Bool := match fn.body with
  | some c => rtChk (fun id => v.find id) c
  | none => true
def RowAt (P : Program) (f : FuncId) (v : BT (List Row)) : Prop := ∀ fn c, P.funcs[f]? = some fn → fn.body = some c → RtOk (fun id => v.find id) c
theorem rowAt_of {P : Program} {f : FuncId} {fn : Func} {v : BT (List Row)} (hf : P.funcs[f]? = some fn) (h : chkF fn v = true) : RowAt P f v := by
  intro fn' c h1 h2
  rw [hf] at h1
  cases h1
  simp only [chkF, h2] at h
  exact rtChk_ok h
theorem rtsB_ok {P : Program} {t : RowT} (h : t.All (RowAt P)) : RtsOk P (rtsB t) := by
  intro f fn c h1 h2
  unfold rtsB
  cases ht : t.find f with
  | none => exact fun id ops _ u hu => by cases hu
  | some v => exact BT.find_all h ht fn c h1 h2

end Go.Eng
end

/-! A symbolic executor, part TK: what comes in: numbers, rows, tables. -/
section
set_option linter.unusedVariables false
set_option linter.unusedSimpArgs false
set_option linter.unusedSectionVars false
namespace Go.Eng
open Go.RowKit

def ptr0 : Value := .pointer (some ⟨0, 0, none⟩)
def roNone : RO := ⟨none, 0, [], 0, 0⟩
/-- the arguments as an environment -/
noncomputable def envR (l : List Int) (ro : List RO) : Env := ⟨fun i => l.getD i 0, fN, fun _ => ptr0, fun k => ro.getD k roNone⟩

def InOne (ρ : Env) (d : InD) (r : RO) : Prop :=
  r.cks = d.cks ∧ r.c = d.c.ev ρ ∧ r.n = (d.n.ev ρ).toNat ∧ r.cap = (d.cap.ev ρ).toNat ∧ (r.a = none → r.n = 0) ∧ ∀ g, d.g = some g → r.a = some ⟨g, 0, none⟩
def InOk (ρ : Env) : List InD → List RO → Prop
  | [], _ => True
  | d :: l, r :: m => InOne ρ d r ∧ InOk ρ l m
  | _ :: _, [] => False
theorem InOk.get {ρ : Env} : ∀ {l : List InD} {m : List RO}, InOk ρ l m → ∀ k d, l[k]? = some d → InOne ρ d (m.getD k roNone)
  | d :: l, r :: m, h, 0, d', hd => by cases hd; exact h.1
  | d :: l, r :: m, h, k + 1, d', hd => by
    have := h.2.get k d' (by simpa using hd)
    simpa using this
  | [], _, _, k, d, hd => by simp at hd
  | _ :: _, [], h, _, _, _ => h.elim

abbrev Bnd (g : List (Int × Int)) (l : List Int) : Prop := ∀ i p, g[i]? = some p → p.1 ≤ l.getD i 0 ∧ l.getD i 0 ≤ p.2
theorem bnd_nil (l : List Int) : Bnd [] l := fun i p h => by simp at h
theorem bnd_cons {p : Int × Int} {g : List (Int × Int)} {x : Int} {l : List Int} (h : p.1 ≤ x ∧ x ≤ p.2) (ht : Bnd g l) : Bnd (p :: g) (x :: l)
  | 0, q, hq => by cases hq; exact h
  | i + 1, q, hq => by simpa using ht i q (by simpa using hq)

theorem envR_ok {cx : Cx} (hF : cx.F = fN) (hΦ : cx.Φ = phiN) {l : List Int} {ro : List RO} (h : Bnd cx.Γ l) (hi : InOk (envR l ro) cx.ins ro) : EnvOk cx (envR l ro) :=
  ⟨h, fun n p x y z h => phiN_ok n p x y z (by rw [← hΦ]; exact h), fun _ => ⟨_, rfl⟩, hF.symm, fun k d hd => hi.get k d hd⟩

/-- where a row lies -/
def RoAt (w : World) (r : RO) : Prop := ∀ a i x, r.a = some a → (rowV r.cks r.c r.n)[i]? = some x → w.cell? (a.add i) = some x
def RoAll (w : World) : List RO → Prop
  | [] => True
  | r :: l => RoAt w r ∧ RoAll w l
theorem RoAll.get {w : World} : ∀ {l : List RO}, RoAll w l → ∀ k, RoAt w (l.getD k roNone)
  | [], _, k => fun a i x ha => by simp [roNone] at ha
  | r :: l, h, 0 => h.1
  | r :: l, h, k + 1 => by have := h.2.get k; simpa using this
theorem roOk_of {w : World} {l : List Int} {ro : List RO} (h : RoAll w ro) : RoOk (envR l ro) b0 ⟨[], []⟩ w :=
  fun k a i x e1 e2 => ⟨h.get k a i x e1 e2, fun _ hj => absurd hj live_nil⟩

/-! ### tables of numbers -/

theorem rdZ_LZ (l : List Int) (i : Int) : rdZ (LZ l) i = l.getD i.toNat 0 := by unfold rdZ; rw [ZL_LZ]

theorem rowV_ints {k : IntKind} : ∀ (zs : List Int), (∀ z ∈ zs, k.wrap z = z) → rowV [.int k] (LZ zs) zs.length = zs.map (Value.int k) := by
  intro zs h
  apply List.ext_getElem?
  intro i
  rcases Nat.lt_or_ge i zs.length with hi | hi
  · have h1 := rowV_get [.int k] (LZ zs) (n := zs.length) (k := i) (r := 0) hi (by simp)
    simp only [List.length_singleton, Nat.mul_one, Nat.add_zero] at h1
    rw [h1, List.getElem?_map, List.getElem?_eq_getElem hi, rdZ_LZ, Int.toNat_natCast, List.getD_eq_getElem?_getD, List.getElem?_eq_getElem hi]
    have := h zs[i] (List.getElem_mem hi)
    simp [elemV, ckV, this]
  · rw [List.getElem?_eq_none (by rw [rowV_len]; simpa using hi), List.getElem?_eq_none (by simpa using hi)]

/-- a table of numbers that is laid, as a row that came in -/
def tabRo (g : Nat) (k : IntKind) (zs : List Int) : RO := ⟨some ⟨g, 0, none⟩, zs.length, [.int k], LZ zs, zs.length⟩
theorem tabRo_at {P : Program} {W : World} {name : String} {k : IntKind} {zs : List Int} {g : Nat} (h : Lib.TabIs P W name k zs) (hg : P.globalNamed name = some g) (hz : ∀ z ∈ zs, k.wrap z = z) : RoAt W (tabRo g k zs) := by
  intro a i x ha hx
  cases ha
  have hx' : (rowV [.int k] (LZ zs) zs.length)[i]? = some x := hx
  rw [rowV_ints zs hz] at hx'
  have hi : i < zs.length := by
    rcases Nat.lt_or_ge i zs.length with h | h
    · exact h
    · rw [List.getElem?_eq_none (by simpa using h)] at hx'; cases hx'
  have hc := h.cell hg i hi
  rw [List.getElem?_map, List.getElem?_eq_getElem hi] at hx'
  rw [List.getD_eq_getElem?_getD, List.getElem?_eq_getElem hi] at hc
  cases hx'
  have e : (⟨g, 0, none⟩ : Addr).add i = ⟨g, i, none⟩ := by
    unfold Addr.add
    split
    · rename_i h0; have : i = 0 := by simpa using h0
      subst this; rfl
    · simp
  rw [e]
  simpa using hc

end Go.Eng
end

/-! A symbolic executor, part TL: the names of the operations in plain statements. -/
section
set_option linter.unusedVariables false
set_option linter.unusedSimpArgs false
set_option linter.unusedSectionVars false
namespace Go.Eng
open Go.RowKit Go.WideShapes Go.ChangeShapes

/-! ### words for the plain statement -/
def sat32 (m : Int) : Int := BO.ev .min .i64 (BO.ev .max .i64 m (-2147483648)) 2147483647
def band (k : IntKind) (x y : Int) : Int := BO.ev .and k x y
def bor (k : IntKind) (x y : Int) : Int := BO.ev .or k x y
def bxor (k : IntKind) (x y : Int) : Int := BO.ev .xor k x y
def bandn (k : IntKind) (x y : Int) : Int := BO.ev .andNot k x y
def shlZ (k : IntKind) (x y : Int) : Int := BO.ev .shl k x y
def shrZ (k : IntKind) (x y : Int) : Int := BO.ev .shr k x y
def minZ (x y : Int) : Int := if y < x then y else x
def iteZ (t x y : Int) : Int := if t ≠ 0 then x else y
def maxZ (x y : Int) : Int := if y > x then y else x

/-! ### the row's end, where old memory is all that is known -/
section
variable {H : Type} {enc : TypeId × Value → H} {P : Program}
theorem post_below {f : Func} {s : ChangeSpec} {apart fresh handsOn again : Bool} {W W' : World} {args : Array Value} {v : Value} {ds gs : List (DataW H)} {before pa pv : List MemPlace}
    (hW : DataW.Whole enc P f.params.toList s.vars apart W args.toList ds gs before) (hb : Below W.heap.size W W')
    (hres : ∀ (b : Nat) (sp : Nat → Bool) (hd : Bool), DataW.TrodAll enc P W' b sp hd f.resultTypes.toList (v.resultList f.resultTypes.size) (s.fn H (ds ++ gs)).results [])
    (hargs : ∀ sp : Nat → Bool, (∀ p ∈ before, sp p.block = true) → DataW.TrodAll enc P W' 0 sp true f.params.toList args.toList (s.fn H (ds ++ gs)).args pa)
    (hvars : ∀ sp : Nat → Bool, (∀ p ∈ before, sp p.block = true) → DataW.TrodVars enc P W' sp s.vars (s.fn H (ds ++ gs)).vars pv)
    (hps : before = pa ++ pv)
    (hok : ∀ (j : Nat) (t : TypeId) (r : Value), f.resultTypes[j]? = some t → (v.resultList f.resultTypes.size)[j]? = some r → Value.okWide P W' .any 0 t r) :
    s.post enc P f apart fresh handsOn again W args v W' := by
  subst hps
  have hold : ∀ p ∈ pa ++ pv, (fun b => decide (b < W.heap.size)) p.block = true := fun p hp => by simpa using hW.lt p hp
  refine ⟨ds, gs, pa ++ pv, [], pa, pv, hW, hres _ _ _, hargs _ hold, hvars _ hold, World.keptBut_mono (fun p hp => ⟨hp, .inr (List.mem_append.1 hp)⟩) (hb.frame (· ∈ pa ++ pv)), fun _ => ?_⟩
  have hlt : ∀ p ∈ pa ++ pv, p.block < W.heap.size := fun p hp => hW.lt p hp
  obtain ⟨_, _, _, _, _, hz, hn⟩ := hW
  refine ⟨hok, _, _, ([] ++ pa) ++ pv, ⟨[] ++ pa, pv, trodAll_append (hargs _ fun _ _ => rfl) (hres _ _ _), hvars _ fun _ _ => rfl, rfl, ?_, fun ha => by simpa using hn ha⟩, fun p hp _ => by simpa using hp⟩
  intro b off hp
  have hin : MemPlace.cell b off ∈ pa ++ pv := by simpa using hp
  rw [hb.frozen (hlt _ hin)]
  exact hz b off hin
end
end Go.Eng
end

/-! A symbolic executor, part TN: contracts by templates: a function of numbers, told once by an expression, is from then on filled in. -/
section
set_option linter.unusedVariables false
set_option linter.unusedSimpArgs false
set_option linter.unusedSectionVars false
namespace Go.Eng
open Go.RowKit

def roBlank : RO := ⟨none, 0, [], 0, 0⟩
/-- nothing that came in is known -/
def Blank (ρ : Env) : Prop := ∀ k, ρ.ro k = roBlank
theorem blank_ro {ρ : Env} (h : Blank ρ) {β : Bt} {s : St} {w : World} : RoOk ρ β s w := fun k a i x e1 _ => by rw [h k] at e1; cases e1

/-! ### the value of a run that leaves no memory -/

def T.gives (ρ : Env) (X : Value) : T SV → Prop
  | .leaf a => a.den ρ b0 = X
  | .br e t f => (e.ev ρ ≠ 0 → T.gives ρ X t) ∧ (e.ev ρ = 0 → T.gives ρ X f)
  | .bad _ => False
  | .new _ _ _ => False

def projV : R → T SV
  | .leaf (v, _) => if v.sc 0 then .leaf v else .bad 91
  | .br e t f => .br e (projV t) (projV f)
  | .bad n => .bad n
  | .new _ _ _ => .bad 92

theorem projV_sel {ρ : Env} {X : Value} : ∀ {r : R}, T.gives ρ X (projV r) → ∃ v s', r.sel ρ = some (v, s') ∧ v.sc 0 = true ∧ v.den ρ b0 = X
  | .leaf (v, s'), h => by
    simp only [projV] at h
    split at h
    · rename_i hv; exact ⟨v, s', rfl, hv, h⟩
    · cases h
  | .br c t f, h => by
    simp only [projV, T.gives] at h
    simp only [T.sel]
    split
    · rename_i hc; exact projV_sel (h.1 hc)
    · rename_i hc; exact projV_sel (h.2 (by simpa using hc))
  | .bad n, h => by cases h
  | .new _ _ _, h => by cases h

def T.beqV : T SV → T SV → Bool
  | .leaf a, .leaf b => a.beq b
  | .br e t f, .br e' t' f' => e.beq e' && T.beqV t t' && T.beqV f f'
  | .bad n, .bad m => n == m
  | _, _ => false
theorem T.eq_of_beqV : ∀ {x y : T SV}, T.beqV x y = true → x = y
  | .leaf a, .leaf b, h => by rw [SV.eq_of_beq _ _ h]
  | .br e t f, .br e' t' f', h => by
    simp only [T.beqV, Bool.and_eq_true] at h
    rw [E.eq_of_beq h.1.1, T.eq_of_beqV h.1.2, T.eq_of_beqV h.2]
  | .bad n, .bad m, h => by simp [T.beqV] at h; rw [h]
  | .leaf _, .br _ _ _, h => by cases h
  | .leaf _, .bad _, h => by cases h
  | .br _ _ _, .leaf _, h => by cases h
  | .br _ _ _, .bad _, h => by cases h
  | .bad _, .leaf _, h => by cases h
  | .bad _, .br _ _ _, h => by cases h
  | .new _ _ _, _, h => by simp [T.beqV] at h
  | .leaf _, .new _ _ _, h => by cases h
  | .br _ _ _, .new _ _ _, h => by cases h
  | .bad _, .new _ _ _, h => by cases h

theorem value_of {cx : Cx} {cf : CF} (hcf : CallOk cx cf) {ρ : Env} (hρ : EnvOk cx ρ) (hb : Blank ρ) {f : FuncId} {args : List SV} {t : T SV} (ht : T.beqV (projV (cf f args ⟨[], []⟩)) t = true) {X : Value} (hh : T.gives ρ X t)
    {vs : Array Value} (hv : vs = (SV.denL ρ b0 args).toArray) (w : World) :
    Calls cx.P f vs w fun e w' => e = .returned X ∧ Below w.heap.size w w' := by
  subst hv
  have ht := T.eq_of_beqV ht
  subst ht
  obtain ⟨v, s', hsel, hsc, hX⟩ := projV_sel hh
  refine (hcf ρ _ _ _ w f args _ hρ (sat_nil (blank_ro hb)) hsel).mono ?_
  rintro x w' ⟨β', rfl, _, hx⟩
  refine ⟨?_, below_ext rfl hx⟩
  rw [← hX, SV.den_sc (n := 0) (fun j hj => by omega) v hsc]

/-- a context that names more, or less: what is told of functions in the one is told in the other -/
theorem envOk_sh {cx : Cx} {n m : Nat} {ρ : Env} (h : EnvOk { cx with sh := n } ρ) : EnvOk { cx with sh := m } ρ := ⟨h.hi, h.hf, h.hv, h.hF, h.hro⟩

def E.f' (F : Nat → Int → Int → Int → Int) (n : Nat) (x y z : E) : E :=
  match x, y, z with
  | .c p, .c q, .c r => .c (F n p q r)
  | x, y, z => .f n x y z

theorem E.f'_ev {cx : Cx} {ρ : Env} (hρ : EnvOk cx ρ) (n : Nat) (x y z : E) : (E.f' cx.F n x y z).ev ρ = ρ.f n (x.ev ρ) (y.ev ρ) (z.ev ρ) := by
  unfold E.f'
  split
  · simp only [E.ev, hρ.hF]
  · rfl

def E.ite' (t x y : E) : E :=
  match t with
  | .c n => if n = 0 then y else x
  | t => .ite t x y
theorem E.ite'_ev (ρ : Env) (t x y : E) : (E.ite' t x y).ev ρ = if t.ev ρ ≠ 0 then x.ev ρ else y.ev ρ := by
  unfold E.ite'
  split
  · simp only [E.ev]; split <;> simp_all
  · rfl

/-- an expression, filled in -/
def E.sub (cx : Cx) (σ : List E) : E → E
  | .c n => .c n
  | .v i => σ.getD i (.c 0)
  | .b o k x y => E.b' cx o k (x.sub cx σ) (y.sub cx σ)
  | .w k x => E.w' cx k (x.sub cx σ)
  | .nt x => E.nt' (x.sub cx σ)
  | .ite t x y => E.ite' (t.sub cx σ) (x.sub cx σ) (y.sub cx σ)
  | .f n x y z => E.f' cx.F n (x.sub cx σ) (y.sub cx σ) (z.sub cx σ)
  | .cl i l h => .ite (.b .lt .i64 (σ.getD i (.c 0)) (.c l)) (.c l) (.ite (.b .lt .i64 (.c h) (σ.getD i (.c 0))) (.c h) (σ.getD i (.c 0)))

def subEnv (ρ : Env) (σ : List E) : Env := ⟨fun i => (σ.getD i (.c 0)).ev ρ, ρ.f, ρ.v, ρ.ro⟩

theorem E.sub_ev {cx : Cx} {ρ : Env} (hρ : EnvOk cx ρ) (σ : List E) (e : E) : (e.sub cx σ).ev ρ = e.ev (subEnv ρ σ) := by
  induction e with
  | c n => rfl
  | v i => rfl
  | b o k x y hx hy => simp only [E.sub, E.b'_ev hρ, hx, hy]; rfl
  | w k x hx => simp only [E.sub, E.w'_ev hρ, hx]; rfl
  | nt x hx => simp only [E.sub, E.nt'_ev, hx]; rfl
  | ite t x y ht hx hy => simp only [E.sub, E.ite'_ev, ht, hx, hy]; rfl
  | f n x y z hx hy hz => simp only [E.sub, E.f'_ev hρ, hx, hy, hz]; rfl
  | cl i l h =>
    simp only [E.sub, E.ev, BO.ev, subEnv, clampZ]
    by_cases h1 : (σ.getD i (.c 0)).ev ρ < l
    · simp [h1, bool01]
    · by_cases h2 : h < (σ.getD i (.c 0)).ev ρ <;> simp [h1, h2, bool01]

mutual
def SV.sub (cx : Cx) (σ : List E) : SV → SV
  | .int k e => .int k (e.sub cx σ)
  | .bool e => .bool (e.sub cx σ)
  | .agg l => .agg (SV.subL cx σ l)
  | .tup l => .tup (SV.subL cx σ l)
  | x => x
def SV.subL (cx : Cx) (σ : List E) : List SV → List SV
  | [] => []
  | x :: l => x.sub cx σ :: SV.subL cx σ l
end

mutual
/-- numbers alone -/
def SV.nums : SV → Bool
  | .int _ _ => true
  | .bool _ => true
  | .agg l => SV.numsL l
  | .tup l => SV.numsL l
  | _ => false
def SV.numsL : List SV → Bool
  | [] => true
  | x :: l => x.nums && SV.numsL l
end

theorem E.ev_congr {ρ ρ' : Env} {σ : List E} (e : E) (hi : ρ'.i = (subEnv ρ σ).i) (hf : ρ'.f = ρ.f) : e.ev ρ' = e.ev (subEnv ρ σ) := by
  induction e with
  | c n => rfl
  | v i => simp only [E.ev, hi]
  | b o k x y hx hy => simp only [E.ev, hx, hy]
  | w k x hx => simp only [E.ev, hx]
  | nt x hx => simp only [E.ev, hx]
  | ite t x y ht hx hy => simp only [E.ev, ht, hx, hy]
  | f n x y z hx hy hz => simp only [E.ev, hx, hy, hz, hf]; rfl
  | cl i l h => simp only [E.ev, hi]

mutual
theorem SV.sub_den {cx : Cx} {ρ ρ' : Env} (hρ : EnvOk cx ρ) (β β' : Bt) (σ : List E) (hi : ρ'.i = (subEnv ρ σ).i) (hf : ρ'.f = ρ.f) : ∀ (x : SV), x.nums = true → (x.sub cx σ).den ρ β = x.den ρ' β'
  | .int k e, _ => by
    simp only [SV.sub, SV.den, E.sub_ev hρ, E.ev_congr e hi hf]
  | .bool e, _ => by
    simp only [SV.sub, SV.den, E.sub_ev hρ, E.ev_congr e hi hf]
  | .agg l, h => by simp only [SV.nums] at h; simp only [SV.sub, SV.den, SV.subL_den hρ β β' σ hi hf l h]
  | .tup l, h => by simp only [SV.nums] at h; simp only [SV.sub, SV.den, SV.subL_den hρ β β' σ hi hf l h]
  | .ptr _ _, h | .lit _, h | .any _, h | .slice _ _ _ _, h | .func _ _ _, h | .iface _ _, h => by cases h
theorem SV.subL_den {cx : Cx} {ρ ρ' : Env} (hρ : EnvOk cx ρ) (β β' : Bt) (σ : List E) (hi : ρ'.i = (subEnv ρ σ).i) (hf : ρ'.f = ρ.f) : ∀ (l : List SV), SV.numsL l = true → SV.denL ρ β (SV.subL cx σ l) = SV.denL ρ' β' l
  | [], _ => rfl
  | x :: l, h => by
    simp only [SV.numsL, Bool.and_eq_true] at h
    simp only [SV.subL, SV.denL, SV.sub_den hρ β β' σ hi hf x h.1, SV.subL_den hρ β β' σ hi hf l h.2]
end

/-! ### what is asked of the arguments: a pattern -/

mutual
def SV.bds : SV → List (Int × Int)
  | .int k _ => [(klo k, khi k)]
  | .bool _ => [(0, 1)]
  | .agg l => SV.bdsL l
  | _ => []
def SV.bdsL : List SV → List (Int × Int)
  | [] => []
  | x :: l => x.bds ++ SV.bdsL l
end

mutual
def SV.lin (n : Nat) : SV → Bool
  | .int _ (.v i) => i == n
  | .bool (.v i) => i == n
  | .agg l => SV.linL n l
  | _ => false
def SV.linL (n : Nat) : List SV → Bool
  | [] => true
  | x :: l => x.lin n && SV.linL (n + x.bds.length) l
end

mutual
def SV.mt (cx : Cx) : SV → SV → Option (List E)
  | .int k _, .int k' e => if k = k' ∧ ivIn (e.iv cx) (klo k) (khi k) = true then some [e] else none
  | .bool _, .bool e => if ivIn (e.iv cx) 0 1 = true then some [e] else none
  | .agg l, .agg l' => SV.mtL cx l l'
  | _, _ => none
def SV.mtL (cx : Cx) : List SV → List SV → Option (List E)
  | [], [] => some []
  | p :: ps, x :: xs => match p.mt cx x, SV.mtL cx ps xs with
    | some a, some c => some (a ++ c)
    | _, _ => none
  | _, _ => none
end

def bdOk (ρ : Env) (b : List (Int × Int)) (σ : List E) : Prop :=
  σ.length = b.length ∧ ∀ (i : Nat) (q : Int × Int), b[i]? = some q → q.1 ≤ (σ.getD i (.c 0)).ev ρ ∧ (σ.getD i (.c 0)).ev ρ ≤ q.2

theorem bdOk_one {ρ : Env} {q : Int × Int} {e : E} (h : q.1 ≤ e.ev ρ ∧ e.ev ρ ≤ q.2) : bdOk ρ [q] [e] :=
  ⟨rfl, fun i r hr => by
    cases i with
    | zero => cases hr; exact h
    | succ i => simp at hr⟩
theorem bdOk_app {ρ : Env} {b b' : List (Int × Int)} {σ σ' : List E} (h : bdOk ρ b σ) (h' : bdOk ρ b' σ') : bdOk ρ (b ++ b') (σ ++ σ') := by
  refine ⟨by simp [h.1, h'.1], fun i q hq => ?_⟩
  rw [List.getElem?_append] at hq
  rw [List.getD_eq_getElem?_getD, List.getElem?_append, h.1]
  split at hq
  · rename_i hi
    rw [if_pos hi, ← List.getD_eq_getElem?_getD]
    exact h.2 i q hq
  · rename_i hi
    rw [if_neg hi, ← List.getD_eq_getElem?_getD]
    exact h'.2 _ q hq

mutual
theorem SV.mt_bd {cx : Cx} {ρ : Env} (hρ : EnvOk cx ρ) : ∀ (p x : SV) {σ : List E}, p.mt cx x = some σ → bdOk ρ p.bds σ
  | .int k _, x, σ, h => by
    cases x <;> simp only [SV.mt] at h <;> try (cases h; done)
    split at h
    · rename_i hc
      cases h
      exact bdOk_one (ivIn_ok hc.2 (E.iv_ok hρ _))
    · cases h
  | .bool _, x, σ, h => by
    cases x <;> simp only [SV.mt] at h <;> try (cases h; done)
    split at h
    · rename_i hc
      cases h
      exact bdOk_one (ivIn_ok hc (E.iv_ok hρ _))
    · cases h
  | .agg l, x, σ, h => by
    cases x <;> simp only [SV.mt] at h <;> try (cases h; done)
    exact SV.mtL_bd hρ l _ h
  | .ptr _ _, _, _, h | .lit _, _, _, h | .any _, _, _, h | .slice _ _ _ _, _, _, h | .func _ _ _, _, _, h | .iface _ _, _, _, h | .tup _, _, _, h => by simp [SV.mt] at h
theorem SV.mtL_bd {cx : Cx} {ρ : Env} (hρ : EnvOk cx ρ) : ∀ (p x : List SV) {σ : List E}, SV.mtL cx p x = some σ → bdOk ρ (SV.bdsL p) σ
  | [], x, σ, h => by
    cases x <;> simp only [SV.mtL] at h <;> cases h
    exact ⟨rfl, fun i q hq => by simp [SV.bdsL] at hq⟩
  | p :: ps, x, σ, h => by
    cases x with
    | nil => simp [SV.mtL] at h
    | cons y ys =>
      simp only [SV.mtL] at h
      split at h
      · rename_i u v hu hv
        cases h
        exact bdOk_app (SV.mt_bd hρ p y hu) (SV.mtL_bd hρ ps ys hv)
      · cases h
end

mutual
theorem SV.mt_den {cx : Cx} {ρ ρ' : Env} (hρ : EnvOk cx ρ) (β β' : Bt) : ∀ (p x : SV) (n : Nat) {σ : List E}, p.mt cx x = some σ → p.lin n = true →
    (∀ (j : Nat) (e : E), σ[j]? = some e → ρ'.i (n + j) = e.ev ρ) → p.den ρ' β' = x.den ρ β
  | .int k e0, x, n, σ, h, hl, hv => by
    cases x <;> simp only [SV.mt] at h <;> try (cases h; done)
    split at h
    · rename_i hc
      cases h
      cases e0 <;> simp only [SV.lin] at hl <;> try (cases hl; done)
      rename_i i
      have hi : i = n := by simpa using hl
      rw [hi, hc.1]
      have := hv 0 _ rfl
      simp only [SV.den, E.ev]
      rw [← this]; rfl
    · cases h
  | .bool e0, x, n, σ, h, hl, hv => by
    cases x <;> simp only [SV.mt] at h <;> try (cases h; done)
    split at h
    · rename_i hc
      cases h
      cases e0 <;> simp only [SV.lin] at hl <;> try (cases hl; done)
      rename_i i
      have hi : i = n := by simpa using hl
      rw [hi]
      have := hv 0 _ rfl
      simp only [SV.den, E.ev]
      rw [← this]; rfl
    · cases h
  | .agg l, x, n, σ, h, hl, hv => by
    cases x <;> simp only [SV.mt] at h <;> try (cases h; done)
    simp only [SV.lin] at hl
    simp only [SV.den, SV.mtL_den hρ β β' l _ n h hl hv]
  | .ptr _ _, _, _, _, h, _, _ | .lit _, _, _, _, h, _, _ | .any _, _, _, _, h, _, _ | .slice _ _ _ _, _, _, _, h, _, _ | .func _ _ _, _, _, _, h, _, _ | .iface _ _, _, _, _, h, _, _ | .tup _, _, _, _, h, _, _ => by simp [SV.mt] at h
theorem SV.mtL_den {cx : Cx} {ρ ρ' : Env} (hρ : EnvOk cx ρ) (β β' : Bt) : ∀ (p x : List SV) (n : Nat) {σ : List E}, SV.mtL cx p x = some σ → SV.linL n p = true →
    (∀ (j : Nat) (e : E), σ[j]? = some e → ρ'.i (n + j) = e.ev ρ) → SV.denL ρ' β' p = SV.denL ρ β x
  | [], x, n, σ, h, hl, hv => by
    cases x <;> simp only [SV.mtL] at h <;> cases h
    rfl
  | p :: ps, x, n, σ, h, hl, hv => by
    cases x with
    | nil => simp [SV.mtL] at h
    | cons y ys =>
      simp only [SV.mtL] at h
      split at h
      · rename_i u v hu hv'
        cases h
        simp only [SV.linL, Bool.and_eq_true] at hl
        have hlen := (SV.mt_bd hρ p y hu).1
        have h1 := SV.mt_den (ρ' := ρ') hρ β β' p y n hu hl.1 (fun j e he => hv j e (by
          rw [List.getElem?_append_left]; exact he; exact (List.getElem?_eq_some_iff.1 he).1))
        have h2 := SV.mtL_den (ρ' := ρ') hρ β β' ps ys (n + p.bds.length) hv' hl.2 (fun j e he => by
          rw [Nat.add_assoc]
          refine hv _ e ?_
          rw [List.getElem?_append_right (by omega), hlen, show p.bds.length + j - p.bds.length = j by omega]
          exact he)
        simp only [SV.denL, h1, h2]
      · cases h
end

/-! ### templates -/

/-- a receiver: a struct of one interface, that holds a pointer; or (1000000) the pointer itself -/
def recvS (t : TypeId) (x : SV) : SV := match Nat.beq t 1000000 with
  | true => x
  | false => .agg [.iface t x]
def isRecv (t : TypeId) : SV → Bool
  | .agg [.iface t' (.ptr _ _)] => Nat.beq t t' && !Nat.beq t 1000000
  | .agg [.iface t' (.any _)] => Nat.beq t t' && !Nat.beq t 1000000
  | .ptr _ _ => Nat.beq t 1000000
  | .any _ => Nat.beq t 1000000
  | _ => false
theorem isRecv_den {cx : Cx} {ρ : Env} (hρ : EnvOk cx ρ) (β β' : Bt) {t : TypeId} {x : SV} (h : isRecv t x = true) : ∃ a, x.den ρ β = (recvS t (.any 0)).den ⟨ρ.i, ρ.f, fun _ => .pointer (some a), fun _ => roBlank⟩ β' := by
  unfold isRecv at h
  split at h
  · rename_i t' j o
    simp only [Bool.and_eq_true, Bool.not_eq_true'] at h
    have : t = t' := Nat.eq_of_beq_eq_true h.1
    subst this
    exact ⟨_, by simp only [recvS, h.2]; rfl⟩
  · rename_i t' i
    simp only [Bool.and_eq_true, Bool.not_eq_true'] at h
    have : t = t' := Nat.eq_of_beq_eq_true h.1
    subst this
    obtain ⟨a, ha⟩ := hρ.hv i
    exact ⟨a, by simp [recvS, h.2, SV.den, SV.denL, ha]⟩
  · exact ⟨_, by simp only [recvS, h]; rfl⟩
  · rename_i i
    obtain ⟨a, ha⟩ := hρ.hv i
    exact ⟨a, by simp only [recvS, h]; simp [SV.den, ha]⟩
  · cases h

theorem recvS_den (t : TypeId) (ρ ρ' : Env) (h : ρ'.v = ρ.v) (β β' : Bt) : (recvS t (.any 0)).den ρ' β' = (recvS t (.any 0)).den ρ β := by
  unfold recvS
  split <;> simp [SV.den, SV.denL, h]

/-- with a receiver, or without -/
def gT (cx : Cx) (rc : Option TypeId) (ps : List SV) (res : SV) (args : List SV) : Option SV :=
  match rc, args with
  | none, args => (SV.mtL cx ps args).map fun σ => res.sub cx σ
  | some t, r :: args => if isRecv t r then (SV.mtL cx ps args).map fun σ => res.sub cx σ else none
  | some _, [] => none

def tArgs (rc : Option TypeId) (ps : List SV) : List SV :=
  match rc with
  | none => ps
  | some t => recvS t (.any 0) :: ps

def TmplOk (cx : Cx) (f : FuncId) (rc : Option TypeId) (ps : List SV) (res : SV) : Prop :=
  ∀ (ρ : Env) (w : World), EnvOk { cx with Γ := SV.bdsL ps, ins := [] } ρ → Blank ρ →
    Calls cx.P f (SV.denL ρ b0 (tArgs rc ps)).toArray w fun e w' => e = .returned (res.den ρ b0) ∧ Below w.heap.size w w'

theorem gT_ok {cx : Cx} {f : FuncId} {rc : Option TypeId} {ps : List SV} {res : SV} (hl : SV.linL 0 ps = true) (hn : res.nums = true) (h : TmplOk cx f rc ps res)
    (ρ : Env) (β : Bt) (w : World) (args : List SV) (v : SV) (hρ : EnvOk cx ρ) (hg : gT cx rc ps res args = some v) :
    Calls cx.P f (SV.denL ρ β args).toArray w fun e w' => e = .returned (v.den ρ β) ∧ Below w.heap.size w w' := by
  have main : ∀ (a : Addr) (xs : List SV) (σ : List E), SV.mtL cx ps xs = some σ →
      EnvOk { cx with Γ := SV.bdsL ps, ins := [] } ⟨(subEnv ρ σ).i, ρ.f, fun _ => .pointer (some a), fun _ => roBlank⟩ ∧ SV.denL ⟨(subEnv ρ σ).i, ρ.f, fun _ => .pointer (some a), fun _ => roBlank⟩ b0 ps = SV.denL ρ β xs := by
    intro a xs σ hs
    refine ⟨⟨(SV.mtL_bd hρ ps xs hs).2, hρ.hf, fun _ => ⟨a, rfl⟩, hρ.hF, fun k d hd => by simp at hd⟩, ?_⟩
    refine SV.mtL_den hρ β _ ps xs 0 hs hl fun j e he => ?_
    simp only [subEnv, Nat.zero_add, List.getD_eq_getElem?_getD, he, Option.getD_some]
  unfold gT at hg
  split at hg
  · obtain ⟨σ, hs, rfl⟩ := Option.map_eq_some_iff.1 hg
    obtain ⟨h1, h2⟩ := main ⟨0, 0, none⟩ args σ hs
    have := h _ w h1 (fun _ => rfl)
    simp only [tArgs, h2] at this
    refine this.mono ?_
    rintro e w' ⟨rfl, hb⟩
    exact ⟨by rw [SV.sub_den (ρ' := ⟨(subEnv ρ σ).i, ρ.f, fun _ => .pointer (some _), fun _ => roBlank⟩) hρ β b0 σ rfl rfl res hn], hb⟩
  · rename_i t r xs
    split at hg
    · rename_i hr
      obtain ⟨σ, hs, rfl⟩ := Option.map_eq_some_iff.1 hg
      obtain ⟨a, ha⟩ := isRecv_den hρ β b0 hr
      obtain ⟨h1, h2⟩ := main a xs σ hs
      have := h _ w h1 (fun _ => rfl)
      simp only [tArgs, SV.denL, h2] at this
      rw [recvS_den t ⟨ρ.i, ρ.f, fun _ => .pointer (some a), fun _ => roBlank⟩ _ (by rfl) b0] at this
      simp only [SV.denL, ha]
      refine this.mono ?_
      rintro e w' ⟨rfl, hb⟩
      exact ⟨by rw [SV.sub_den (ρ' := ⟨(subEnv ρ σ).i, ρ.f, fun _ => .pointer (some _), fun _ => roBlank⟩) hρ β b0 σ rfl rfl res hn], hb⟩
    · cases hg
  · cases hg

/-- a template, by a run -/
theorem tmpl_run {cx : Cx} {f : FuncId} {rc : Option TypeId} {ps : List SV} {res : SV} {cf : CF} (hcf : CallOk { cx with Γ := SV.bdsL ps, ins := [] } cf) (h : T.beqV (projV (cf f (tArgs rc ps) ⟨[], []⟩)) (.leaf res) = true) : TmplOk cx f rc ps res :=
  fun ρ w hρ hb => value_of hcf hρ hb h rfl rfl w

/-- a template in other words -/
theorem tmpl_as {cx : Cx} {f : FuncId} {rc : Option TypeId} {ps : List SV} {res res' : SV} (h : TmplOk cx f rc ps res) (he : ∀ ρ : Env, EnvOk { cx with Γ := SV.bdsL ps, ins := [] } ρ → res.den ρ b0 = res'.den ρ b0) : TmplOk cx f rc ps res' :=
  fun ρ w hρ hb => by rw [← he ρ hρ]; exact h ρ w hρ hb

/-- a template holds however much is named -/
theorem tmpl_sh {cx : Cx} {n m : Nat} {f : FuncId} {rc : Option TypeId} {ps : List SV} {res : SV} (h : TmplOk { cx with sh := n } f rc ps res) : TmplOk { cx with sh := m } f rc ps res :=
  fun ρ w hρ hb => h ρ w ⟨hρ.hi, hρ.hf, hρ.hv, hρ.hF, hρ.hro⟩ hb

/-! ### a tree of numbers is one number -/

def E.mix (e x y : E) : E := if x.beq y then x else .ite e x y
theorem E.mix_ev (ρ : Env) (e x y : E) : (E.mix e x y).ev ρ = if e.ev ρ ≠ 0 then x.ev ρ else y.ev ρ := by
  unfold E.mix
  split
  · rename_i h
    have := E.eq_of_beq h
    subst this
    split <;> rfl
  · rfl

mutual
def SV.mix (e : E) : SV → SV → Option SV
  | .int k x, .int k' y => if k = k' then some (.int k (E.mix e x y)) else none
  | .bool x, .bool y => some (.bool (E.mix e x y))
  | .agg l, .agg m => (SV.mixL e l m).map .agg
  | .tup l, .tup m => (SV.mixL e l m).map .tup
  | _, _ => none
def SV.mixL (e : E) : List SV → List SV → Option (List SV)
  | [], [] => some []
  | x :: l, y :: m => match x.mix e y, SV.mixL e l m with
    | some a, some c => some (a :: c)
    | _, _ => none
  | _, _ => none
end

mutual
theorem SV.mix_den {ρ : Env} {β : Bt} {e : E} : ∀ (x y : SV) {r : SV}, x.mix e y = some r → r.den ρ β = if e.ev ρ ≠ 0 then x.den ρ β else y.den ρ β
  | .int k a, y, r, h => by
    cases y <;> simp only [SV.mix] at h <;> try (cases h; done)
    split at h
    · rename_i hk
      cases h
      subst hk
      simp only [SV.den, E.mix_ev]
      split <;> rfl
    · cases h
  | .bool a, y, r, h => by
    cases y <;> simp only [SV.mix] at h <;> try (cases h; done)
    cases h
    simp only [SV.den, E.mix_ev]
    split <;> rfl
  | .agg l, y, r, h => by
    cases y <;> simp only [SV.mix] at h <;> try (cases h; done)
    obtain ⟨z, hz, rfl⟩ := Option.map_eq_some_iff.1 h
    simp only [SV.den, SV.mixL_den l _ hz]
    split <;> rfl
  | .tup l, y, r, h => by
    cases y <;> simp only [SV.mix] at h <;> try (cases h; done)
    obtain ⟨z, hz, rfl⟩ := Option.map_eq_some_iff.1 h
    simp only [SV.den, SV.mixL_den l _ hz]
    split <;> rfl
  | .ptr _ _, _, _, h | .lit _, _, _, h | .any _, _, _, h | .slice _ _ _ _, _, _, h | .func _ _ _, _, _, h | .iface _ _, _, _, h => by simp [SV.mix] at h
theorem SV.mixL_den {ρ : Env} {β : Bt} {e : E} : ∀ (x y : List SV) {r : List SV}, SV.mixL e x y = some r → SV.denL ρ β r = if e.ev ρ ≠ 0 then SV.denL ρ β x else SV.denL ρ β y
  | [], y, r, h => by
    cases y <;> simp only [SV.mixL] at h <;> cases h
    simp [SV.denL]
  | x :: l, y, r, h => by
    cases y with
    | nil => simp [SV.mixL] at h
    | cons y m =>
      simp only [SV.mixL] at h
      split at h
      · rename_i a c ha hc
        cases h
        simp only [SV.denL, SV.mix_den x y ha, SV.mixL_den l m hc]
        split <;> rfl
      · cases h
end

def T.one : T SV → Option SV
  | .leaf v => some v
  | .br e t f => match T.one t, T.one f with
    | some a, some c => a.mix e c
    | _, _ => none
  | .bad _ => none
  | .new _ _ _ => none

theorem T.one_gives {ρ : Env} : ∀ {t : T SV} {v : SV}, T.one t = some v → T.gives ρ (v.den ρ b0) t
  | .leaf a, v, h => by cases h; rfl
  | .br e t f, v, h => by
    simp only [T.one] at h
    split at h
    · rename_i a c ha hc
      rw [SV.mix_den a c h]
      refine ⟨fun he => ?_, fun he => ?_⟩
      · rw [if_pos he]; exact T.one_gives ha
      · rw [if_neg (by simp [he])]; exact T.one_gives hc
    · cases h
  | .bad n, v, h => by cases h
  | .new _ _ _, v, h => by cases h

def oneIs (r : R) (res : SV) : Bool := match T.one (projV r) with
  | some v => v.beq res
  | none => false

theorem tmpl_one {cx : Cx} {f : FuncId} {rc : Option TypeId} {ps : List SV} {res : SV} {cf : CF} (hcf : CallOk { cx with Γ := SV.bdsL ps, ins := [] } cf) (h : oneIs (cf f (tArgs rc ps) ⟨[], []⟩) res = true) : TmplOk cx f rc ps res := by
  intro ρ w hρ hb
  unfold oneIs at h
  split at h
  · rename_i v hv
    have := SV.eq_of_beq _ _ h
    subst this
    have hg := T.one_gives (ρ := ρ) hv
    obtain ⟨u, s', hsel, hsc, hX⟩ := projV_sel hg
    refine (hcf ρ _ _ _ w f _ _ hρ (sat_nil (blank_ro hb)) hsel).mono ?_
    rintro x w' ⟨β', rfl, _, hx⟩
    refine ⟨?_, below_ext rfl hx⟩
    rw [← hX, SV.den_sc (n := 0) (fun j hj => by omega) u hsc]
  · cases h

/-! ### lists of templates -/

structure Tm where
  f : FuncId
  rc : Option TypeId
  ps : List SV
  res : SV

def Tm.ok (t : Tm) : Bool := SV.linL 0 t.ps && t.res.nums
def toldT (cx : Cx) (l : List Tm) : Told := l.map fun t => (t.f, gT cx t.rc t.ps t.res)

def TmsOk (cx : Cx) (l : List Tm) : Prop := ∀ t, t ∈ l → t.ok = true ∧ TmplOk cx t.f t.rc t.ps t.res

theorem tms_nil (cx : Cx) : TmsOk cx [] := fun _ h => by cases h
theorem tms_cons {cx : Cx} {t : Tm} {l : List Tm} (ho : t.ok = true) (h : TmplOk cx t.f t.rc t.ps t.res) (hl : TmsOk cx l) : TmsOk cx (t :: l) := by
  intro u hu
  rcases List.mem_cons.1 hu with rfl | hu
  · exact ⟨ho, h⟩
  · exact hl u hu
theorem tms_app {cx : Cx} {l m : List Tm} (hl : TmsOk cx l) (hm : TmsOk cx m) : TmsOk cx (l ++ m) := by
  intro u hu
  rcases List.mem_append.1 hu with hu | hu
  · exact hl u hu
  · exact hm u hu

theorem toldT_ok {cx : Cx} {l : List Tm} (h : TmsOk cx l) : ToldOk cx (toldT cx l) := by
  intro f g hm
  simp only [toldT, List.mem_map] at hm
  obtain ⟨t, ht, he⟩ := hm
  cases he
  obtain ⟨h1, h2⟩ := h t ht
  simp only [Tm.ok, Bool.and_eq_true] at h1
  exact gT_ok h1.1 h1.2 h2

theorem told_app {cx : Cx} {l m : Told} (hl : ToldOk cx l) (hm : ToldOk cx m) : ToldOk cx (l ++ m) := by
  intro f g h
  rcases List.mem_append.1 h with h | h
  · exact hl f g h
  · exact hm f g h

end Go.Eng
end

/-! A symbolic executor, part TS: summaries of functions as trees with names, filled in where the function is called. -/
section
set_option linter.unusedVariables false
set_option linter.unusedSimpArgs false
set_option linter.unusedSectionVars false
namespace Go.Eng
open Go.RowKit

def lookN : List (Nat × E) → Nat → Option E
  | [], _ => none
  | (i, e) :: l, j => match Nat.beq i j with
    | true => some e
    | false => lookN l j

def clampE (l h : Int) (x : E) : E := .ite (.b .lt .i64 x (.c l)) (.c l) (.ite (.b .lt .i64 (.c h) x) (.c h) x)
theorem clampE_ev (ρ : Env) (l h : Int) (x : E) : (clampE l h x).ev ρ = clampZ l h (x.ev ρ) := by
  simp only [clampE, E.ev, BO.ev, clampZ]
  by_cases h1 : x.ev ρ < l
  · simp [h1, bool01]
  · by_cases h2 : h < x.ev ρ <;> simp [h1, h2, bool01]

/-- an expression, filled in: variables by σ, names by nm -/
def E.subN (cx : Cx) (σ : List E) (nm : List (Nat × E)) : E → E
  | .c n => .c n
  | .v i => (match Nat.blt i 1000 with
    | true => σ.getD i (.c 0)
    | false => match lookN nm i with
      | some e => e
      | none => .v i)
  | .b o k x y => E.b' cx o k (x.subN cx σ nm) (y.subN cx σ nm)
  | .w k x => E.w' cx k (x.subN cx σ nm)
  | .nt x => E.nt' (x.subN cx σ nm)
  | .ite t x y => E.ite' (t.subN cx σ nm) (x.subN cx σ nm) (y.subN cx σ nm)
  | .f n x y z => E.f' cx.F n (x.subN cx σ nm) (y.subN cx σ nm) (z.subN cx σ nm)
  | .cl i l h => match Nat.blt i 1000 with
    | true => clampE l h (σ.getD i (.c 0))
    | false => match lookN nm i with
      | some e => if ivIn (e.iv cx) l h then e else clampE l h e
      | none => .cl i l h

def envN (ρ : Env) (σ : List E) (nm : List (Nat × E)) : Env :=
  ⟨fun j => match Nat.blt j 1000 with
    | true => (σ.getD j (.c 0)).ev ρ
    | false => match lookN nm j with
      | some e => e.ev ρ
      | none => ρ.i j, ρ.f, ρ.v, ρ.ro⟩

theorem E.subN_ev {cx : Cx} {ρ : Env} (hρ : EnvOk cx ρ) (σ : List E) (nm : List (Nat × E)) (e : E) : (e.subN cx σ nm).ev ρ = e.ev (envN ρ σ nm) := by
  induction e with
  | c n => rfl
  | v i =>
    simp only [E.subN, E.ev, envN]
    split
    · rfl
    · split <;> rfl
  | b o k x y hx hy => simp only [E.subN, E.b'_ev hρ, hx, hy]; rfl
  | w k x hx => simp only [E.subN, E.w'_ev hρ, hx]; rfl
  | nt x hx => simp only [E.subN, E.nt'_ev, hx]; rfl
  | ite t x y ht hx hy => simp only [E.subN, E.ite'_ev, ht, hx, hy]; rfl
  | f n x y z hx hy hz => simp only [E.subN, E.f'_ev hρ, hx, hy, hz]; rfl
  | cl i l h =>
    simp only [E.subN, E.ev, envN]
    split
    · rw [clampE_ev]
    · split
      · split
        · rename_i hi
          obtain ⟨a, b⟩ := ivIn_ok hi (E.iv_ok hρ _)
          rw [clampZ_in a b]
        · rw [clampE_ev]
      · rfl

mutual
def SV.subN (cx : Cx) (σ : List E) (nm : List (Nat × E)) : SV → SV
  | .int k e => .int k (e.subN cx σ nm)
  | .bool e => .bool (e.subN cx σ nm)
  | .agg l => .agg (SV.subNL cx σ nm l)
  | .tup l => .tup (SV.subNL cx σ nm l)
  | x => x
def SV.subNL (cx : Cx) (σ : List E) (nm : List (Nat × E)) : List SV → List SV
  | [] => []
  | x :: l => x.subN cx σ nm :: SV.subNL cx σ nm l
end
mutual
theorem SV.subN_den {cx : Cx} {ρ ρ' : Env} (hρ : EnvOk cx ρ) (β β' : Bt) (σ : List E) (nm : List (Nat × E)) (he : ∀ e : E, e.ev ρ' = e.ev (envN ρ σ nm)) : ∀ (x : SV), x.nums = true → (x.subN cx σ nm).den ρ β = x.den ρ' β'
  | .int k e, _ => by simp only [SV.subN, SV.den, E.subN_ev hρ, he]
  | .bool e, _ => by simp only [SV.subN, SV.den, E.subN_ev hρ, he]
  | .agg l, h => by simp only [SV.nums] at h; simp only [SV.subN, SV.den, SV.subNL_den hρ β β' σ nm he l h]
  | .tup l, h => by simp only [SV.nums] at h; simp only [SV.subN, SV.den, SV.subNL_den hρ β β' σ nm he l h]
  | .ptr _ _, h | .lit _, h | .any _, h | .slice _ _ _ _, h | .func _ _ _, h | .iface _ _, h => by cases h
theorem SV.subNL_den {cx : Cx} {ρ ρ' : Env} (hρ : EnvOk cx ρ) (β β' : Bt) (σ : List E) (nm : List (Nat × E)) (he : ∀ e : E, e.ev ρ' = e.ev (envN ρ σ nm)) : ∀ (l : List SV), SV.numsL l = true → SV.denL ρ β (SV.subNL cx σ nm l) = SV.denL ρ' β' l
  | [], _ => rfl
  | x :: l, h => by
    simp only [SV.numsL, Bool.and_eq_true] at h
    simp only [SV.subNL, SV.denL, SV.subN_den hρ β β' σ nm he x h.1, SV.subNL_den hρ β β' σ nm he l h.2]
end

theorem E.vbi {ρ ρ' : Env} {n : Nat} (hi : ∀ j, j < n → ρ'.i j = ρ.i j) (hf : ρ'.f = ρ.f) : ∀ (e : E), e.vb n = true → e.ev ρ' = e.ev ρ := by
  intro e
  induction e with
  | c m => intro _; rfl
  | v i => intro h; exact hi i (by simpa [E.vb] using h)
  | b o k x y hx hy => intro h; simp only [E.vb, Bool.and_eq_true] at h; simp only [E.ev, hx h.1, hy h.2]
  | w k x hx => intro h; simp only [E.ev, hx h]
  | nt x hx => intro h; simp only [E.ev, hx h]
  | ite t x y ht hx hy => intro h; simp only [E.vb, Bool.and_eq_true] at h; simp only [E.ev, ht h.1.1, hx h.1.2, hy h.2]
  | f m x y z hx hy hz => intro h; simp only [E.vb, Bool.and_eq_true] at h; simp only [E.ev, hx h.1.1, hy h.1.2, hz h.2, hf]
  | cl i l h => intro h; simp only [E.ev, hi i (by simpa [E.vb] using h)]

/-- a summary, filled in -/
def T.inst (cx : Cx) (σ : List E) : List (Nat × E) → T SV → St → R
  | nm, .leaf v, s => .leaf (v.subN cx σ nm, s)
  | nm, .br e t f, s => fork s (e.subN cx σ nm) (fun s => T.inst cx σ nm t s) (fun s => T.inst cx σ nm f s)
  | nm, .new i e t, s => shareE cx (e.subN cx σ nm) s fun e' s => T.inst cx σ ((i, e') :: nm) t s
  | _, .bad n, _ => .bad n

/-- each name of a summary is new, from 1000 on; numbers alone come of it -/
def T.fineV : Nat → T SV → Bool
  | _, .leaf v => v.nums && v.sc 0
  | n, .br e t f => e.vb n && T.fineV n t && T.fineV n f
  | _, .bad _ => true
  | n, .new i e t => Nat.ble n i && e.vb i && T.fineV (i + 1) t

def keysB (n : Nat) (nm : List (Nat × E)) : Prop := ∀ p ∈ nm, p.1 < n

theorem lookN_none {n : Nat} : ∀ {nm : List (Nat × E)}, keysB n nm → ∀ j, n ≤ j → lookN nm j = none
  | [], _, _, _ => rfl
  | (i, e) :: l, hk, j, hj => by
    have h1 : i < n := hk (i, e) List.mem_cons_self
    simp only [lookN]
    have h2 : Nat.beq i j = false := by
      cases hb : Nat.beq i j with
      | false => rfl
      | true => have := Nat.eq_of_beq_eq_true hb; omega
    rw [h2]
    exact lookN_none (fun p hp => hk p (List.mem_cons_of_mem _ hp)) j hj

theorem inst_ok {cx : Cx} {ρ : Env} (hρ : EnvOk cx ρ) {β : Bt} {w : World} (σ : List E) {v : SV} {s' : St} : ∀ (t : T SV) (nm : List (Nat × E)) (n : Nat) (s : St), 1000 ≤ n → keysB n nm → T.fineV n t = true → Sat ρ β s w →
    (T.inst cx σ nm t s).sel ρ = some (v, s') →
    Sat ρ β s' w ∧ s'.bl = s.bl ∧ ∃ (ρ' : Env) (v0 : SV), (∀ j, j < n → ρ'.i j = (envN ρ σ nm).i j) ∧ ρ'.f = ρ.f ∧ ρ'.v = ρ.v ∧ t.sel ρ' = some v0 ∧ v0.nums = true ∧ v0.sc 0 = true ∧ v.den ρ β = v0.den ρ' b0
  | .leaf u, nm, n, s, hn, hk, hf, hs, h => by
    cases h
    simp only [T.fineV, Bool.and_eq_true] at hf
    exact ⟨hs, rfl, envN ρ σ nm, u, fun _ _ => rfl, rfl, rfl, rfl, hf.1, hf.2, SV.subN_den hρ β _ σ nm (fun _ => rfl) u hf.1⟩
  | .br e t f, nm, n, s, hn, hk, hf, hs, h => by
    simp only [T.fineV, Bool.and_eq_true] at hf
    simp only [T.inst] at h
    obtain ⟨s1, e1, hs1, ⟨hne, h⟩ | ⟨h0, h⟩⟩ := fork_ok hs h
    · obtain ⟨g1, g2, ρ', v0, a1, a2, a3, a4, a5⟩ := inst_ok hρ σ t nm n s1 hn hk hf.1.2 hs1 h
      refine ⟨g1, g2.trans e1, ρ', v0, a1, a2, a3, ?_, a5⟩
      rw [E.subN_ev hρ] at hne
      simp only [T.sel, E.vbi a1 a2 e hf.1.1, a4]
      rw [if_pos hne]
    · obtain ⟨g1, g2, ρ', v0, a1, a2, a3, a4, a5⟩ := inst_ok hρ σ f nm n s1 hn hk hf.2 hs1 h
      refine ⟨g1, g2.trans e1, ρ', v0, a1, a2, a3, ?_, a5⟩
      rw [E.subN_ev hρ] at h0
      simp only [T.sel, E.vbi a1 a2 e hf.1.1, a4, h0]
      simp
  | .new i e t, nm, n, s, hn, hk, hf, hs, h => by
    simp only [T.fineV, Bool.and_eq_true] at hf
    simp only [T.inst] at h
    have hni : n ≤ i := Nat.le_of_ble_eq_true hf.1.1
    obtain ⟨e', s1, he', hb1, hs1, h1⟩ := shareE_ok hρ hs h
    have hk' : keysB (i + 1) ((i, e') :: nm) := by
      intro p hp
      rcases List.mem_cons.1 hp with rfl | hp
      · simp
      · have := hk p hp; omega
    obtain ⟨g1, g2, ρ', v0, a1, a2, a3, a4, a5⟩ := inst_ok hρ σ t ((i, e') :: nm) (i + 1) s1 (by omega) hk' hf.2 hs1 h1
    have hlow : ∀ j, j < i → (envN ρ σ ((i, e') :: nm)).i j = (envN ρ σ nm).i j := by
      intro j hj
      simp only [envN]
      split
      · rfl
      · have : Nat.beq i j = false := by
          cases hb : Nat.beq i j with
          | false => rfl
          | true => have := Nat.eq_of_beq_eq_true hb; omega
        simp only [lookN, this]
    have a1' : ∀ j, j < i → ρ'.i j = (envN ρ σ nm).i j := fun j hj => (a1 j (by omega)).trans (hlow j hj)
    refine ⟨g1, g2.trans hb1, ρ', v0, fun j hj => a1' j (by omega), a2, a3, ?_, a5⟩
    have hi : ρ'.i i = e.ev ρ' := by
      rw [a1 i (by omega), E.vbi a1' a2 e hf.1.2, ← E.subN_ev hρ, ← he']
      simp only [envN]
      have h1000 : Nat.blt i 1000 = false := by
        cases hb : Nat.blt i 1000 with
        | false => rfl
        | true => have : i < 1000 := by simpa using hb
                  omega
      have hb : Nat.beq i i = true := Nat.beq_refl i
      simp only [h1000, lookN, hb]
    simp only [T.sel, hi, if_true, a4]
  | .bad m, nm, n, s, hn, hk, hf, hs, h => by cases h

/-! ### what a tree hangs on -/

theorem E.ev_if {ρ ρ' : Env} (hi : ρ'.i = ρ.i) (hf : ρ'.f = ρ.f) (e : E) : e.ev ρ' = e.ev ρ := by
  induction e with
  | c n => rfl
  | v i => simp only [E.ev, hi]
  | b o k x y hx hy => simp only [E.ev, hx, hy]
  | w k x hx => simp only [E.ev, hx]
  | nt x hx => simp only [E.ev, hx]
  | ite t x y ht hx hy => simp only [E.ev, ht, hx, hy]
  | f n x y z hx hy hz => simp only [E.ev, hx, hy, hz, hf]
  | cl i l h => simp only [E.ev, hi]
theorem sel_v {ρ ρ' : Env} (hi : ρ'.i = ρ.i) (hf : ρ'.f = ρ.f) {α : Type} (t : T α) : t.sel ρ' = t.sel ρ := by
  induction t with
  | leaf a => rfl
  | br e t f ht hf' => simp only [T.sel, E.ev_if hi hf, ht, hf']
  | bad n => rfl
  | new i e t ht => simp only [T.sel, E.ev_if hi hf, ht, hi]
mutual
theorem nums_v {ρ ρ' : Env} (hi : ρ'.i = ρ.i) (hf : ρ'.f = ρ.f) (β : Bt) : ∀ (x : SV), x.nums = true → x.den ρ' β = x.den ρ β
  | .int k e, _ => by simp only [SV.den, E.ev_if hi hf]
  | .bool e, _ => by simp only [SV.den, E.ev_if hi hf]
  | .agg l, h => by simp only [SV.nums] at h; simp only [SV.den, numsL_v hi hf β l h]
  | .tup l, h => by simp only [SV.nums] at h; simp only [SV.den, numsL_v hi hf β l h]
  | .ptr _ _, h | .lit _, h | .any _, h | .slice _ _ _ _, h | .func _ _ _, h | .iface _ _, h => by cases h
theorem numsL_v {ρ ρ' : Env} (hi : ρ'.i = ρ.i) (hf : ρ'.f = ρ.f) (β : Bt) : ∀ (l : List SV), SV.numsL l = true → SV.denL ρ' β l = SV.denL ρ β l
  | [], _ => rfl
  | x :: l, h => by
    simp only [SV.numsL, Bool.and_eq_true] at h
    simp only [SV.denL, nums_v hi hf β x h.1, numsL_v hi hf β l h.2]
end

/-! ### a list of summaries -/

structure Sm where
  f : FuncId
  rc : Option TypeId
  ps : List SV
  t : T SV

def TreeOk (cx : Cx) (m : Sm) : Prop :=
  ∀ (ρ : Env) (w : World) (v : SV), EnvOk { cx with Γ := SV.bdsL m.ps, ins := [] } ρ → Blank ρ → m.t.sel ρ = some v →
    Calls cx.P m.f (SV.denL ρ b0 (tArgs m.rc m.ps)).toArray w fun e w' => e = .returned (v.den ρ b0) ∧ Below w.heap.size w w'

def Sm.ok (m : Sm) : Bool := SV.linL 0 m.ps && Nat.ble (SV.bdsL m.ps).length 1000 && T.fineV 1000 m.t

def gS (cx : Cx) (m : Sm) (args : List SV) (s : St) : Option R :=
  match m.rc, args with
  | none, args => (SV.mtL cx m.ps args).map fun σ => T.inst cx σ [] m.t s
  | some t, r :: args => if isRecv t r then (SV.mtL cx m.ps args).map fun σ => T.inst cx σ [] m.t s else none
  | some _, [] => none

def smS (cx : Cx) : List Sm → SM
  | [], _, _, _ => none
  | m :: l, f, args, s => match Nat.beq f m.f with
    | true => (match gS cx m args s with
      | some r => some r
      | none => smS cx l f args s)
    | false => smS cx l f args s

def SmsOk (cx : Cx) (l : List Sm) : Prop := ∀ m, m ∈ l → m.ok = true ∧ TreeOk cx m

theorem gS_ok {cx : Cx} {m : Sm} (ho : m.ok = true) (h : TreeOk cx m) (ρ : Env) (β : Bt) (s s' : St) (w : World) (args : List SV) (r : R) (v : SV) (hρ : EnvOk cx ρ) (hs : Sat ρ β s w)
    (hg : gS cx m args s = some r) (hr : r.sel ρ = some (v, s')) :
    Calls cx.P m.f (SV.denL ρ β args).toArray w fun e w' => ∃ β', e = .returned (v.den ρ β') ∧ Sat ρ β' s' w' ∧ Ext s s' β β' w w' := by
  simp only [Sm.ok, Bool.and_eq_true] at ho
  obtain ⟨⟨hl, hlen⟩, hfine⟩ := ho
  have hlen := Nat.le_of_ble_eq_true hlen
  have main : ∀ (a : Addr) (xs : List SV) (σ : List E), SV.mtL cx m.ps xs = some σ → (T.inst cx σ [] m.t s).sel ρ = some (v, s') →
      Sat ρ β s' w ∧ s'.bl = s.bl ∧ ∃ (ρ' : Env) (v0 : SV), EnvOk { cx with Γ := SV.bdsL m.ps, ins := [] } ρ' ∧ Blank ρ' ∧ ρ'.v = (fun _ => .pointer (some a)) ∧ SV.denL ρ' b0 m.ps = SV.denL ρ β xs ∧ m.t.sel ρ' = some v0 ∧ v.den ρ β = v0.den ρ' b0 := by
    intro a xs σ hm hsel
    obtain ⟨g1, g2, ρ', v0, a1, a2, a3, a4, a5, a6, a7⟩ := inst_ok hρ σ m.t [] 1000 s (Nat.le_refl _) (fun p hp => by cases hp) hfine hs hsel
    have hi : ∀ j, j < 1000 → ρ'.i j = (σ.getD j (.c 0)).ev ρ := fun j hj => by
      rw [a1 j hj]
      have : Nat.blt j 1000 = true := by simpa using hj
      simp only [envN, this]
    obtain ⟨hb1, hb2⟩ := SV.mtL_bd hρ m.ps xs hm
    refine ⟨g1, g2, ⟨ρ'.i, ρ'.f, fun _ => .pointer (some a), fun _ => roBlank⟩, v0, ⟨fun i p hp => ?_, fun n p x y z hp => by simp only [a2]; exact hρ.hf n p x y z hp, fun _ => ⟨a, rfl⟩, by simp only [a2]; exact hρ.hF, fun k d hd => by simp at hd⟩, fun _ => rfl, rfl, ?_, ?_, ?_⟩
    · have hip : i < (SV.bdsL m.ps).length := (List.getElem?_eq_some_iff.1 hp).1
      simp only [hi i (by omega)]
      exact hb2 i p hp
    · refine SV.mtL_den hρ β _ m.ps xs 0 hm hl fun j e he => ?_
      have hj : j < σ.length := (List.getElem?_eq_some_iff.1 he).1
      simp only [Nat.zero_add, hi j (by omega), List.getD_eq_getElem?_getD, he, Option.getD_some]
    · rw [← a4]
      exact sel_v (ρ := ρ') (ρ' := ⟨ρ'.i, ρ'.f, fun _ => .pointer (some a), fun _ => roBlank⟩) rfl rfl m.t
    · rw [a7]
      exact (nums_v (ρ := ρ') (ρ' := ⟨ρ'.i, ρ'.f, fun _ => .pointer (some a), fun _ => roBlank⟩) rfl rfl _ v0 a5).symm
  have same : ∀ w', Sat ρ β s' w → Below w.heap.size w w' → s'.bl = s.bl → Sat ρ β s' w' ∧ Ext s s' β β w w' := fun w' g hb e => ⟨sat_below g hb, (ext_below hb).trans (ext_kn e β w')⟩
  unfold gS at hg
  split at hg
  · rename_i hrc
    obtain ⟨σ, hm, rfl⟩ := Option.map_eq_some_iff.1 hg
    obtain ⟨g1, g2, ρ', v0, b1, bl, b2, b3, b4, b5⟩ := main ⟨0, 0, .none⟩ _ σ hm hr
    have := h ρ' w v0 b1 bl b4
    simp only [hrc, tArgs, b3] at this
    refine this.mono ?_
    rintro e w' ⟨rfl, hb⟩
    obtain ⟨c1, c2⟩ := same w' g1 hb g2
    exact ⟨β, by rw [b5], c1, c2⟩
  · rename_i t r0 xs hrc
    split at hg
    · rename_i hrv
      obtain ⟨σ, hm, rfl⟩ := Option.map_eq_some_iff.1 hg
      obtain ⟨a, ha⟩ := isRecv_den hρ β b0 hrv
      obtain ⟨g1, g2, ρ', v0, b1, bl, b2, b3, b4, b5⟩ := main a xs σ hm hr
      have := h ρ' w v0 b1 bl b4
      simp only [hrc, tArgs, SV.denL, b3] at this
      rw [recvS_den t ⟨ρ.i, ρ.f, fun _ => .pointer (some a), fun _ => roBlank⟩ ρ' b2 b0] at this
      simp only [SV.denL, ha]
      refine this.mono ?_
      rintro e w' ⟨rfl, hb⟩
      obtain ⟨c1, c2⟩ := same w' g1 hb g2
      exact ⟨β, by rw [b5], c1, c2⟩
    · cases hg
  · cases hg

theorem smS_ok {cx : Cx} : ∀ {l : List Sm}, SmsOk cx l → SmOk cx (smS cx l)
  | [], _ => fun ρ β s s' w f args r v _ _ h _ => by cases h
  | m :: l, hl => by
    have ih : SmOk cx (smS cx l) := smS_ok fun m hm => hl m (List.mem_cons_of_mem _ hm)
    intro ρ β s s' w f args r v hρ hs h hsel
    simp only [smS] at h
    split at h
    · rename_i hf
      have hf' : f = m.f := Nat.eq_of_beq_eq_true hf
      subst hf'
      split at h
      · rename_i r1 hg
        cases h
        obtain ⟨ho, ht⟩ := hl m List.mem_cons_self
        exact gS_ok ho ht ρ β s s' w args r v hρ hs hg hsel
      · exact ih ρ β s s' w m.f args r v hρ hs h hsel
    · exact ih ρ β s s' w f args r v hρ hs h hsel

/-- two ways of being told -/
def smOr (a b : SM) : SM := fun f args s => match a f args s with
  | some r => some r
  | none => b f args s
theorem smOr_ok {cx : Cx} {a b : SM} (ha : SmOk cx a) (hb : SmOk cx b) : SmOk cx (smOr a b) := by
  intro ρ β s s' w f args r v hρ hs h hsel
  simp only [smOr] at h
  split at h
  · rename_i r1 h1
    cases h
    exact ha ρ β s s' w f args r v hρ hs h1 hsel
  · exact hb ρ β s s' w f args r v hρ hs h hsel

theorem sms_nil (cx : Cx) : SmsOk cx [] := fun _ h => by cases h
theorem sms_cons {cx : Cx} {m : Sm} {l : List Sm} (ho : m.ok = true) (h : TreeOk cx m) (hl : SmsOk cx l) : SmsOk cx (m :: l) := by
  intro u hu
  rcases List.mem_cons.1 hu with rfl | hu
  · exact ⟨ho, h⟩
  · exact hl u hu
theorem sms_app {cx : Cx} {l m : List Sm} (hl : SmsOk cx l) (hm : SmsOk cx m) : SmsOk cx (l ++ m) := by
  intro u hu
  rcases List.mem_append.1 hu with hu | hu
  · exact hl u hu
  · exact hm u hu

/-- a run's tree is a summary -/
def sameT : R → T SV → Bool
  | .leaf (v, _), .leaf u => v.sc 0 && v.beq u
  | .br e t f, .br e' t' f' => e.beq e' && sameT t t' && sameT f f'
  | .bad _, .bad _ => true
  | .new i e t, .new i' e' t' => Nat.beq i i' && e.beq e' && sameT t t'
  | _, _ => false
theorem sameT_sel {ρ : Env} {v : SV} : ∀ {r : R} {t : T SV}, sameT r t = true → t.sel ρ = some v → ∃ s', r.sel ρ = some (v, s') ∧ v.sc 0 = true
  | .leaf (u, s'), .leaf u', h, hs => by
    simp only [sameT, Bool.and_eq_true] at h
    have := SV.eq_of_beq _ _ h.2
    subst this
    cases hs
    exact ⟨s', rfl, h.1⟩
  | .br e t f, .br e' t' f', h, hs => by
    simp only [sameT, Bool.and_eq_true] at h
    have := E.eq_of_beq h.1.1
    subst this
    simp only [T.sel] at hs ⊢
    split at hs
    · rename_i hc; rw [if_pos hc]; exact sameT_sel h.1.2 hs
    · rename_i hc; rw [if_neg hc]; exact sameT_sel h.2 hs
  | .new i e t, .new i' e' t', h, hs => by
    simp only [sameT, Bool.and_eq_true] at h
    have h1 := Nat.eq_of_beq_eq_true h.1.1
    have h2 := E.eq_of_beq h.1.2
    subst h1; subst h2
    simp only [T.sel] at hs ⊢
    split at hs
    · rename_i hc; rw [if_pos hc]; exact sameT_sel h.2 hs
    · cases hs
  | .bad _, .bad _, _, hs => by cases hs
  | .leaf _, .br _ _ _, h, _ | .leaf _, .bad _, h, _ | .leaf _, .new _ _ _, h, _ | .br _ _ _, .leaf _, h, _ | .br _ _ _, .bad _, h, _ | .br _ _ _, .new _ _ _, h, _
  | .bad _, .leaf _, h, _ | .bad _, .br _ _ _, h, _ | .bad _, .new _ _ _, h, _ | .new _ _ _, .leaf _, h, _ | .new _ _ _, .br _ _ _, h, _ | .new _ _ _, .bad _, h, _ => by simp [sameT] at h

theorem tree_run {cx : Cx} {m : Sm} {cf : CF} (hcf : CallOk { cx with Γ := SV.bdsL m.ps, ins := [] } cf) (h : sameT (cf m.f (tArgs m.rc m.ps) ⟨[], []⟩) m.t = true) : TreeOk cx m := by
  intro ρ w v hρ hb hv
  obtain ⟨s', hsel, hsc⟩ := sameT_sel h hv
  refine (hcf ρ _ _ _ w m.f _ _ hρ (sat_nil (blank_ro hb)) hsel).mono ?_
  rintro x w' ⟨β', rfl, _, hx⟩
  refine ⟨?_, below_ext rfl hx⟩
  rw [SV.den_sc (n := 0) (fun j hj => by omega) v hsc]

end Go.Eng
end
