/-
  A symbolic executor, part TF: what is to be shown of a tree with loops, so that it selects an answer that is right.
-/
import Derived.Test.YtjooaieolphomaaDoorFngTE
set_option linter.unusedVariables false
set_option linter.unusedSimpArgs false
set_option linter.unusedSectionVars false
namespace Go.Eng

theorem okB_mono {cx : Cx} {n m : Nat} (h : n ≤ m) (hn : cx.okB n = true) : cx.okB m = true := by
  unfold Cx.okB at *
  simp only [Bool.and_eq_true] at hn ⊢
  have := Nat.le_of_ble_eq_true hn.1
  refine ⟨Nat.ble_eq_true_of_le (by omega), List.all_eq_true.2 fun d hd => ?_⟩
  have := List.all_eq_true.1 hn.2 d hd
  simp only [Bool.and_eq_true] at this ⊢
  exact ⟨⟨E.vb_mono h _ this.1.1, E.vb_mono h _ this.1.2⟩, E.vb_mono h _ this.2⟩

def Env.set (ρ : Env) (i : Nat) (y : Int) : Env := { ρ with i := fun j => if j = i then y else ρ.i j }
def Env.setL (ρ : Env) (b : Nat) : List Int → Env
  | [] => ρ
  | x :: l => (ρ.set b x).setL (b + 1) l

theorem setL_get : ∀ (l : List Int) (ρ : Env) (b j : Nat), (ρ.setL b l).i j = if b ≤ j ∧ j < b + l.length then l.getD (j - b) 0 else ρ.i j
  | [], ρ, b, j => by simp [Env.setL]; omega
  | x :: l, ρ, b, j => by
    simp only [Env.setL, setL_get l, List.length_cons]
    by_cases h1 : b + 1 ≤ j ∧ j < b + 1 + l.length
    · rw [if_pos h1, if_pos (by omega), show j - b = (j - (b + 1)) + 1 by omega, List.getD_cons_succ]
    · rw [if_neg h1]
      by_cases h2 : j = b
      · subst h2; simp [Env.set]
      · rw [if_neg (by omega)]; simp [Env.set, h2]
theorem setL_f : ∀ (l : List Int) (ρ : Env) (b : Nat), (ρ.setL b l).f = ρ.f ∧ (ρ.setL b l).v = ρ.v ∧ (ρ.setL b l).ro = ρ.ro
  | [], _, _ => ⟨rfl, rfl, rfl⟩
  | x :: l, ρ, b => setL_f l (ρ.set b x) (b + 1)
theorem setL_agn (ρ : Env) (b : Nat) (l : List Int) : Agn b ρ (ρ.setL b l) :=
  ⟨fun j hj => by rw [setL_get, if_neg (by omega)], (setL_f l ρ b).1, (setL_f l ρ b).2.1, (setL_f l ρ b).2.2⟩
theorem set_agn (ρ : Env) (b : Nat) (x : Int) : Agn b ρ (ρ.set b x) := ⟨fun j hj => by simp [Env.set]; omega, rfl, rfl, rfl⟩

/-- a round holds: J is asked of what comes back to the head, R of the way out -/
def TB.hd (J : List Int → Prop) (R : Nat → Env → Prop) : TB → Env → Prop
  | .back l, ρ => J (l.map (E.ev ρ))
  | .exit n, ρ => R n ρ
  | .br e t f, ρ => (e.ev ρ ≠ 0 → t.hd J R ρ) ∧ (e.ev ρ = 0 → f.hd J R ρ)
  | .bad _, _ => False
  | .new i e t, ρ => t.hd J R (ρ.set i (e.ev ρ))
  | .loop L b r, ρ => ∃ I : List Int → Nat → Prop, (∃ m, I (L.init.map (E.ev ρ)) m) ∧
      ∀ σ m, σ.length = L.bds.length → inBd L.bds σ → I σ m → b.hd (fun σ' => ∃ m', m' < m ∧ I σ' m') (fun n ρ' => r.hd J R (ρ'.set L.xid n)) (ρ.setL L.base σ)

def TT.hd {α : Type} (Q : α → Env → Prop) : TT α → Env → Prop
  | .leaf a, ρ => Q a ρ
  | .br e t f, ρ => (e.ev ρ ≠ 0 → t.hd Q ρ) ∧ (e.ev ρ = 0 → f.hd Q ρ)
  | .bad _, _ => False
  | .new i e t, ρ => t.hd Q (ρ.set i (e.ev ρ))
  | .loop L b r, ρ => ∃ I : List Int → Nat → Prop, (∃ m, I (L.init.map (E.ev ρ)) m) ∧
      ∀ σ m, σ.length = L.bds.length → inBd L.bds σ → I σ m → b.hd (fun σ' => ∃ m', m' < m ∧ I σ' m') (fun n ρ' => r.hd Q (ρ'.set L.xid n)) (ρ.setL L.base σ)

/-! ### what is asked of a tree's names -/

/-- the bounds hold of what comes to a head: by the expressions' own bounds, or by what is known on the way -/
def bdsOk (cx : Cx) (path : List E) : List (Option (Int × Int)) → List E → Bool
  | [], [] => true
  | none :: l, _ :: m => bdsOk cx path l m
  | some p :: l, e :: m => (ivIn (e.iv cx) p.1 p.2 || (path.any (·.beq (leE cx (.c p.1) e)) && path.any (·.beq (leE cx e (.c p.2))))
      || (match e with
        | .c n => decide (p.1 ≤ n) && decide (n ≤ p.2)
        | _ => false)) && bdsOk cx path l m
  | _, _ => false

theorem bdsOk_ok {cx : Cx} {ρ : Env} (hρ : EnvOk cx ρ) {path : List E} (hp : ∀ e ∈ path, e.ev ρ ≠ 0) : ∀ {l : List (Option (Int × Int))} {m : List E}, bdsOk cx path l m = true → inBd l (m.map (E.ev ρ))
  | [], [], _ => trivial
  | none :: l, e :: m, h => ⟨trivial, bdsOk_ok hρ hp h⟩
  | some p :: l, e :: m, h => by
    simp only [bdsOk, Bool.and_eq_true, Bool.or_eq_true] at h
    refine ⟨?_, bdsOk_ok hρ hp h.2⟩
    have mem : ∀ c, path.any (·.beq c) = true → c.ev ρ ≠ 0 := by
      intro c hc
      obtain ⟨x, hx, hb⟩ := List.any_eq_true.1 hc
      have := E.eq_of_beq hb
      subst this
      exact hp _ hx
    rcases h.1 with (h1 | ⟨h1, h2⟩) | h1
    · exact ivIn_ok h1 (E.iv_ok hρ e)
    · exact ⟨leE_ne hρ (mem _ h1), leE_ne hρ (mem _ h2)⟩
    · split at h1
      · simp only [Bool.and_eq_true, decide_eq_true_eq] at h1
        exact h1
      · cases h1
  | [], _ :: _, h => by cases h
  | none :: _, [], h => by cases h
  | some _ :: _, [], h => by cases h

/-- names rise, from n on, below x; what comes to the head has its bounds -/
def TB.fine (cx : Cx) (bds : List (Option (Int × Int))) (x : Nat) : Nat → List E → TB → Bool
  | n, path, .back l => l.all (·.vb n) && bdsOk cx path bds l
  | _, _, .exit _ => true
  | n, path, .br e t f => e.vb n && TB.fine cx bds x n (e :: path) t && TB.fine cx bds x n path f
  | _, _, .bad _ => true
  | n, path, .new i e t => Nat.ble n i && Nat.blt i x && e.vb i && TB.fine cx bds x (i + 1) path t
  | n, path, .loop L b r => Nat.ble n L.base && cx.okB L.base && L.init.all (·.vb n) && bdsOk cx path L.bds L.init && Nat.ble (L.base + L.bds.length) L.xid && Nat.blt L.xid x &&
      TB.fine cx L.bds L.xid (L.base + L.bds.length) path b && TB.fine cx bds x (L.xid + 1) path r

def TT.fine {α : Type} (cx : Cx) : Nat → List E → TT α → Bool
  | _, _, .leaf _ => true
  | n, path, .br e t f => e.vb n && TT.fine cx n (e :: path) t && TT.fine cx n path f
  | _, _, .bad _ => true
  | n, path, .new i e t => Nat.ble n i && e.vb i && cx.okB i && TT.fine cx (i + 1) path t
  | n, path, .loop L b r => Nat.ble n L.base && cx.okB L.base && L.init.all (·.vb n) && bdsOk cx path L.bds L.init && Nat.ble (L.base + L.bds.length) L.xid &&
      TB.fine cx L.bds L.xid (L.base + L.bds.length) path b && TT.fine cx (L.xid + 1) path r

theorem map_agn {n : Nat} {ρ ρ' : Env} (ha : Agn n ρ ρ') {l : List E} (h : l.all (·.vb n) = true) : l.map (E.ev ρ') = l.map (E.ev ρ) :=
  List.map_congr_left fun e he => E.vb_ev ha e (List.all_eq_true.1 h e he)
theorem vb_all_mono {n m : Nat} (hm : n ≤ m) {l : List E} (h : l.all (·.vb n) = true) : l.all (·.vb m) = true :=
  List.all_eq_true.2 fun e he => E.vb_mono hm e (List.all_eq_true.1 h e he)
theorem vals_agn {L : Lp} {x : Nat} {ρ ρ' : Env} (ha : Agn x ρ ρ') (h : L.base + L.bds.length ≤ x) : L.vals ρ' = L.vals ρ := by
  unfold Lp.vals
  refine List.map_congr_left fun k hk => ha.i _ ?_
  have := List.mem_range.1 hk
  omega

/-- what a round selects hangs on the names below x alone -/
theorem TB.sel_agn {cx : Cx} {bds : List (Option (Int × Int))} {x : Nat} : ∀ {t : TB} {n : Nat} {path : List E} {ρ ρ' : Env} {r : List Int ⊕ Nat}, t.fine cx bds x n path = true → n ≤ x → Agn x ρ ρ' → t.sel ρ = some r → t.sel ρ' = some r
  | .back l, n, path, ρ, ρ', r, hf, hn, ha, h => by
    simp only [TB.fine, Bool.and_eq_true] at hf
    simp only [TB.sel] at h ⊢
    rw [map_agn ha (vb_all_mono hn hf.1)]; exact h
  | .exit k, n, path, ρ, ρ', r, hf, hn, ha, h => h
  | .br e t f, n, path, ρ, ρ', r, hf, hn, ha, h => by
    simp only [TB.fine, Bool.and_eq_true] at hf
    simp only [TB.sel] at h ⊢
    rw [E.vb_ev ha e (E.vb_mono hn e hf.1.1)]
    split at h
    · rename_i hc; rw [if_pos hc]; exact TB.sel_agn hf.1.2 hn ha h
    · rename_i hc; rw [if_neg hc]; exact TB.sel_agn hf.2 hn ha h
  | .bad _, n, path, ρ, ρ', r, hf, hn, ha, h => h
  | .new i e t, n, path, ρ, ρ', r, hf, hn, ha, h => by
    simp only [TB.fine, Bool.and_eq_true, Nat.blt_eq] at hf
    have hi := hf.1.1.2
    simp only [TB.sel] at h ⊢
    rw [E.vb_ev ha e (E.vb_mono (by omega) e hf.1.2), ha.i i hi]
    split at h
    · rename_i hc; rw [if_pos hc]; exact TB.sel_agn hf.2 (by omega) ha h
    · cases h
  | .loop L b t, n, path, ρ, ρ', r, hf, hn, ha, h => by
    simp only [TB.fine, Bool.and_eq_true, Nat.blt_eq] at hf
    obtain ⟨⟨⟨⟨⟨⟨⟨h1, h2⟩, h3⟩, h4⟩, h5⟩, h6⟩, h7⟩, h8⟩ := hf
    have h1 := Nat.le_of_ble_eq_true h1
    have h5 := Nat.le_of_ble_eq_true h5
    simp only [TB.sel] at h ⊢
    split at h
    · rename_i hc
      rw [map_agn ha (vb_all_mono hn h3)]
      have key : ∀ σ, Chain (fun ρ' => b.sel ρ') L ρ σ → Chain (fun ρ' => b.sel ρ') L ρ' σ := by
        intro σ hch
        induction hch with
        | @last k hs hx =>
          have hv : L.vals ρ' = L.vals ρ := vals_agn ha (by omega)
          rw [← hv]
          exact .last (TB.sel_agn h7 h5 (ha.mono (by omega)) hs) (by rw [ha.i _ h6]; exact hx)
        | @step σ' ρ1 hag hs _ ih => exact .step ρ1 (((ha.mono (by omega : L.base ≤ x)).symm).trans hag) hs ih
      rw [if_pos (key _ hc)]
      exact TB.sel_agn h8 (by omega) ha h
    · cases h

/-! ### what holds selects -/

theorem vals_setL (ρ : Env) (L : Lp) {σ : List Int} (h : σ.length = L.bds.length) : L.vals (ρ.setL L.base σ) = σ := by
  apply List.ext_getElem?
  intro k
  unfold Lp.vals
  rw [List.getElem?_map]
  by_cases hk : k < L.bds.length
  · rw [List.getElem?_range hk, Option.map_some, setL_get, if_pos (by omega), Nat.add_sub_cancel_left, List.getD_eq_getElem?_getD, List.getElem?_eq_getElem (by omega)]
    rfl
  · rw [List.getElem?_eq_none (by simpa using hk), List.getElem?_eq_none (by omega)]; rfl

theorem path_agn {n : Nat} {ρ ρ' : Env} (ha : Agn n ρ ρ') {path : List E} (hv : ∀ e ∈ path, e.vb n = true) (hp : ∀ e ∈ path, e.ev ρ ≠ 0) : ∀ e ∈ path, e.ev ρ' ≠ 0 :=
  fun e he => by rw [E.vb_ev ha e (hv e he)]; exact hp e he

theorem TB.hd_sel {cx : Cx} : ∀ {t : TB} {bds : List (Option (Int × Int))} {x n : Nat} {path : List E} {J : List Int → Prop} {R : Nat → Env → Prop} {ρ : Env}, EnvOk cx ρ → cx.okB n = true → t.fine cx bds x n path = true → (∀ e ∈ path, e.vb n = true) → (∀ e ∈ path, e.ev ρ ≠ 0) → t.hd J R ρ →
    ∃ ρ', Agn n ρ ρ' ∧ ((∃ σ, t.sel ρ' = some (.inl σ) ∧ J σ ∧ inBd bds σ) ∨ (∃ k, t.sel ρ' = some (.inr k) ∧ R k ρ'))
  | .back l, bds, x, n, path, J, R, ρ, hρ, hok, hf, hpv, hp, h => by
    simp only [TB.fine, Bool.and_eq_true] at hf
    exact ⟨ρ, Agn.refl _ _, .inl ⟨_, rfl, h, bdsOk_ok hρ hp hf.2⟩⟩
  | .exit k, bds, x, n, path, J, R, ρ, hρ, hok, hf, hpv, hp, h => ⟨ρ, Agn.refl _ _, .inr ⟨k, rfl, h⟩⟩
  | .br e t f, bds, x, n, path, J, R, ρ, hρ, hok, hf, hpv, hp, h => by
    simp only [TB.fine, Bool.and_eq_true] at hf
    by_cases hc : e.ev ρ = 0
    · obtain ⟨ρ', ha, hr⟩ := TB.hd_sel hρ hok hf.2 hpv hp (h.2 hc)
      refine ⟨ρ', ha, ?_⟩
      have he := E.vb_ev ha e hf.1.1
      simp only [TB.sel, he, hc, ne_eq, not_true_eq_false, if_false]
      exact hr
    · obtain ⟨ρ', ha, hr⟩ := TB.hd_sel (path := e :: path) hρ hok hf.1.2 (fun c hm => by
        rcases List.mem_cons.1 hm with rfl | hm
        · exact hf.1.1
        · exact hpv c hm) (fun c hm => by
        rcases List.mem_cons.1 hm with rfl | hm
        · exact hc
        · exact hp c hm) (h.1 hc)
      refine ⟨ρ', ha, ?_⟩
      have he := E.vb_ev ha e hf.1.1
      simp only [TB.sel, he, ne_eq, hc, not_false_eq_true, if_true]
      exact hr
  | .bad _, bds, x, n, path, J, R, ρ, hρ, hok, hf, hpv, hp, h => by cases h
  | .new i e t, bds, x, n, path, J, R, ρ, hρ, hok, hf, hpv, hp, h => by
    simp only [TB.fine, Bool.and_eq_true] at hf
    have hni := Nat.le_of_ble_eq_true hf.1.1.1
    have hoki : cx.okB i = true := okB_mono hni hok
    have ha0 := set_agn ρ i (e.ev ρ)
    obtain ⟨ρ', ha, hr⟩ := TB.hd_sel (EnvOk.agn hoki hρ ha0) (okB_mono (by omega) hok) hf.2 (fun c hm => E.vb_mono (by omega) c (hpv c hm)) (path_agn (ha0.mono hni) hpv hp) h
    refine ⟨ρ', (ha0.mono hni).trans (ha.mono (by omega)), ?_⟩
    have hi : ρ'.i i = e.ev ρ := by rw [ha.i i (by omega)]; simp [Env.set]
    have he : e.ev ρ' = e.ev ρ := E.vb_ev (ha0.trans (ha.mono (by omega))) e hf.1.2
    simp only [TB.sel, hi, he, if_true]
    exact hr
  | .loop L b t, bds, x, n, path, J, R, ρ, hρ, hok, hf, hpv, hp, h => by
    simp only [TB.fine, Bool.and_eq_true, Nat.blt_eq] at hf
    obtain ⟨⟨⟨⟨⟨⟨⟨h1, h2⟩, h3⟩, h4⟩, h5⟩, h6⟩, h7⟩, h8⟩ := hf
    have h1 := Nat.le_of_ble_eq_true h1
    have h5 := Nat.le_of_ble_eq_true h5
    obtain ⟨I, ⟨m0, hI0⟩, hstep⟩ := h
    have hin0 := bdsOk_ok hρ hp h4
    have hl0 : (L.init.map (E.ev ρ)).length = L.bds.length := (inBd_get hin0).1.symm
    have key : ∀ (m : Nat) (σ : List Int), σ.length = L.bds.length → inBd L.bds σ → I σ m →
        ∃ ρ', Agn L.base ρ ρ' ∧ Chain (fun ρ' => b.sel ρ') L ρ' σ ∧ ((∃ τ, t.sel ρ' = some (.inl τ) ∧ J τ ∧ inBd bds τ) ∨ (∃ k, t.sel ρ' = some (.inr k) ∧ R k ρ')) := by
      intro m
      induction m using Nat.strongRecOn with
      | _ m ih =>
        intro σ hσ hin hI
        have ha0 := setL_agn ρ L.base σ
        have hρ1 := EnvOk.agn h2 hρ ha0
        obtain ⟨ρ1, ha1, hr⟩ := TB.hd_sel (path := path) hρ1 (okB_mono (by omega) h2) h7 (fun c hm => E.vb_mono (by omega) c (hpv c hm)) (path_agn (ha0.mono h1) hpv hp) (hstep σ m hσ hin hI)
        have hv1 : L.vals ρ1 = σ := by rw [vals_agn ha1 (Nat.le_refl _), vals_setL ρ L hσ]
        have hab : Agn L.base ρ ρ1 := ha0.trans (ha1.mono (by omega))
        rcases hr with ⟨σ', hs, ⟨m', hm', hI'⟩, hin'⟩ | ⟨k, hs, hR⟩
        · obtain ⟨ρ2, g1, g2, g3⟩ := ih m' hm' σ' ((inBd_get hin').1.symm) hin' hI'
          refine ⟨ρ2, g1, ?_, g3⟩
          rw [← hv1]
          exact .step ρ1 (g1.symm.trans hab) hs g2
        · have ha2 := set_agn ρ1 L.xid k
          have hρ2 : EnvOk cx (ρ1.set L.xid k) := EnvOk.agn (okB_mono (by omega : L.base ≤ L.base) h2) hρ (hab.trans (ha2.mono (by omega)))
          obtain ⟨ρ2, g1, g2⟩ := TB.hd_sel (path := path) hρ2 (okB_mono (by omega) h2) h8 (fun c hm => E.vb_mono (by omega) c (hpv c hm)) (path_agn ((hab.trans (ha2.mono (by omega))).mono h1) hpv hp) hR
          have hall : Agn L.xid ρ1 ρ2 := ha2.trans (g1.mono (by omega))
          refine ⟨ρ2, hab.trans (hall.mono (by omega)), ?_, g2⟩
          have hv2 : L.vals ρ2 = σ := by rw [vals_agn hall h5, hv1]
          rw [← hv2]
          refine .last (TB.sel_agn h7 h5 hall hs) ?_
          rw [g1.i _ (by omega)]; simp [Env.set]
    obtain ⟨ρ', g1, g2, g3⟩ := key m0 _ hl0 hin0 hI0
    refine ⟨ρ', g1.mono h1, ?_⟩
    have : L.init.map (E.ev ρ') = L.init.map (E.ev ρ) := map_agn (g1.mono h1) h3
    have hc : Chain (fun ρ' => b.sel ρ') L ρ' (L.init.map (E.ev ρ')) := by rw [this]; exact g2
    simp only [TB.sel, if_pos hc]
    exact g3

theorem TT.hd_sel {cx : Cx} {α : Type} {Q : α → Env → Prop} : ∀ {t : TT α} {n : Nat} {path : List E} {ρ : Env}, EnvOk cx ρ → cx.okB n = true → t.fine cx n path = true → (∀ e ∈ path, e.vb n = true) → (∀ e ∈ path, e.ev ρ ≠ 0) → t.hd Q ρ →
    ∃ ρ', Agn n ρ ρ' ∧ ∃ a, t.sel ρ' = some a ∧ Q a ρ'
  | .leaf a, n, path, ρ, hρ, hok, hf, hpv, hp, h => ⟨ρ, Agn.refl _ _, a, rfl, h⟩
  | .br e t f, n, path, ρ, hρ, hok, hf, hpv, hp, h => by
    simp only [TT.fine, Bool.and_eq_true] at hf
    by_cases hc : e.ev ρ = 0
    · obtain ⟨ρ', ha, a, hr, hQ⟩ := TT.hd_sel hρ hok hf.2 hpv hp (h.2 hc)
      refine ⟨ρ', ha, a, ?_, hQ⟩
      have he := E.vb_ev ha e hf.1.1
      simp only [TT.sel, he, hc, ne_eq, not_true_eq_false, if_false]
      exact hr
    · obtain ⟨ρ', ha, a, hr, hQ⟩ := TT.hd_sel (path := e :: path) hρ hok hf.1.2 (fun c hm => by
        rcases List.mem_cons.1 hm with rfl | hm
        · exact hf.1.1
        · exact hpv c hm) (fun c hm => by
        rcases List.mem_cons.1 hm with rfl | hm
        · exact hc
        · exact hp c hm) (h.1 hc)
      refine ⟨ρ', ha, a, ?_, hQ⟩
      have he := E.vb_ev ha e hf.1.1
      simp only [TT.sel, he, ne_eq, hc, not_false_eq_true, if_true]
      exact hr
  | .bad _, n, path, ρ, hρ, hok, hf, hpv, hp, h => by cases h
  | .new i e t, n, path, ρ, hρ, hok, hf, hpv, hp, h => by
    simp only [TT.fine, Bool.and_eq_true] at hf
    have hni := Nat.le_of_ble_eq_true hf.1.1.1
    have ha0 := set_agn ρ i (e.ev ρ)
    obtain ⟨ρ', ha, a, hr, hQ⟩ := TT.hd_sel (EnvOk.agn hf.1.2 hρ ha0) (okB_mono (by omega) hok) hf.2 (fun c hm => E.vb_mono (by omega) c (hpv c hm)) (path_agn (ha0.mono hni) hpv hp) h
    refine ⟨ρ', (ha0.mono hni).trans (ha.mono (by omega)), a, ?_, hQ⟩
    have hi : ρ'.i i = e.ev ρ := by rw [ha.i i (by omega)]; simp [Env.set]
    have he : e.ev ρ' = e.ev ρ := E.vb_ev (ha0.trans (ha.mono (by omega))) e hf.1.1.2
    simp only [TT.sel, hi, he, if_true]
    exact hr
  | .loop L b t, n, path, ρ, hρ, hok, hf, hpv, hp, h => by
    simp only [TT.fine, Bool.and_eq_true] at hf
    obtain ⟨⟨⟨⟨⟨⟨h1, h2⟩, h3⟩, h4⟩, h5⟩, h7⟩, h8⟩ := hf
    have h1 := Nat.le_of_ble_eq_true h1
    have h5 := Nat.le_of_ble_eq_true h5
    obtain ⟨I, ⟨m0, hI0⟩, hstep⟩ := h
    have hin0 := bdsOk_ok hρ hp h4
    have hl0 : (L.init.map (E.ev ρ)).length = L.bds.length := (inBd_get hin0).1.symm
    have key : ∀ (m : Nat) (σ : List Int), σ.length = L.bds.length → inBd L.bds σ → I σ m →
        ∃ ρ', Agn L.base ρ ρ' ∧ Chain (fun ρ' => b.sel ρ') L ρ' σ ∧ ∃ a, t.sel ρ' = some a ∧ Q a ρ' := by
      intro m
      induction m using Nat.strongRecOn with
      | _ m ih =>
        intro σ hσ hin hI
        have ha0 := setL_agn ρ L.base σ
        have hρ1 := EnvOk.agn h2 hρ ha0
        obtain ⟨ρ1, ha1, hr⟩ := TB.hd_sel (path := path) hρ1 (okB_mono (by omega) h2) h7 (fun c hm => E.vb_mono (by omega) c (hpv c hm)) (path_agn (ha0.mono h1) hpv hp) (hstep σ m hσ hin hI)
        have hv1 : L.vals ρ1 = σ := by rw [vals_agn ha1 (Nat.le_refl _), vals_setL ρ L hσ]
        have hab : Agn L.base ρ ρ1 := ha0.trans (ha1.mono (by omega))
        rcases hr with ⟨σ', hs, ⟨m', hm', hI'⟩, hin'⟩ | ⟨k, hs, hR⟩
        · obtain ⟨ρ2, g1, g2, g3⟩ := ih m' hm' σ' ((inBd_get hin').1.symm) hin' hI'
          refine ⟨ρ2, g1, ?_, g3⟩
          rw [← hv1]
          exact .step ρ1 (g1.symm.trans hab) hs g2
        · have ha2 := set_agn ρ1 L.xid k
          have hρ2 : EnvOk cx (ρ1.set L.xid k) := EnvOk.agn h2 hρ (hab.trans (ha2.mono (by omega)))
          obtain ⟨ρ2, g1, g2⟩ := TT.hd_sel (path := path) hρ2 (okB_mono (by omega) h2) h8 (fun c hm => E.vb_mono (by omega) c (hpv c hm)) (path_agn ((hab.trans (ha2.mono (by omega))).mono h1) hpv hp) hR
          have hall : Agn L.xid ρ1 ρ2 := ha2.trans (g1.mono (by omega))
          refine ⟨ρ2, hab.trans (hall.mono (by omega)), ?_, g2⟩
          have hv2 : L.vals ρ2 = σ := by rw [vals_agn hall h5, hv1]
          rw [← hv2]
          refine .last (TB.sel_agn h7 h5 hall hs) ?_
          rw [g1.i _ (by omega)]; simp [Env.set]
    obtain ⟨ρ', g1, g2, g3⟩ := key m0 _ hl0 hin0 hI0
    refine ⟨ρ', g1.mono h1, ?_⟩
    have : L.init.map (E.ev ρ') = L.init.map (E.ev ρ) := map_agn (g1.mono h1) h3
    have hc : Chain (fun ρ' => b.sel ρ') L ρ' (L.init.map (E.ev ρ')) := by rw [this]; exact g2
    simp only [TT.sel, if_pos hc]
    exact g3

end Go.Eng
