/-
  A symbolic executor, part TG: what is to be shown, as a plain statement of numbers; a law's answer.
-/
import Derived.Test.YtjooaieolphomaaDoorFngTF
import Derived.Below
import Derived.ChangeSame
set_option linter.unusedVariables false
set_option linter.unusedSimpArgs false
set_option linter.unusedSectionVars false
namespace Go.Eng
open Go.RowKit Go.WideShapes Go.ChangeShapes

/-! ### relations of so many numbers -/

def CurR : Nat → Type
  | 0 => Nat → Prop
  | k + 1 => Int → CurR k
def CurR.app : (k : Nat) → CurR k → List Int → Nat → Prop
  | 0, I, [], m => I m
  | k + 1, I, x :: l, m => CurR.app k (I x) l m
  | 0, _, _ :: _, _ => False
  | _ + 1, _, [], _ => False
def allC : Nat → (List Int → Prop) → Prop
  | 0, F => F []
  | k + 1, F => ∀ x : Int, allC k fun l => F (x :: l)
theorem allC_ok : ∀ {k : Nat} {F : List Int → Prop}, allC k F → ∀ σ : List Int, σ.length = k → F σ
  | 0, F, h, [], _ => h
  | k + 1, F, h, x :: l, hl => allC_ok (h x) l (by simpa using hl)
  | 0, _, _, _ :: _, hl => by simp at hl
  | k + 1, _, _, [], hl => by simp at hl

/-- the same without clamps -/
def E.evP (ρ : Env) : E → Int
  | .c n => n
  | .v i => ρ.i i
  | .b o k x y => o.ev k (x.evP ρ) (y.evP ρ)
  | .w k x => k.wrap (x.evP ρ)
  | .nt x => bool01 (x.evP ρ == 0)
  | .ite t x y => if t.evP ρ ≠ 0 then x.evP ρ else y.evP ρ
  | .f n x y z => ρ.f n (x.evP ρ) (y.evP ρ) (z.evP ρ)
  | .cl i _ _ => ρ.i i

abbrev NB := List (Nat × Int × Int)
def lookB : NB → Nat → Int → Int → Bool
  | [], _, _, _ => false
  | (i, l, h) :: m, j, l', h' => match Nat.beq i j with
    | true => decide (l' ≤ l) && decide (h ≤ h')
    | false => lookB m j l' h'
def E.tidy (nb : NB) : E → Bool
  | .c _ => true
  | .v _ => true
  | .b _ _ x y => x.tidy nb && y.tidy nb
  | .w _ x => x.tidy nb
  | .nt x => x.tidy nb
  | .ite t x y => t.tidy nb && x.tidy nb && y.tidy nb
  | .f _ x y z => x.tidy nb && y.tidy nb && z.tidy nb
  | .cl i l h => lookB nb i l h
def nbOk (ρ : Env) (nb : NB) : Prop := ∀ p ∈ nb, p.2.1 ≤ ρ.i p.1 ∧ ρ.i p.1 ≤ p.2.2

theorem lookB_ok {ρ : Env} {i : Nat} {l h : Int} : ∀ {nb : NB}, nbOk ρ nb → lookB nb i l h = true → l ≤ ρ.i i ∧ ρ.i i ≤ h
  | [], _, hl => by cases hl
  | (j, a, b) :: m, hn, hl => by
    simp only [lookB] at hl
    split at hl
    · rename_i hj
      have := Nat.eq_of_beq_eq_true hj
      subst this
      have := hn (j, a, b) List.mem_cons_self
      simp at hl this
      omega
    · exact lookB_ok (fun p hp => hn p (List.mem_cons_of_mem _ hp)) hl

theorem E.evP_ev {ρ : Env} {nb : NB} (hn : nbOk ρ nb) : ∀ (e : E), e.tidy nb = true → e.evP ρ = e.ev ρ := by
  intro e
  induction e with
  | c m => intro _; rfl
  | v i => intro _; rfl
  | b o k x y hx hy => intro h; simp only [E.tidy, Bool.and_eq_true] at h; simp only [E.ev, E.evP, hx h.1, hy h.2]
  | w k x hx => intro h; simp only [E.ev, E.evP, hx h]
  | nt x hx => intro h; simp only [E.ev, E.evP, hx h]
  | ite t x y ht hx hy => intro h; simp only [E.tidy, Bool.and_eq_true] at h; simp only [E.ev, E.evP, ht h.1.1, hx h.1.2, hy h.2]
  | f m x y z hx hy hz => intro h; simp only [E.tidy, Bool.and_eq_true] at h; simp only [E.ev, E.evP, hx h.1.1, hy h.1.2, hz h.2]
  | cl i l h => intro ht; obtain ⟨a, b⟩ := lookB_ok hn ht; simp only [E.ev, E.evP, clampZ_in a b]

theorem mapP_ev {ρ : Env} {nb : NB} (hn : nbOk ρ nb) {l : List E} (h : l.all (·.tidy nb) = true) : l.map (E.evP ρ) = l.map (E.ev ρ) :=
  List.map_congr_left fun e he => E.evP_ev hn e (List.all_eq_true.1 h e he)

/-! ### the plain statement -/

def TB.hdP (cx : Cx) (J : List Int → Prop) (R : Nat → Env → Prop) : TB → Env → Prop
  | .back l, ρ => J (l.map (E.evP ρ))
  | .exit n, ρ => R n ρ
  | .br e t f, ρ => (e.evP ρ ≠ 0 → t.hdP cx J R ρ) ∧ (e.evP ρ = 0 → f.hdP cx J R ρ)
  | .bad _, _ => False
  | .new i e t, ρ => ∀ y : Int, y = e.evP ρ → inIv y (e.iv cx) → t.hdP cx J R (ρ.set i y)
  | .loop L b r, ρ => ∃ I : CurR L.bds.length, (∃ m, I.app _ (L.init.map (E.evP ρ)) m) ∧
      allC L.bds.length fun σ => ∀ m, inBd L.bds σ → I.app _ σ m → b.hdP cx (fun σ' => ∃ m', m' < m ∧ I.app _ σ' m') (fun n ρ' => r.hdP cx J R (ρ'.set L.xid n)) (ρ.setL L.base σ)

def TT.hdP (cx : Cx) (F : List Int → Prop) : TT (List E) → Env → Prop
  | .leaf l, ρ => F (l.map (E.evP ρ))
  | .br e t f, ρ => (e.evP ρ ≠ 0 → t.hdP cx F ρ) ∧ (e.evP ρ = 0 → f.hdP cx F ρ)
  | .bad _, _ => False
  | .new i e t, ρ => ∀ y : Int, y = e.evP ρ → inIv y (e.iv cx) → t.hdP cx F (ρ.set i y)
  | .loop L b r, ρ => ∃ I : CurR L.bds.length, (∃ m, I.app _ (L.init.map (E.evP ρ)) m) ∧
      allC L.bds.length fun σ => ∀ m, inBd L.bds σ → I.app _ σ m → b.hdP cx (fun σ' => ∃ m', m' < m ∧ I.app _ σ' m') (fun n ρ' => r.hdP cx F (ρ'.set L.xid n)) (ρ.setL L.base σ)

/-- the names' bounds of a loop -/
def nbL : Nat → List (Option (Int × Int)) → NB
  | _, [] => []
  | i, some p :: l => (i, p.1, p.2) :: nbL (i + 1) l
  | i, none :: l => nbL (i + 1) l
def nbLt (n : Nat) (nb : NB) : Bool := nb.all fun p => Nat.blt p.1 n

def TB.tidy (cx : Cx) (nb : NB) (K : NB → Bool) : TB → Bool
  | .back l => l.all (·.tidy nb)
  | .exit _ => K nb
  | .br e t f => e.tidy nb && TB.tidy cx nb K t && TB.tidy cx nb K f
  | .bad _ => true
  | .new i e t => e.tidy nb && nbLt i nb && cx.okB i && (match e.iv cx with
    | some p => TB.tidy cx ((i, p.1, p.2) :: nb) K t
    | none => TB.tidy cx nb K t)
  | .loop L b r => L.init.all (·.tidy nb) && nbLt L.base nb && cx.okB L.base && TB.tidy cx (nbL L.base L.bds ++ nb) (fun nb' => nbLt L.xid nb' && Nat.ble L.base L.xid && TB.tidy cx nb' K r) b

def TT.tidy (cx : Cx) (nb : NB) : TT (List E) → Bool
  | .leaf l => l.all (·.tidy nb)
  | .br e t f => e.tidy nb && TT.tidy cx nb t && TT.tidy cx nb f
  | .bad _ => true
  | .new i e t => e.tidy nb && nbLt i nb && cx.okB i && (match e.iv cx with
    | some p => TT.tidy cx ((i, p.1, p.2) :: nb) t
    | none => TT.tidy cx nb t)
  | .loop L b r => L.init.all (·.tidy nb) && nbLt L.base nb && cx.okB L.base && TB.tidy cx (nbL L.base L.bds ++ nb) (fun nb' => nbLt L.xid nb' && Nat.ble L.base L.xid && TT.tidy cx nb' r) b

theorem nb_agn {n : Nat} {nb : NB} {ρ ρ' : Env} (h : nbLt n nb = true) (ha : Agn n ρ ρ') (hn : nbOk ρ nb) : nbOk ρ' nb := by
  intro p hp
  have := List.all_eq_true.1 h p hp
  rw [ha.i _ (by simpa using this)]
  exact hn p hp

theorem nbL_ok {ρ : Env} {b0 : Nat} {σ0 : List Int} : ∀ {l : List (Option (Int × Int))} {σ : List Int} {i : Nat}, inBd l σ → (∀ k x, σ[k]? = some x → ρ.i (i + k) = x) → nbOk ρ (nbL i l)
  | [], [], i, _, _ => fun p hp => by cases hp
  | some q :: l, x :: σ, i, h, hv => by
    intro p hp
    simp only [nbL] at hp
    rcases List.mem_cons.1 hp with rfl | hp
    · have := hv 0 x rfl
      simp only [Nat.add_zero] at this
      simp only [this]
      exact h.1
    · exact nbL_ok (b0 := b0) (σ0 := σ0) h.2 (fun k y hk => by have := hv (k + 1) y (by simpa using hk); rwa [show i + (k + 1) = i + 1 + k by omega] at this) p hp
  | none :: l, x :: σ, i, h, hv => by
    simp only [nbL]
    exact nbL_ok (b0 := b0) (σ0 := σ0) (l := l) (σ := σ) (i := i + 1) h.2 (fun k y hk => by have := hv (k + 1) y (by simpa using hk); rwa [show i + (k + 1) = i + 1 + k by omega] at this)
  | [], _ :: _, _, h, _ => by cases h
  | none :: _, [], _, h, _ => by cases h
  | some _ :: _, [], _, h, _ => by cases h

theorem nb_loop {ρ : Env} {L : Lp} {nb : NB} {σ : List Int} (h : nbLt L.base nb = true) (hn : nbOk ρ nb) (hin : inBd L.bds σ) : nbOk (ρ.setL L.base σ) (nbL L.base L.bds ++ nb) := by
  intro p hp
  rcases List.mem_append.1 hp with hp | hp
  · refine nbL_ok (b0 := 0) (σ0 := []) hin (fun k x hk => ?_) p hp
    have hlt := (List.getElem?_eq_some_iff.1 hk).1
    rw [setL_get, if_pos (by omega), Nat.add_sub_cancel_left, List.getD_eq_getElem?_getD, hk]; rfl
  · exact nb_agn h (setL_agn ρ L.base σ) hn p hp

theorem TB.hdP_ok {cx : Cx} : ∀ {t : TB} {nb : NB} {J : List Int → Prop} {R R' : Nat → Env → Prop} {K : NB → Bool} {ρ : Env}, EnvOk cx ρ → nbOk ρ nb → TB.tidy cx nb K t = true →
    (∀ n ρ' nb', EnvOk cx ρ' → nbOk ρ' nb' → K nb' = true → R n ρ' → R' n ρ') → t.hdP cx J R ρ → t.hd J R' ρ
  | .back l, nb, J, R, R', K, ρ, hρ, hn, ht, hR, h => by
    simp only [TB.tidy] at ht
    simp only [TB.hdP, mapP_ev hn ht] at h
    exact h
  | .exit n, nb, J, R, R', K, ρ, hρ, hn, ht, hR, h => hR n ρ nb hρ hn ht h
  | .br e t f, nb, J, R, R', K, ρ, hρ, hn, ht, hR, h => by
    simp only [TB.tidy, Bool.and_eq_true] at ht
    simp only [TB.hdP, E.evP_ev hn e ht.1.1] at h
    exact ⟨fun hc => TB.hdP_ok hρ hn ht.1.2 hR (h.1 hc), fun hc => TB.hdP_ok hρ hn ht.2 hR (h.2 hc)⟩
  | .bad _, nb, J, R, R', K, ρ, hρ, hn, ht, hR, h => h
  | .new i e t, nb, J, R, R', K, ρ, hρ, hn, ht, hR, h => by
    simp only [TB.tidy, Bool.and_eq_true] at ht
    obtain ⟨⟨⟨h1, h2⟩, h3⟩, h4⟩ := ht
    simp only [TB.hdP, E.evP_ev hn e h1] at h
    have hiv := E.iv_ok hρ e
    have ha := set_agn ρ i (e.ev ρ)
    have hρ' := EnvOk.agn h3 hρ ha
    have hn' := nb_agn h2 ha hn
    have hh := h _ rfl hiv
    show t.hd J R' (ρ.set i (e.ev ρ))
    split at h4
    · rename_i p hp
      rw [hp] at hiv
      refine TB.hdP_ok (nb := (i, p.1, p.2) :: nb) hρ' (fun q hq => ?_) h4 hR hh
      rcases List.mem_cons.1 hq with rfl | hq
      · simp [Env.set]; exact hiv
      · exact hn' q hq
    · exact TB.hdP_ok hρ' hn' h4 hR hh
  | .loop L b r, nb, J, R, R', K, ρ, hρ, hn, ht, hR, h => by
    simp only [TB.tidy, Bool.and_eq_true] at ht
    obtain ⟨⟨⟨h1, h2⟩, h3⟩, h4⟩ := ht
    obtain ⟨I, ⟨m, hm⟩, hst⟩ := h
    rw [mapP_ev hn h1] at hm
    refine ⟨fun σ m => I.app _ σ m, ⟨m, hm⟩, fun σ m hl hin hI => ?_⟩
    have hb := allC_ok hst σ hl m hin hI
    refine TB.hdP_ok (EnvOk.agn h3 hρ (setL_agn ρ L.base σ)) (nb_loop h2 hn hin) h4 (fun n ρ' nb' e1 e2 e3 e4 => ?_) hb
    simp only [Bool.and_eq_true] at e3
    have ha := set_agn ρ' L.xid n
    exact TB.hdP_ok (EnvOk.agn (okB_mono (Nat.le_of_ble_eq_true e3.1.2) h3) e1 ha) (nb_agn e3.1.1 ha e2) e3.2 hR e4

theorem TT.hdP_ok {cx : Cx} {F : List Int → Prop} : ∀ {t : TT (List E)} {nb : NB} {ρ : Env}, EnvOk cx ρ → nbOk ρ nb → TT.tidy cx nb t = true → t.hdP cx F ρ → t.hd (fun l ρ => F (l.map (E.ev ρ))) ρ
  | .leaf l, nb, ρ, hρ, hn, ht, h => by
    simp only [TT.tidy] at ht
    simp only [TT.hdP, mapP_ev hn ht] at h
    exact h
  | .br e t f, nb, ρ, hρ, hn, ht, h => by
    simp only [TT.tidy, Bool.and_eq_true] at ht
    simp only [TT.hdP, E.evP_ev hn e ht.1.1] at h
    exact ⟨fun hc => TT.hdP_ok hρ hn ht.1.2 (h.1 hc), fun hc => TT.hdP_ok hρ hn ht.2 (h.2 hc)⟩
  | .bad _, nb, ρ, hρ, hn, ht, h => h
  | .new i e t, nb, ρ, hρ, hn, ht, h => by
    simp only [TT.tidy, Bool.and_eq_true] at ht
    obtain ⟨⟨⟨h1, h2⟩, h3⟩, h4⟩ := ht
    simp only [TT.hdP, E.evP_ev hn e h1] at h
    have hiv := E.iv_ok hρ e
    have ha := set_agn ρ i (e.ev ρ)
    have hρ' := EnvOk.agn h3 hρ ha
    have hn' := nb_agn h2 ha hn
    have hh := h _ rfl hiv
    show t.hd (fun l ρ => F (l.map (E.ev ρ))) (ρ.set i (e.ev ρ))
    split at h4
    · rename_i p hp
      rw [hp] at hiv
      refine TT.hdP_ok (nb := (i, p.1, p.2) :: nb) hρ' (fun q hq => ?_) h4 hh
      rcases List.mem_cons.1 hq with rfl | hq
      · simp [Env.set]; exact hiv
      · exact hn' q hq
    · exact TT.hdP_ok hρ' hn' h4 hh
  | .loop L b r, nb, ρ, hρ, hn, ht, h => by
    simp only [TT.tidy, Bool.and_eq_true] at ht
    obtain ⟨⟨⟨h1, h2⟩, h3⟩, h4⟩ := ht
    obtain ⟨I, ⟨m, hm⟩, hst⟩ := h
    rw [mapP_ev hn h1] at hm
    refine ⟨fun σ m => I.app _ σ m, ⟨m, hm⟩, fun σ m hl hin hI => ?_⟩
    have hb := allC_ok hst σ hl m hin hI
    refine TB.hdP_ok (EnvOk.agn h3 hρ (setL_agn ρ L.base σ)) (nb_loop h2 hn hin) h4 (fun n ρ' nb' e1 e2 e3 e4 => ?_) hb
    simp only [Bool.and_eq_true] at e3
    have ha := set_agn ρ' L.xid n
    exact TT.hdP_ok (EnvOk.agn (okB_mono (Nat.le_of_ble_eq_true e3.1.2) h3) e1 ha) (nb_agn e3.1.1 ha e2) e3.2 e4

/-! ### trees, held against each other -/

def eLbeq : List E → List E → Bool
  | [], [] => true
  | a :: l, b :: m => a.beq b && eLbeq l m
  | _, _ => false
theorem eL_of_beq : ∀ {l m : List E}, eLbeq l m = true → l = m
  | [], [], _ => rfl
  | a :: l, b :: m, h => by
    simp only [eLbeq, Bool.and_eq_true] at h
    rw [E.eq_of_beq h.1, eL_of_beq h.2]
  | [], _ :: _, h => by cases h
  | _ :: _, [], h => by cases h
def Lp.beq (a b : Lp) : Bool := Nat.beq a.base b.base && decide (a.bds = b.bds) && eLbeq a.init b.init && Nat.beq a.xid b.xid
theorem Lp.eq_of_beq {a b : Lp} (h : a.beq b = true) : a = b := by
  obtain ⟨a1, a2, a3, a4⟩ := a
  obtain ⟨b1, b2, b3, b4⟩ := b
  simp only [Lp.beq, Bool.and_eq_true, decide_eq_true_eq] at h
  rw [Nat.eq_of_beq_eq_true h.1.1.1, h.1.1.2, eL_of_beq h.1.2, Nat.eq_of_beq_eq_true h.2]
def TB.beq : TB → TB → Bool
  | .back a, .back b => eLbeq a b
  | .exit a, .exit b => Nat.beq a b
  | .br e t f, .br e' t' f' => e.beq e' && TB.beq t t' && TB.beq f f'
  | .bad n, .bad m => Nat.beq n m
  | .new i e t, .new i' e' t' => Nat.beq i i' && e.beq e' && TB.beq t t'
  | .loop L b r, .loop L' b' r' => L.beq L' && TB.beq b b' && TB.beq r r'
  | _, _ => false
theorem TB.eq_of_beq : ∀ {x y : TB}, TB.beq x y = true → x = y := by
  intro x
  induction x with
  | back a => intro y h; cases y <;> simp only [TB.beq] at h <;> first | (rw [eL_of_beq h]) | cases h
  | exit a => intro y h; cases y <;> simp only [TB.beq] at h <;> first | (rw [Nat.eq_of_beq_eq_true h]) | cases h
  | br e t f ht hf =>
    intro y h
    cases y <;> simp only [TB.beq] at h <;> try (cases h; done)
    simp only [Bool.and_eq_true] at h
    rw [E.eq_of_beq h.1.1, ht h.1.2, hf h.2]
  | bad n => intro y h; cases y <;> simp only [TB.beq] at h <;> first | (rw [Nat.eq_of_beq_eq_true h]) | cases h
  | new i e t ht =>
    intro y h
    cases y <;> simp only [TB.beq] at h <;> try (cases h; done)
    simp only [Bool.and_eq_true] at h
    rw [Nat.eq_of_beq_eq_true h.1.1, E.eq_of_beq h.1.2, ht h.2]
  | loop L b r hb hr =>
    intro y h
    cases y <;> simp only [TB.beq] at h <;> try (cases h; done)
    simp only [Bool.and_eq_true] at h
    rw [Lp.eq_of_beq h.1.1, hb h.1.2, hr h.2]
def TT.beq : TT (List E) → TT (List E) → Bool
  | .leaf a, .leaf b => eLbeq a b
  | .br e t f, .br e' t' f' => e.beq e' && TT.beq t t' && TT.beq f f'
  | .bad n, .bad m => Nat.beq n m
  | .new i e t, .new i' e' t' => Nat.beq i i' && e.beq e' && TT.beq t t'
  | .loop L b r, .loop L' b' r' => L.beq L' && TB.beq b b' && TT.beq r r'
  | _, _ => false
theorem TT.eq_of_beq : ∀ {x y : TT (List E)}, TT.beq x y = true → x = y := by
  intro x
  induction x with
  | leaf a => intro y h; cases y <;> simp only [TT.beq] at h <;> first | (rw [eL_of_beq h]) | cases h
  | br e t f ht hf =>
    intro y h
    cases y <;> simp only [TT.beq] at h <;> try (cases h; done)
    simp only [Bool.and_eq_true] at h
    rw [E.eq_of_beq h.1.1, ht h.1.2, hf h.2]
  | bad n => intro y h; cases y <;> simp only [TT.beq] at h <;> first | (rw [Nat.eq_of_beq_eq_true h]) | cases h
  | new i e t ht =>
    intro y h
    cases y <;> simp only [TT.beq] at h <;> try (cases h; done)
    simp only [Bool.and_eq_true] at h
    rw [Nat.eq_of_beq_eq_true h.1.1, E.eq_of_beq h.1.2, ht h.2]
  | loop L b r hr =>
    intro y h
    cases y <;> simp only [TT.beq] at h <;> try (cases h; done)
    simp only [Bool.and_eq_true] at h
    rw [Lp.eq_of_beq h.1.1, TB.eq_of_beq h.1.2, hr h.2]

/-! ### answers -/

/-- an answer, as numbers -/
def projL (pj : SV → St → Option (List E)) : RT2 → TT (List E)
  | .leaf (v, s) => match pj v s with
    | some l => .leaf l
    | none => .bad 90
  | .br e t f => .br e (projL pj t) (projL pj f)
  | .bad n => .bad n
  | .new i e t => .new i e (projL pj t)
  | .loop L b r => .loop L b (projL pj r)
theorem projL_sel {pj : SV → St → Option (List E)} {ρ : Env} : ∀ {t : RT2} {l : List E}, (projL pj t).sel ρ = some l → ∃ v s, t.sel ρ = some (v, s) ∧ pj v s = some l
  | .leaf (v, s), l, h => by
    simp only [projL] at h
    split at h
    · rename_i l' hl
      cases h
      exact ⟨v, s, rfl, hl⟩
    · cases h
  | .br e t f, l, h => by
    simp only [projL, TT.sel] at h ⊢
    split at h
    · rename_i hc; rw [if_pos hc]; exact projL_sel h
    · rename_i hc; rw [if_neg hc]; exact projL_sel h
  | .bad n, l, h => by cases h
  | .new i e t, l, h => by
    simp only [projL, TT.sel] at h ⊢
    split at h
    · rename_i hc; rw [if_pos hc]; exact projL_sel h
    · cases h
  | .loop L b r, l, h => by
    simp only [projL, TT.sel] at h ⊢
    split at h
    · rename_i hc; rw [if_pos hc]; exact projL_sel h
    · cases h

theorem live_nil {β : Bt} {j : Nat} : ¬ live β ⟨[], []⟩ j := fun ⟨b, h, _⟩ => by simp at h
theorem sat_nil {ρ : Env} {β : Bt} {w : World} (h : RoOk ρ β ⟨[], []⟩ w) : Sat ρ β ⟨[], []⟩ w :=
  ⟨fun j b h => by simp at h, fun i j hi _ _ => absurd hi live_nil, fun e b h => (by cases h), h⟩
theorem below_ext {s s' : St} {β β' : Bt} {w w' : World} (hs : s.bl = []) (h : Ext s s' β β' w w') : Below w.heap.size w w' :=
  ⟨h.os, h.tape, h.output, h.size, fun k hk => h.fr k hk fun j ⟨b, hj, _⟩ => by rw [hs] at hj; simp at hj⟩

/-- a call that is run, and whose tree holds: what is selected -/
theorem run_of {cx : Cx} {cf : CFT} (hcf : CallOkT cx cf) {ρ : Env} (hρ : EnvOk cx ρ) {f : FuncId} {args : List SV} {t : TT (List E)} {pj : SV → St → Option (List E)} {F : List Int → Prop} (ht : TT.beq (projL pj (cf f args ⟨[], []⟩)) t = true)
    (hfine : (TT.fine cx 1000 [] t && cx.okB 1000 && SV.vbL 1000 args && TT.tidy cx [] t) = true) (hh : t.hdP cx F ρ) {w : World} (hro : RoOk ρ b0 ⟨[], []⟩ w)
    {vs : Array Value} (hv : vs = (SV.denL ρ b0 args).toArray) :
    Calls cx.P f vs w fun e w' => ∃ (ρ' : Env) (v : SV) (s' : St) (l : List E) (β' : Bt), e = .returned (v.den ρ' β') ∧ pj v s' = some l ∧ F (l.map (E.ev ρ')) ∧ EnvOk cx ρ' ∧ Agn 1000 ρ ρ' ∧ Sat ρ' β' s' w' ∧ Ext ⟨[], []⟩ s' b0 β' w w' := by
  subst hv
  simp only [Bool.and_eq_true] at hfine
  have ht := TT.eq_of_beq ht
  have h1 := TT.hdP_ok hρ (fun p hp => by cases hp) hfine.2 hh
  obtain ⟨ρ', ha, l, hsel, hF⟩ := TT.hd_sel hρ hfine.1.1.2 hfine.1.1.1 (fun e he => by cases he) (fun e he => by cases he) h1
  rw [← ht] at hsel
  obtain ⟨v, s', h2, h3⟩ := projL_sel hsel
  have hρ' := EnvOk.agn hfine.1.1.2 hρ ha
  rw [← SV.vbL_den ha b0 args hfine.1.2]
  have hro' : RoOk ρ' b0 ⟨[], []⟩ w := fun k a i x e1 e2 => by rw [ha.ro] at e1 e2; exact hro k a i x e1 e2
  refine (hcf ρ' b0 ⟨[], []⟩ s' w f args v hρ' (sat_nil hro') h2).mono ?_
  rintro e w' ⟨β', rfl, hs, hx⟩
  exact ⟨ρ', v, s', l, β', rfl, h3, hF, hρ', ha, hs, hx⟩

def pjB : SV → St → Option (List E)
  | .bool e, _ => some [e]
  | _, _ => none
def isOne : List Int → Prop
  | [b] => b ≠ 0
  | _ => False

/-- a law's answer -/
theorem lawT_of {cx : Cx} {cf : CFT} (hcf : CallOkT cx cf) {ρ : Env} (hρ : EnvOk cx ρ) {f : FuncId} {args : List SV} {t : TT (List E)} (ht : TT.beq (projL pjB (cf f args ⟨[], []⟩)) t = true)
    (hfine : (TT.fine cx 1000 [] t && cx.okB 1000 && SV.vbL 1000 args && TT.tidy cx [] t) = true) (hh : t.hdP cx isOne ρ) {w : World} (hro : RoOk ρ b0 ⟨[], []⟩ w)
    {vs : Array Value} (hv : vs = (SV.denL ρ b0 args).toArray) :
    Calls cx.P f vs w fun e w' => e = .returned (.bool true) ∧ Below w.heap.size w w' := by
  refine (run_of hcf hρ ht hfine hh hro hv).mono ?_
  rintro e w' ⟨ρ', v, s', l, β', rfl, h2, h3, _, _, _, hx⟩
  refine ⟨?_, below_ext rfl hx⟩
  unfold pjB at h2
  split at h2
  · rename_i b
    cases h2
    simp only [List.map_cons, List.map_nil, isOne] at h3
    simp only [SV.den, bne_iff_ne, ne_eq, h3, not_false_eq_true, Ending.returned.injEq, Value.bool.injEq]
  · cases h2

end Go.Eng
