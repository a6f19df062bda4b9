/-
  Functions of numbers by their trees: what a tree answers, as numbers; equal answers by plain statements.
-/
import Derived.Test.YtjooaieolphomaaEngT
set_option linter.unusedVariables false
set_option linter.unusedSimpArgs false
namespace Go.Eng
open Go.RowKit

def outE : SV → Env → Int
  | .int _ e, ρ => e.ev ρ
  | _, _ => 0
def outS : SV → Env → List Int
  | .int _ e, ρ => [e.ev ρ]
  | .tup l, ρ => l.map fun v => outE v ρ
  | _, _ => []
def outPE : SV → Env → Int
  | .int _ e, ρ => e.evP ρ
  | _, _ => 0
def outP : SV → Env → List Int
  | .int _ e, ρ => [e.evP ρ]
  | .tup l, ρ => l.map fun v => outPE v ρ
  | _, _ => []
/-- what a tree answers -/
def T.outs : T SV → Env → List Int
  | .leaf v, ρ => outS v ρ
  | .br e t f, ρ => if e.ev ρ ≠ 0 then t.outs ρ else f.outs ρ
  | .bad _, _ => []
  | .new i e t, ρ => t.outs (ρ.set i (e.ev ρ))
def is32V : SV → Bool
  | .int .i32 _ => true
  | _ => false
/-- one number, or several, of 32 bits -/
def shapeS (one : Bool) : SV → Bool
  | .int .i32 _ => one
  | .tup l => !one && l.all is32V
  | _ => false
def T.good (one : Bool) : Nat → T SV → Bool
  | n, .leaf v => shapeS one v && v.sc 0 && v.vb n
  | n, .br e t f => e.vb n && T.good one n t && T.good one n f
  | _, .bad _ => false
  | n, .new i e t => Nat.ble n i && e.vb i && T.good one (i + 1) t
def mkV (one : Bool) (l : List Int) : Value := if one then .int .i32 (l.getD 0 0) else .tuple (l.map fun x => Value.int .i32 x).toArray

theorem den_i32 {ρ : Env} {β : Nat → Nat × Nat} : ∀ {l : List SV}, l.all is32V = true → SV.denL ρ β l = (l.map fun v => outE v ρ).map fun x => Value.int .i32 x
  | [], _ => rfl
  | v :: l, h => by
    simp only [List.all_cons, Bool.and_eq_true] at h
    simp only [SV.denL, List.map_cons, den_i32 h.2]
    have h1 := h.1
    unfold is32V at h1
    split at h1
    · simp only [SV.den, outE]
    · cases h1
theorem shape_den {one : Bool} {ρ : Env} {β : Nat → Nat × Nat} {v : SV} (h : shapeS one v = true) : v.den ρ β = mkV one (outS v ρ) := by
  unfold shapeS at h
  split at h
  · subst h; simp [SV.den, outS, mkV]
  · simp only [Bool.and_eq_true, Bool.not_eq_true'] at h
    rw [h.1]
    simp only [SV.den, outS, mkV, den_i32 h.2]
    rfl
  · cases h

theorem outs_sel {one : Bool} : ∀ {t : T SV} {ρ : Env} {n : Nat}, T.good one n t = true →
    ∃ ρ' : Env, (∀ j, j < n → ρ'.i j = ρ.i j) ∧ ρ'.f = ρ.f ∧ ρ'.v = ρ.v ∧ ∃ v, t.sel ρ' = some v ∧ ∀ β, v.den ρ' β = mkV one (t.outs ρ)
  | .leaf v, ρ, n, h => by
    simp only [T.good, Bool.and_eq_true] at h
    exact ⟨ρ, fun _ _ => rfl, rfl, rfl, v, rfl, fun β => shape_den h.1.1⟩
  | .br c t f, ρ, n, h => by
    simp only [T.good, Bool.and_eq_true] at h
    by_cases hc : c.ev ρ = 0
    · obtain ⟨ρ', h1, h2, h3, v, h4, h5⟩ := outs_sel (ρ := ρ) h.2
      refine ⟨ρ', h1, h2, h3, v, ?_, ?_⟩
      · simp only [T.sel, E.vb_ev h1 h2 c h.1.1, hc]
        simpa using h4
      · intro β; rw [h5]; simp only [T.outs, hc]; simp
    · obtain ⟨ρ', h1, h2, h3, v, h4, h5⟩ := outs_sel (ρ := ρ) h.1.2
      refine ⟨ρ', h1, h2, h3, v, ?_, ?_⟩
      · simp only [T.sel, E.vb_ev h1 h2 c h.1.1]
        rw [if_pos hc]; exact h4
      · intro β; rw [h5]; simp only [T.outs]; rw [if_pos hc]
  | .bad n, ρ, m, h => by cases h
  | .new i c t, ρ, n, h => by
    simp only [T.good, Bool.and_eq_true] at h
    have hni : n ≤ i := Nat.le_of_ble_eq_true h.1.1
    obtain ⟨ρ', h1, h2, h3, v, h4, h5⟩ := outs_sel (ρ := ρ.set i (c.ev ρ)) h.2
    have h6 : ∀ j, j < i → ρ'.i j = ρ.i j := fun j hj => by
      rw [h1 j (by omega)]
      simp only [Env.set]
      rw [if_neg (by omega)]
    refine ⟨ρ', fun j hj => h6 j (by omega), h2, h3, v, ?_, h5⟩
    have h7 : ρ'.i i = c.ev ρ' := by
      rw [E.vb_ev h6 h2 c h.1.2, h1 i (by omega)]
      simp [Env.set]
    simp only [T.sel, h7, if_true]
    exact h4

/-- a function that is told by a tree answers what the tree answers -/
theorem sem_of {one : Bool} {cx : Cx} {m : Sm} (h : TreeOk cx m) (hg : (T.good one 1000 m.t && Nat.ble (SV.bdsL m.ps).length 1000 && SV.vbL 1000 (tArgs m.rc m.ps)) = true) {ρ : Env} (hρ : EnvOk { cx with Γ := SV.bdsL m.ps } ρ) (w : World)
    {vs : Array Value} (hv : vs = (SV.denL ρ (fun _ => (0, 0)) (tArgs m.rc m.ps)).toArray) :
    Calls cx.P m.f vs w fun e w' => e = .returned (mkV one (m.t.outs ρ)) ∧ Below w.heap.size w w' := by
  subst hv
  simp only [Bool.and_eq_true] at hg
  obtain ⟨ρ', h1, h2, h3, v, h4, h5⟩ := outs_sel (ρ := ρ) hg.1.1
  have hρ' := envOk_of hρ (n := 1000) (Nat.le_of_ble_eq_true hg.1.2) h1 h2 h3
  rw [← SV.vbL_den h1 h2 h3 _ _ hg.2]
  refine (h ρ' w v hρ' h4).mono ?_
  rintro e w' ⟨rfl, hb⟩
  exact ⟨by rw [h5], hb⟩

def arS (k : Nat) : SV → Bool
  | .int _ _ => Nat.beq k 1
  | .tup l => Nat.beq l.length k
  | _ => false
def T.ar (k : Nat) : T SV → Bool
  | .leaf v => arS k v
  | .br _ t f => T.ar k t && T.ar k f
  | .bad _ => false
  | .new _ _ t => T.ar k t
theorem outs_len {k : Nat} : ∀ {t : T SV} {ρ : Env}, T.ar k t = true → (t.outs ρ).length = k
  | .leaf v, ρ, h => by
    simp only [T.ar] at h
    unfold arS at h
    split at h
    · have := Nat.eq_of_beq_eq_true h; simp only [T.outs, outS]; simp [this]
    · have := Nat.eq_of_beq_eq_true h; simp only [T.outs, outS]; simp [this]
    · cases h
  | .br c t f, ρ, h => by
    simp only [T.ar, Bool.and_eq_true] at h
    simp only [T.outs]
    split
    · exact outs_len h.1
    · exact outs_len h.2
  | .bad _, ρ, h => by cases h
  | .new i e t, ρ, h => by
    simp only [T.outs]
    exact outs_len (t := t) h

/-! ### what a tree answers, by a plain statement -/

def T.holdsL (cx : Cx) (R : List Int → Prop) : T SV → Env → Prop
  | .leaf v, ρ => R (outP v ρ)
  | .br e t f, ρ => (e.evP ρ ≠ 0 → t.holdsL cx R ρ) ∧ (e.evP ρ = 0 → f.holdsL cx R ρ)
  | .bad _, _ => False
  | .new i e t, ρ => ∀ y : Int, y = e.evP ρ → inIv y (e.iv cx) → t.holdsL cx R (ρ.set i y)
def tidyS (nb : NB) : SV → Bool
  | .int _ e => e.tidy nb
  | .tup l => l.all fun v => match v with
    | .int _ e => e.tidy nb
    | _ => true
  | _ => true
def T.tidyV (cx : Cx) : NB → T SV → Bool
  | nb, .leaf v => tidyS nb v
  | nb, .br e t f => e.tidy nb && T.tidyV cx nb t && T.tidyV cx nb f
  | _, .bad _ => true
  | nb, .new i e t => e.tidy nb && (nb.all fun p => Nat.blt p.1 i) && Nat.ble cx.Γ.length i && (match e.iv cx with
    | some p => T.tidyV cx ((i, p.1, p.2) :: nb) t
    | none => T.tidyV cx nb t)

theorem outP_eq {ρ : Env} {nb : NB} (hn : nbOk ρ nb) {v : SV} (h : tidyS nb v = true) : outP v ρ = outS v ρ := by
  unfold tidyS at h
  split at h
  · simp only [outP, outS, E.evP_ev hn _ h]
  · simp only [outP, outS]
    refine List.map_congr_left fun v hv => ?_
    have := List.all_eq_true.1 h v hv
    cases v <;> simp only [outPE, outE]
    exact E.evP_ev hn _ this
  · rename_i h1 h2
    cases v <;> first | rfl | (exact absurd rfl (h1 _ _)) | (exact absurd rfl (h2 _))

theorem holdsL_ok {cx : Cx} {R : List Int → Prop} : ∀ {t : T SV} {nb : NB} {ρ : Env}, EnvOk cx ρ → nbOk ρ nb → T.tidyV cx nb t = true → t.holdsL cx R ρ → R (t.outs ρ)
  | .leaf v, nb, ρ, hρ, hn, ht, h => by
    simp only [T.holdsL, outP_eq hn ht] at h
    exact h
  | .br e t f, nb, ρ, hρ, hn, ht, h => by
    simp only [T.tidyV, Bool.and_eq_true] at ht
    simp only [T.holdsL, E.evP_ev hn e ht.1.1] at h
    simp only [T.outs]
    split
    · rename_i hc; exact holdsL_ok hρ hn ht.1.2 (h.1 hc)
    · rename_i hc; exact holdsL_ok hρ hn ht.2 (h.2 (by simpa using hc))
  | .bad _, nb, ρ, hρ, hn, ht, h => h.elim
  | .new i e t, nb, ρ, hρ, hn, ht, h => by
    simp only [T.tidyV, Bool.and_eq_true] at ht
    obtain ⟨⟨⟨h1, h2⟩, h3⟩, h4⟩ := ht
    simp only [T.holdsL, E.evP_ev hn e h1] at h
    have hiv := E.iv_ok hρ e
    have hh := h _ rfl hiv
    have hle := Nat.le_of_ble_eq_true h3
    have hρ' : EnvOk cx (ρ.set i (e.ev ρ)) := envOk_of hρ (n := i) hle (fun j hj => by simp only [Env.set]; rw [if_neg (by omega)]) rfl rfl
    have hn' : nbOk (ρ.set i (e.ev ρ)) nb := fun p hp => by
      have h5 := List.all_eq_true.1 h2 p hp
      simp only [Env.set]
      have : p.1 < i := by simpa using h5
      rw [if_neg (by omega)]
      exact hn p hp
    show R (t.outs (ρ.set i (e.ev ρ)))
    split at h4
    · rename_i p hp
      rw [hp] at hiv
      refine holdsL_ok (nb := (i, p.1, p.2) :: nb) hρ' (fun q hq => ?_) h4 hh
      rcases List.mem_cons.1 hq with rfl | hq
      · simp [Env.set]; exact hiv
      · exact hn' q hq
    · exact holdsL_ok hρ' hn' h4 hh

/-- number by number -/
def cmpL (X : Prop) : List Int → List Int → Prop
  | [], [] => X
  | x :: l, y :: m => (bool01 (x == y) ≠ 0 → cmpL X l m) ∧ (bool01 (x == y) = 0 → (0 : Int) ≠ 0)
  | _, _ => False
theorem cmpL_eq {X : Prop} : ∀ {l m : List Int}, cmpL X l m → l = m ∧ X
  | [], [], h => ⟨rfl, h⟩
  | x :: l, y :: m, h => by
    have hxy : x = y := by
      by_cases hc : x = y
      · exact hc
      · have := h.2 (by simp [bool01, hc]); exact absurd rfl this
    subst hxy
    obtain ⟨e, hx⟩ := cmpL_eq (h.1 (by simp [bool01]))
    exact ⟨by rw [e], hx⟩
  | [], _ :: _, h => h.elim
  | _ :: _, [], h => h.elim

/-- two trees that answer alike -/
theorem alike {cx : Cx} {A B : T SV} {X : Prop} {ρ : Env} (hρ : EnvOk cx ρ) (hA : T.tidyV cx [] A = true) (hB : T.tidyV cx [] B = true)
    (h : A.holdsL cx (fun la => B.holdsL cx (fun lb => cmpL X la lb) ρ) ρ) : A.outs ρ = B.outs ρ ∧ X :=
  cmpL_eq (holdsL_ok (R := fun lb => cmpL X (A.outs ρ) lb) hρ (fun p hp => by cases hp) hB (holdsL_ok (R := fun la => B.holdsL cx (fun lb => cmpL X la lb) ρ) hρ (fun p hp => by cases hp) hA h))

/-! ### functions told by symbols -/

def symsE (n : Nat) : Nat → E → E → List SV
  | 0, _, _ => []
  | k + 1, x, y => .int .i32 (.f n x y (.c 0)) :: symsE (n + 1) k x y
/-- one argument, or two, of 32 bits: the answers are the symbols n, n + 1 .. -/
def gSym (cx : Cx) (one : Bool) (n k : Nat) (two : Bool) : List SV → Option SV
  | [.int .i32 x] => if !two && ivIn (x.iv cx) (-2147483648) 2147483647 then some (if one then .int .i32 (.f n x (.c 0) (.c 0)) else .tup (symsE n k x (.c 0))) else none
  | [.int .i32 x, .int .i32 y] => if two && ivIn (x.iv cx) (-2147483648) 2147483647 && ivIn (y.iv cx) (-2147483648) 2147483647 then some (if one then .int .i32 (.f n x y (.c 0)) else .tup (symsE n k x y)) else none
  | _ => none
theorem syms_den {ρ : Env} {β : Nat → Nat × Nat} {x y : E} : ∀ (k n : Nat), SV.denL ρ β (symsE n k x y) = (List.range k).map fun j => Value.int .i32 (ρ.f (n + j) (x.ev ρ) (y.ev ρ) 0)
  | 0, n => rfl
  | k + 1, n => by
    simp only [symsE, SV.denL, syms_den k (n + 1), List.range_succ_eq_map, List.map_cons, List.map_map, SV.den, E.ev, Nat.add_zero]
    congr 1
    refine List.map_congr_left fun j _ => ?_
    simp only [Function.comp_apply, Nat.succ_eq_add_one]
    rw [show n + 1 + j = n + (j + 1) by omega]

theorem gSym_ok {cx : Cx} {one two : Bool} {n k : Nat} {f : FuncId} {g : Int → Int → List Int} (hl : ∀ x y, (g x y).length = k) (hk : one = true → k = 1) (hF : ∀ j x y, j < k → cx.F (n + j) x y 0 = (g x y).getD j 0)
    (h1 : two = false → ∀ (x : Int) (w : World), -2147483648 ≤ x → x ≤ 2147483647 → Calls cx.P f #[.int .i32 x] w fun e w' => e = .returned (mkV one (g x 0)) ∧ Below w.heap.size w w')
    (h2 : two = true → ∀ (x y : Int) (w : World), -2147483648 ≤ x → x ≤ 2147483647 → -2147483648 ≤ y → y ≤ 2147483647 → Calls cx.P f #[.int .i32 x, .int .i32 y] w fun e w' => e = .returned (mkV one (g x y)) ∧ Below w.heap.size w w')
    (ρ : Env) (β : Nat → Nat × Nat) (w : World) (args : List SV) (v : SV) (hρ : EnvOk cx ρ) (hg : gSym cx one n k two args = some v) :
    Calls cx.P f (SV.denL ρ β args).toArray w fun e w' => e = .returned (v.den ρ β) ∧ Below w.heap.size w w' := by
  have key : ∀ (x y : E), (if one then SV.int .i32 (.f n x y (.c 0)) else .tup (symsE n k x y)).den ρ β = mkV one (g (x.ev ρ) (y.ev ρ)) := by
    intro x y
    cases one with
    | true =>
      have := hF 0 (x.ev ρ) (y.ev ρ) (by rw [hk rfl]; omega)
      simp only [Nat.add_zero] at this
      simp only [if_true, SV.den, E.ev, hρ.hF, this, mkV]
    | false =>
      simp only [Bool.false_eq_true, if_false, SV.den, syms_den, mkV, hρ.hF]
      congr 2
      apply List.ext_getElem?
      intro i
      rcases Nat.lt_or_ge i k with h | h
      · have hlt : i < (g (x.ev ρ) (y.ev ρ)).length := by rw [hl]; exact h
        rw [List.getElem?_map, List.getElem?_range h, List.getElem?_map, List.getElem?_eq_getElem hlt, Option.map_some, Option.map_some, hF i _ _ h, List.getD_eq_getElem?_getD, List.getElem?_eq_getElem hlt]
        rfl
      · rw [List.getElem?_eq_none (by simpa using h), List.getElem?_eq_none (by simp [hl]; exact h)]
  unfold gSym at hg
  split at hg
  · rename_i x
    split at hg
    · rename_i hc
      simp only [Bool.and_eq_true, Bool.not_eq_true'] at hc
      obtain ⟨a, b⟩ := ivIn_ok hc.2 (E.iv_ok hρ x)
      cases hg
      refine (h1 hc.1 (x.ev ρ) w a b).mono ?_
      rintro e w' ⟨rfl, hb⟩
      exact ⟨by rw [key x (.c 0)]; rfl, hb⟩
    · cases hg
  · rename_i x y
    split at hg
    · rename_i hc
      simp only [Bool.and_eq_true] at hc
      obtain ⟨a, b⟩ := ivIn_ok hc.1.2 (E.iv_ok hρ x)
      obtain ⟨c, d⟩ := ivIn_ok hc.2 (E.iv_ok hρ y)
      cases hg
      refine (h2 hc.1.1 (x.ev ρ) (y.ev ρ) w a b c d).mono ?_
      rintro e w' ⟨rfl, hb⟩
      exact ⟨by rw [key x y], hb⟩
    · cases hg
  · cases hg

/-- a function of nothing that answers true -/
def gTrue : List SV → Option SV
  | [] => some (.bool (.c 1))
  | _ => none
theorem gTrue_ok {cx : Cx} {f : FuncId} (h : ∀ w : World, Calls cx.P f #[] w fun e w' => e = .returned (.bool true) ∧ Below w.heap.size w w')
    (ρ : Env) (β : Nat → Nat × Nat) (w : World) (args : List SV) (v : SV) (hρ : EnvOk cx ρ) (hg : gTrue args = some v) :
    Calls cx.P f (SV.denL ρ β args).toArray w fun e w' => e = .returned (v.den ρ β) ∧ Below w.heap.size w w' := by
  unfold gTrue at hg
  split at hg <;> cases hg
  exact h w

end Go.Eng
