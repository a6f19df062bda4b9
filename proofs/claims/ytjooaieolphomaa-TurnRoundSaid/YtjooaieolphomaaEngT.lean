/-
  A symbolic executor, part T: a tree of truths as a plain statement, its names as bounded variables.
-/
import Derived.Test.YtjooaieolphomaaEngS
set_option linter.unusedVariables false
set_option linter.unusedSimpArgs false
namespace Go.Eng
open Go.RowKit

/-- the same without clamps -/
def E.evP (ρ : Env) : E → Int
  | .c n => n
  | .v i => ρ.i i
  | .b o k x y => o.ev k (x.evP ρ) (y.evP ρ)
  | .w k x => k.wrap (x.evP ρ)
  | .nt x => bool01 (x.evP ρ == 0)
  | .ite t x y => if t.evP ρ ≠ 0 then x.evP ρ else y.evP ρ
  | .f n x y z => ρ.f n (x.evP ρ) (y.evP ρ) (z.evP ρ)
  | .cl i _ _ => ρ.i i

abbrev NB := List (Nat × Int × Int)
def lookB : NB → Nat → Int → Int → Bool
  | [], _, _, _ => false
  | (i, l, h) :: m, j, l', h' => match Nat.beq i j with
    | true => decide (l' ≤ l) && decide (h ≤ h')
    | false => lookB m j l' h'

/-- each name stands with the bounds that it was given -/
def E.tidy (nb : NB) : E → Bool
  | .c _ => true
  | .v _ => true
  | .b _ _ x y => x.tidy nb && y.tidy nb
  | .w _ x => x.tidy nb
  | .nt x => x.tidy nb
  | .ite t x y => t.tidy nb && x.tidy nb && y.tidy nb
  | .f _ x y z => x.tidy nb && y.tidy nb && z.tidy nb
  | .cl i l h => lookB nb i l h

def nbOk (ρ : Env) (nb : NB) : Prop := ∀ p ∈ nb, p.2.1 ≤ ρ.i p.1 ∧ ρ.i p.1 ≤ p.2.2

theorem lookB_ok {ρ : Env} {i : Nat} {l h : Int} : ∀ {nb : NB}, nbOk ρ nb → lookB nb i l h = true → l ≤ ρ.i i ∧ ρ.i i ≤ h
  | [], _, hl => by cases hl
  | (j, a, b) :: m, hn, hl => by
    simp only [lookB] at hl
    split at hl
    · rename_i hj
      have := Nat.eq_of_beq_eq_true hj
      subst this
      have := hn (j, a, b) List.mem_cons_self
      simp at hl this
      omega
    · exact lookB_ok (fun p hp => hn p (List.mem_cons_of_mem _ hp)) hl

theorem E.evP_ev {ρ : Env} {nb : NB} (hn : nbOk ρ nb) : ∀ (e : E), e.tidy nb = true → e.evP ρ = e.ev ρ := by
  intro e
  induction e with
  | c m => intro _; rfl
  | v i => intro _; rfl
  | b o k x y hx hy => intro h; simp only [E.tidy, Bool.and_eq_true] at h; simp only [E.ev, E.evP, hx h.1, hy h.2]
  | w k x hx => intro h; simp only [E.ev, E.evP, hx h]
  | nt x hx => intro h; simp only [E.ev, E.evP, hx h]
  | ite t x y ht hx hy => intro h; simp only [E.tidy, Bool.and_eq_true] at h; simp only [E.ev, E.evP, ht h.1.1, hx h.1.2, hy h.2]
  | f m x y z hx hy hz => intro h; simp only [E.tidy, Bool.and_eq_true] at h; simp only [E.ev, E.evP, hx h.1.1, hy h.1.2, hz h.2]
  | cl i l h => intro ht; obtain ⟨a, b⟩ := lookB_ok hn ht; simp only [E.ev, E.evP, clampZ_in a b]

/-- a tree of truths, plainly -/
def T.holdsP (cx : Cx) (ρ : Env) : T E → Prop
  | .leaf a => a.evP ρ ≠ 0
  | .br e t f => (e.evP ρ ≠ 0 → T.holdsP cx ρ t) ∧ (e.evP ρ = 0 → T.holdsP cx ρ f)
  | .bad _ => False
  | .new i e t => ∀ y : Int, y = e.evP ρ → inIv y (e.iv cx) → T.holdsP cx (ρ.set i y) t

def T.tidy (cx : Cx) : NB → T E → Bool
  | nb, .leaf a => a.tidy nb
  | nb, .br e t f => e.tidy nb && T.tidy cx nb t && T.tidy cx nb f
  | _, .bad _ => true
  | nb, .new i e t => e.tidy nb && nb.all (fun p => !Nat.beq p.1 i) && Nat.ble cx.Γ.length i && (match e.iv cx with
    | some p => T.tidy cx ((i, p.1, p.2) :: nb) t
    | none => T.tidy cx nb t)

theorem holdsP_ok {cx : Cx} : ∀ {t : T E} {nb : NB} {ρ : Env}, EnvOk cx ρ → nbOk ρ nb → T.tidy cx nb t = true → T.holdsP cx ρ t → T.holds ρ t
  | .leaf a, nb, ρ, hρ, hn, ht, h => by
    simp only [T.tidy] at ht
    simp only [T.holdsP, E.evP_ev hn a ht] at h
    exact h
  | .br e t f, nb, ρ, hρ, hn, ht, h => by
    simp only [T.tidy, Bool.and_eq_true] at ht
    simp only [T.holdsP, E.evP_ev hn e ht.1.1] at h
    exact ⟨fun hc => holdsP_ok hρ hn ht.1.2 (h.1 hc), fun hc => holdsP_ok hρ hn ht.2 (h.2 hc)⟩
  | .bad _, nb, ρ, hρ, hn, ht, h => h
  | .new i e t, nb, ρ, hρ, hn, ht, h => by
    simp only [T.tidy, Bool.and_eq_true] at ht
    obtain ⟨⟨⟨h1, h2⟩, h3⟩, h4⟩ := ht
    simp only [T.holdsP, E.evP_ev hn e h1] at h
    intro y hy
    have hiv : inIv y (e.iv cx) := by rw [hy]; exact E.iv_ok hρ e
    have hρ' : EnvOk cx (ρ.set i y) := by
      refine ⟨fun j p hp => ?_, hρ.hf, hρ.hv, hρ.hF⟩
      have hj := (List.getElem?_eq_some_iff.1 hp).1
      have hl := Nat.le_of_ble_eq_true h3
      simp only [Env.set]
      rw [if_neg (by omega)]
      exact hρ.hi j p hp
    have hn' : nbOk (ρ.set i y) nb := by
      intro p hp
      have := List.all_eq_true.1 h2 p hp
      have hne : p.1 ≠ i := by
        intro he
        rw [he, Nat.beq_refl] at this
        cases this
      simp only [Env.set]
      rw [if_neg hne]
      exact hn p hp
    have hh := h y hy hiv
    split at h4
    · rename_i p hp
      rw [hp] at hiv
      refine holdsP_ok hρ' (nb := (i, p.1, p.2) :: nb) (fun q hq => ?_) h4 hh
      rcases List.mem_cons.1 hq with rfl | hq
      · simp [Env.set]; exact hiv
      · exact hn' q hq
    · exact holdsP_ok hρ' hn' h4 hh

theorem truthP_of {cx : Cx} {cf : CF} (hcf : CallOk cx cf) {ρ : Env} (hρ : EnvOk cx ρ) {f : FuncId} {args : List SV} {t : T E} (ht : T.beq (projB (cf f args ⟨[], []⟩)) t = true)
    (hfine : (Nat.ble cx.Γ.length 1000 && T.fine 1000 t && SV.vbL 1000 args && T.tidy cx [] t) = true) (hh : T.holdsP cx ρ t)
    {vs : Array Value} (hv : vs = (SV.denL ρ (fun _ => (0, 0)) args).toArray) (w : World) :
    Calls cx.P f vs w fun e w' => e = .returned (.bool true) ∧ Below w.heap.size w w' := by
  simp only [Bool.and_eq_true] at hfine
  exact truth_of hcf hρ ht (holdsP_ok hρ (fun p hp => by cases hp) hfine.2 hh) (by simp only [Bool.and_eq_true]; exact hfine.1) hv w

theorem list3 : ∀ {l : List Int}, l.length = 3 → ∃ a b c, l = [a, b, c]
  | [a, b, c], _ => ⟨a, b, c, rfl⟩
theorem list4 : ∀ {l : List Int}, l.length = 4 → ∃ a b c d, l = [a, b, c, d]
  | [a, b, c, d], _ => ⟨a, b, c, d, rfl⟩

/-! ### words for the plain statement -/
def sat32 (m : Int) : Int := BO.ev .min .i64 (BO.ev .max .i64 m (-2147483648)) 2147483647
def band (k : IntKind) (x y : Int) : Int := BO.ev .and k x y
def bor (k : IntKind) (x y : Int) : Int := BO.ev .or k x y
def bxor (k : IntKind) (x y : Int) : Int := BO.ev .xor k x y
def bandn (k : IntKind) (x y : Int) : Int := BO.ev .andNot k x y
def shlZ (k : IntKind) (x y : Int) : Int := BO.ev .shl k x y
def shrZ (k : IntKind) (x y : Int) : Int := BO.ev .shr k x y
def minZ (x y : Int) : Int := if y < x then y else x
def iteZ (t x y : Int) : Int := if t ≠ 0 then x else y
def maxZ (x y : Int) : Int := if y > x then y else x

end Go.Eng
