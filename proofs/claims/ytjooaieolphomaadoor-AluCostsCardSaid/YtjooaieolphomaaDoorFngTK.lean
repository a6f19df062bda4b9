/-
  A symbolic executor, part TK: what comes in: numbers, rows, tables.
-/
import Derived.Test.YtjooaieolphomaaDoorFngTJ
import Derived.Lib.LaidTab
set_option linter.unusedVariables false
set_option linter.unusedSimpArgs false
set_option linter.unusedSectionVars false
namespace Go.Eng
open Go.RowKit

def ptr0 : Value := .pointer (some ⟨0, 0, none⟩)
def roNone : RO := ⟨none, 0, [], 0, 0⟩
/-- the arguments as an environment -/
noncomputable def envR (l : List Int) (ro : List RO) : Env := ⟨fun i => l.getD i 0, fN, fun _ => ptr0, fun k => ro.getD k roNone⟩

def InOne (ρ : Env) (d : InD) (r : RO) : Prop :=
  r.cks = d.cks ∧ r.c = d.c.ev ρ ∧ r.n = (d.n.ev ρ).toNat ∧ r.cap = (d.cap.ev ρ).toNat ∧ (r.a = none → r.n = 0) ∧ ∀ g, d.g = some g → r.a = some ⟨g, 0, none⟩
def InOk (ρ : Env) : List InD → List RO → Prop
  | [], _ => True
  | d :: l, r :: m => InOne ρ d r ∧ InOk ρ l m
  | _ :: _, [] => False
theorem InOk.get {ρ : Env} : ∀ {l : List InD} {m : List RO}, InOk ρ l m → ∀ k d, l[k]? = some d → InOne ρ d (m.getD k roNone)
  | d :: l, r :: m, h, 0, d', hd => by cases hd; exact h.1
  | d :: l, r :: m, h, k + 1, d', hd => by
    have := h.2.get k d' (by simpa using hd)
    simpa using this
  | [], _, _, k, d, hd => by simp at hd
  | _ :: _, [], h, _, _, _ => h.elim

abbrev Bnd (g : List (Int × Int)) (l : List Int) : Prop := ∀ i p, g[i]? = some p → p.1 ≤ l.getD i 0 ∧ l.getD i 0 ≤ p.2
theorem bnd_nil (l : List Int) : Bnd [] l := fun i p h => by simp at h
theorem bnd_cons {p : Int × Int} {g : List (Int × Int)} {x : Int} {l : List Int} (h : p.1 ≤ x ∧ x ≤ p.2) (ht : Bnd g l) : Bnd (p :: g) (x :: l)
  | 0, q, hq => by cases hq; exact h
  | i + 1, q, hq => by simpa using ht i q (by simpa using hq)

theorem envR_ok {cx : Cx} (hF : cx.F = fN) (hΦ : cx.Φ = phiN) {l : List Int} {ro : List RO} (h : Bnd cx.Γ l) (hi : InOk (envR l ro) cx.ins ro) : EnvOk cx (envR l ro) :=
  ⟨h, fun n p x y z h => phiN_ok n p x y z (by rw [← hΦ]; exact h), fun _ => ⟨_, rfl⟩, hF.symm, fun k d hd => hi.get k d hd⟩

/-- where a row lies -/
def RoAt (w : World) (r : RO) : Prop := ∀ a i x, r.a = some a → (rowV r.cks r.c r.n)[i]? = some x → w.cell? (a.add i) = some x
def RoAll (w : World) : List RO → Prop
  | [] => True
  | r :: l => RoAt w r ∧ RoAll w l
theorem RoAll.get {w : World} : ∀ {l : List RO}, RoAll w l → ∀ k, RoAt w (l.getD k roNone)
  | [], _, k => fun a i x ha => by simp [roNone] at ha
  | r :: l, h, 0 => h.1
  | r :: l, h, k + 1 => by have := h.2.get k; simpa using this
theorem roOk_of {w : World} {l : List Int} {ro : List RO} (h : RoAll w ro) : RoOk (envR l ro) b0 ⟨[], []⟩ w :=
  fun k a i x e1 e2 => ⟨h.get k a i x e1 e2, fun _ hj => absurd hj live_nil⟩

/-! ### tables of numbers -/

theorem rdZ_LZ (l : List Int) (i : Int) : rdZ (LZ l) i = l.getD i.toNat 0 := by unfold rdZ; rw [ZL_LZ]

theorem rowV_ints {k : IntKind} : ∀ (zs : List Int), (∀ z ∈ zs, k.wrap z = z) → rowV [.int k] (LZ zs) zs.length = zs.map (Value.int k) := by
  intro zs h
  apply List.ext_getElem?
  intro i
  rcases Nat.lt_or_ge i zs.length with hi | hi
  · have h1 := rowV_get [.int k] (LZ zs) (n := zs.length) (k := i) (r := 0) hi (by simp)
    simp only [List.length_singleton, Nat.mul_one, Nat.add_zero] at h1
    rw [h1, List.getElem?_map, List.getElem?_eq_getElem hi, rdZ_LZ, Int.toNat_natCast, List.getD_eq_getElem?_getD, List.getElem?_eq_getElem hi]
    have := h zs[i] (List.getElem_mem hi)
    simp [elemV, ckV, this]
  · rw [List.getElem?_eq_none (by rw [rowV_len]; simpa using hi), List.getElem?_eq_none (by simpa using hi)]

/-- a table of numbers that is laid, as a row that came in -/
def tabRo (g : Nat) (k : IntKind) (zs : List Int) : RO := ⟨some ⟨g, 0, none⟩, zs.length, [.int k], LZ zs, zs.length⟩
theorem tabRo_at {P : Program} {W : World} {name : String} {k : IntKind} {zs : List Int} {g : Nat} (h : Lib.TabIs P W name k zs) (hg : P.globalNamed name = some g) (hz : ∀ z ∈ zs, k.wrap z = z) : RoAt W (tabRo g k zs) := by
  intro a i x ha hx
  cases ha
  have hx' : (rowV [.int k] (LZ zs) zs.length)[i]? = some x := hx
  rw [rowV_ints zs hz] at hx'
  have hi : i < zs.length := by
    rcases Nat.lt_or_ge i zs.length with h | h
    · exact h
    · rw [List.getElem?_eq_none (by simpa using h)] at hx'; cases hx'
  have hc := h.cell hg i hi
  rw [List.getElem?_map, List.getElem?_eq_getElem hi] at hx'
  rw [List.getD_eq_getElem?_getD, List.getElem?_eq_getElem hi] at hc
  cases hx'
  have e : (⟨g, 0, none⟩ : Addr).add i = ⟨g, i, none⟩ := by
    unfold Addr.add
    split
    · rename_i h0; have : i = 0 := by simpa using h0
      subst this; rfl
    · simp
  rw [e]
  simpa using hc

end Go.Eng
