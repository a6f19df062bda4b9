/-
  Turning by exact small steps, in rational numbers: how near the turning by steps comes to the true angle, and to the true sine and cosine. Plain Lean, no program.
-/
/-! Turning by exact small steps, in rational numbers: powers of one turn, near to Taylor's polynomials. No program. -/
section
namespace Go.Tr

theorem le_of_sq {x y : Rat} (hy : 0 ≤ y) (h : x * x ≤ y * y) : x ≤ y := by
  rcases Rat.le_total (a := x) (b := y) with h1 | h1
  · exact h1
  · have h2 : y * y ≤ x * y := Rat.mul_le_mul_of_nonneg_right h1 hy
    have h3 : x * y ≤ x * x := Rat.mul_le_mul_of_nonneg_left h1 (Rat.le_trans hy h1)
    by_cases hxy : x = y
    · rw [hxy]; exact Rat.le_refl
    · exfalso
      have h4 : y < x := by grind
      have h5 : 0 < x := by grind
      have : y * x < x * x := Rat.mul_lt_mul_of_pos_right h4 h5
      grind
theorem sq_nn (x : Rat) : 0 ≤ x * x := by
  rcases Rat.le_total (a := x) (b := 0) with h | h
  · have := Rat.mul_nonneg (a := -x) (b := -x) (by grind) (by grind)
    grind
  · exact Rat.mul_nonneg h h
theorem mul_le {a b c d : Rat} (h1 : a ≤ b) (h2 : c ≤ d) (ha : 0 ≤ a) (hd : 0 ≤ d) : a * c ≤ b * d := by
  have h3 : a * c ≤ a * d := Rat.mul_le_mul_of_nonneg_left h2 ha
  have h4 : a * d ≤ b * d := Rat.mul_le_mul_of_nonneg_right h1 hd
  exact Rat.le_trans h3 h4

theorem div_le' {a b c : Rat} (hc : 0 < c) (h : a ≤ b * c) : a / c ≤ b := by
  have hi : 0 ≤ c⁻¹ := Rat.le_of_lt (Rat.inv_pos.mpr hc)
  have := Rat.mul_le_mul_of_nonneg_right h hi
  have e : b * c * c⁻¹ = b := by grind
  grind
theorem le_div' {a b c : Rat} (hc : 0 < c) (h : b * c ≤ a) : b ≤ a / c := by
  have hi : 0 ≤ c⁻¹ := Rat.le_of_lt (Rat.inv_pos.mpr hc)
  have := Rat.mul_le_mul_of_nonneg_right h hi
  have e : b * c * c⁻¹ = b := by grind
  grind

/-- a number of two parts -/
structure Cx where
  re : Rat
  im : Rat
namespace Cx
def mul (a b : Cx) : Cx := ⟨a.re * b.re - a.im * b.im, a.re * b.im + a.im * b.re⟩
def add (a b : Cx) : Cx := ⟨a.re + b.re, a.im + b.im⟩
def sub (a b : Cx) : Cx := ⟨a.re - b.re, a.im - b.im⟩
def conj (a : Cx) : Cx := ⟨a.re, -a.im⟩
def one : Cx := ⟨1, 0⟩
def sc (r : Rat) (a : Cx) : Cx := ⟨r * a.re, r * a.im⟩
theorem ext' {a b : Cx} (h1 : a.re = b.re) (h2 : a.im = b.im) : a = b := by cases a; cases b; simp_all
instance : Mul Cx := ⟨mul⟩
instance : Add Cx := ⟨add⟩
instance : Sub Cx := ⟨sub⟩
theorem mul_re (a b : Cx) : (a * b).re = a.re * b.re - a.im * b.im := rfl
theorem mul_im (a b : Cx) : (a * b).im = a.re * b.im + a.im * b.re := rfl
theorem add_re (a b : Cx) : (a + b).re = a.re + b.re := rfl
theorem add_im (a b : Cx) : (a + b).im = a.im + b.im := rfl
theorem sub_re (a b : Cx) : (a - b).re = a.re - b.re := rfl
theorem sub_im (a b : Cx) : (a - b).im = a.im - b.im := rfl
theorem conj_re (a : Cx) : a.conj.re = a.re := rfl
theorem conj_im (a : Cx) : a.conj.im = -a.im := rfl
theorem sc_re (r : Rat) (a : Cx) : (sc r a).re = r * a.re := rfl
theorem sc_im (r : Rat) (a : Cx) : (sc r a).im = r * a.im := rfl
theorem one_re : one.re = 1 := rfl
theorem one_im : one.im = 0 := rfl
end Cx
open Cx

/-- equal by its parts -/
theorem cx_eq {a b : Cx} (h : a.re = b.re ∧ a.im = b.im) : a = b := Cx.ext' h.1 h.2
theorem mul_assoc' (a b c : Cx) : a * b * c = a * (b * c) := cx_eq (by simp only [mul_re, mul_im]; constructor <;> grind)
theorem mul_comm' (a b : Cx) : a * b = b * a := cx_eq (by simp only [mul_re, mul_im]; constructor <;> grind)
theorem mul_one' (a : Cx) : a * one = a := cx_eq (by simp only [mul_re, mul_im, one_re, one_im]; constructor <;> grind)
theorem one_mul' (a : Cx) : one * a = a := cx_eq (by simp only [mul_re, mul_im, one_re, one_im]; constructor <;> grind)
theorem conj_mul (a b : Cx) : (a * b).conj = a.conj * b.conj := cx_eq (by simp only [mul_re, mul_im, conj_re, conj_im]; constructor <;> grind)

def nr (a : Cx) : Rat := a.re * a.re + a.im * a.im
theorem nr_nn (a : Cx) : 0 ≤ nr a := by have := sq_nn a.re; have := sq_nn a.im; unfold nr; grind
theorem nr_mul (a b : Cx) : nr (a * b) = nr a * nr b := by unfold nr; simp only [mul_re, mul_im]; grind
theorem nr_conj (a : Cx) : nr a.conj = nr a := by unfold nr; simp only [conj_re, conj_im]; grind

/-- no longer than -/
def Bd (z : Cx) (A : Rat) : Prop := 0 ≤ A ∧ nr z ≤ A * A
theorem Bd.mono {z : Cx} {A B : Rat} (h : Bd z A) (hB : A ≤ B) : Bd z B :=
  ⟨by have := h.1; grind, Rat.le_trans h.2 (mul_le hB hB h.1 (by have := h.1; grind))⟩
theorem Bd.mul {a b : Cx} {A B : Rat} (h : Bd a A) (k : Bd b B) : Bd (a * b) (A * B) := by
  refine ⟨Rat.mul_nonneg h.1 k.1, ?_⟩
  rw [nr_mul]
  have := mul_le h.2 k.2 (nr_nn a) (Rat.mul_nonneg k.1 k.1)
  grind
theorem Bd.add {a b : Cx} {A B : Rat} (h : Bd a A) (k : Bd b B) : Bd (a + b) (A + B) := by
  refine ⟨by have := h.1; have := k.1; grind, ?_⟩
  have hx : (a.re * b.re + a.im * b.im) ≤ A * B := by
    refine le_of_sq (Rat.mul_nonneg h.1 k.1) ?_
    have h1 := mul_le h.2 k.2 (nr_nn a) (Rat.mul_nonneg k.1 k.1)
    have h2 : (a.re * b.re + a.im * b.im) * (a.re * b.re + a.im * b.im) + (a.re * b.im - a.im * b.re) * (a.re * b.im - a.im * b.re) = nr a * nr b := by unfold nr; grind
    have h3 := sq_nn (a.re * b.im - a.im * b.re)
    grind
  have e : nr (a + b) = nr a + nr b + 2 * (a.re * b.re + a.im * b.im) := by unfold nr; simp only [add_re, add_im]; grind
  rw [e]
  have := h.2; have := k.2
  grind
theorem Bd.re {z : Cx} {A : Rat} (h : Bd z A) : -A ≤ z.re ∧ z.re ≤ A := by
  have h2 := h.2
  have := sq_nn z.im
  unfold nr at h2
  have a1 : z.re ≤ A := le_of_sq h.1 (by grind)
  have a2 : -z.re ≤ A := le_of_sq h.1 (by grind)
  grind
theorem Bd.im {z : Cx} {A : Rat} (h : Bd z A) : -A ≤ z.im ∧ z.im ≤ A := by
  have h2 := h.2
  have := sq_nn z.re
  unfold nr at h2
  have a1 : z.im ≤ A := le_of_sq h.1 (by grind)
  have a2 : -z.im ≤ A := le_of_sq h.1 (by grind)
  grind
theorem sq_le_of {x p : Rat} (h1 : -p ≤ x) (h2 : x ≤ p) : x * x ≤ p * p := by
  have := Rat.mul_nonneg (a := p - x) (b := p + x) (by grind) (by grind)
  grind
/-- by the parts' bounds -/
theorem Bd.of {z : Cx} {p q A : Rat} (hA : 0 ≤ A) (h1 : -p ≤ z.re ∧ z.re ≤ p) (h2 : -q ≤ z.im ∧ z.im ≤ q) (h : p * p + q * q ≤ A * A) : Bd z A := by
  refine ⟨hA, ?_⟩
  have := sq_le_of h1.1 h1.2
  have := sq_le_of h2.1 h2.2
  unfold nr; grind
theorem Bd.conj {z : Cx} {A : Rat} (h : Bd z A) : Bd z.conj A := ⟨h.1, by rw [nr_conj]; exact h.2⟩
theorem Bd.neg {z : Cx} {A : Rat} (h : Bd z A) : Bd (sc (-1) z) A := ⟨h.1, by have := h.2; unfold nr at *; simp only [sc_re, sc_im]; grind⟩
theorem Bd.sc {z : Cx} {A r : Rat} (h : Bd z A) (hr : 0 ≤ r) : Bd (Cx.sc r z) (r * A) := by
  refine ⟨Rat.mul_nonneg hr h.1, ?_⟩
  have : nr (Cx.sc r z) = r * r * nr z := by unfold nr; simp only [sc_re, sc_im]; grind
  rw [this]
  have := Rat.mul_le_mul_of_nonneg_left h.2 (Rat.mul_nonneg hr hr)
  grind
theorem bd_one {z : Cx} (h : nr z = 1) : Bd z 1 := ⟨by grind, by rw [h]; grind⟩

/-! ### the powers of a small turn -/

def w : Cx := ⟨((2:Rat)^60 - 1) / (2^60 + 1), 2^31 / (2^60 + 1)⟩
theorem nr_w : nr w = 1 := by unfold nr w; decide +kernel
def W : Nat → Cx
  | 0 => one
  | n + 1 => w * W n
theorem nr_W : ∀ n, nr (W n) = 1
  | 0 => by unfold nr W one; decide +kernel
  | n + 1 => by rw [W, nr_mul, nr_w, nr_W n]; decide +kernel
def WZ (n : Int) : Cx := if 0 ≤ n then W n.toNat else (W (-n).toNat).conj
theorem WZ_nat (n : Nat) : WZ n = W n := by unfold WZ; simp
theorem nr_WZ (n : Int) : nr (WZ n) = 1 := by unfold WZ; split <;> simp [nr_conj, nr_W]
theorem w_conj (z : Cx) : w.conj * (w * z) = z := by
  have h := nr_w
  unfold nr at h
  apply cx_eq
  simp only [mul_re, mul_im, conj_re, conj_im]
  generalize w.re = a at *
  generalize w.im = b at *
  constructor <;> grind
theorem w_conj' (z : Cx) : w * (w.conj * z) = z := by rw [← mul_assoc', mul_comm' w, mul_assoc', w_conj]
theorem WZ_succ (n : Int) : WZ (n + 1) = w * WZ n := by
  unfold WZ
  by_cases h : 0 ≤ n
  · rw [if_pos (by omega), if_pos h, show (n + 1).toNat = n.toNat + 1 by omega, W]
  · by_cases h1 : n = -1
    · subst h1
      show W 0 = w * (W 1).conj
      rw [W, W, W, conj_mul, w_conj']; rfl
    · rw [if_neg (by omega), if_neg h, show (-n).toNat = (-(n + 1)).toNat + 1 by omega, W, conj_mul, w_conj']
theorem WZ_pred (n : Int) : WZ (n - 1) = w.conj * WZ n := by
  have := WZ_succ (n - 1)
  rw [show n - 1 + 1 = n by omega] at this
  rw [this, w_conj]
theorem WZ_zero : WZ 0 = one := rfl
theorem WZ_add_nat (a : Int) : ∀ k : Nat, WZ (a + k) = WZ a * WZ k
  | 0 => by rw [show a + ((0 : Nat) : Int) = a by omega, show ((0 : Nat) : Int) = 0 from rfl, WZ_zero, mul_one']
  | k + 1 => by
    rw [show a + ((k + 1 : Nat) : Int) = (a + k) + 1 by omega, WZ_succ, WZ_add_nat a k, show ((k + 1 : Nat) : Int) = k + 1 by omega, WZ_succ, ← mul_assoc', mul_comm' w, mul_assoc']
theorem WZ_neg (a : Int) : WZ (-a) = (WZ a).conj := by
  unfold WZ
  by_cases h : a = 0
  · subst h; simp [W, one, conj]
  by_cases h1 : 0 ≤ a
  · rw [if_neg (by omega), if_pos h1, show (- -a) = a by omega]
  · rw [if_pos (by omega), if_neg h1]
    apply cx_eq; simp [conj_re, conj_im]
theorem unit_conj {z : Cx} (h : nr z = 1) : z * z.conj = one := by
  unfold nr at h
  apply cx_eq
  simp only [mul_re, mul_im, conj_re, conj_im, one_re, one_im]
  constructor <;> grind
theorem WZ_add_inv (b : Int) : one = WZ (-b) * WZ b := by rw [WZ_neg, mul_comm', unit_conj (nr_WZ b)]
theorem WZ_add (a b : Int) : WZ (a + b) = WZ a * WZ b := by
  by_cases h : 0 ≤ b
  · have := WZ_add_nat a b.toNat
    rwa [show ((b.toNat : Nat) : Int) = b by omega] at this
  · have := WZ_add_nat (a + b) (-b).toNat
    rw [show (((-b).toNat : Nat) : Int) = -b by omega, show a + b + -b = a by omega] at this
    rw [this, mul_assoc', ← WZ_add_inv b, mul_one']

/-! ### polynomials of whole numbers -/

def pev : List Int → Int → Int
  | [], _ => 0
  | a :: l, n => a + n * pev l n
def padd : List Int → List Int → List Int
  | [], l => l
  | l, [] => l
  | a :: l, b :: m => (a + b) :: padd l m
def psc (c : Int) (l : List Int) : List Int := l.map (c * ·)
def psh : List Int → List Int
  | [] => []
  | a :: l => padd [a] (padd (psh l) (0 :: psh l))
def pbd : List Int → Int → Int
  | [], _ => 0
  | a :: l, n => (a.natAbs : Int) + n * pbd l n
theorem pev_add : ∀ (l m : List Int) (n : Int), pev (padd l m) n = pev l n + pev m n
  | [], m, n => by simp [padd, pev]
  | a :: l, [], n => by simp [padd, pev]
  | a :: l, b :: m, n => by simp only [padd, pev, pev_add l m n]; grind
theorem pev_sc (c : Int) : ∀ (l : List Int) (n : Int), pev (psc c l) n = c * pev l n
  | [], n => by simp [psc, pev]
  | a :: l, n => by have := pev_sc c l n; unfold psc at *; simp only [List.map_cons, pev, this]; grind
theorem pev_sh : ∀ (l : List Int) (n : Int), pev (psh l) n = pev l (n + 1)
  | [], n => rfl
  | a :: l, n => by simp only [psh, pev_add, pev, pev_sh l n]; grind
theorem pev_bd {N n : Int} (h0 : 0 ≤ n) (h1 : n ≤ N) : ∀ (l : List Int), 0 ≤ pbd l N ∧ -pbd l N ≤ pev l n ∧ pev l n ≤ pbd l N
  | [] => by simp [pev, pbd]
  | a :: l => by
    obtain ⟨p0, p1, p2⟩ := pev_bd h0 h1 l
    have hn : 0 ≤ N * pbd l N := Int.mul_nonneg (by omega) p0
    have a1 : n * pev l n ≤ n * pbd l N := Int.mul_le_mul_of_nonneg_left p2 h0
    have a2 : n * pbd l N ≤ N * pbd l N := Int.mul_le_mul_of_nonneg_right h1 p0
    have a3 : n * (-pbd l N) ≤ n * pev l n := Int.mul_le_mul_of_nonneg_left p1 h0
    rw [Int.mul_neg] at a3
    simp only [pev, pbd]
    omega
end Go.Tr
end

/-! Powers of one small turn lie near to Taylor's polynomials. No program. -/
section
namespace Go.Tr
open Cx

def fac : Nat → Nat
  | 0 => 1
  | n + 1 => (n + 1) * fac n
def cosL : List Int := (List.range 16).map fun k => if k % 2 = 0 then (-1) ^ (k / 2) * ((fac 15 / fac k : Nat) : Int) * 2 ^ (29 * (15 - k)) else 0
def sinL : List Int := (List.range 16).map fun k => if k % 2 = 1 then (-1) ^ (k / 2) * ((fac 15 / fac k : Nat) : Int) * 2 ^ (29 * (15 - k)) else 0
def den : Int := fac 15 * 2 ^ (29 * 15)
def dC : List Int := padd (psc (2 ^ 60 + 1) (psh cosL)) (padd (psc (-(2 ^ 60 - 1)) cosL) (psc (2 ^ 31) sinL))
def dS : List Int := padd (psc (2 ^ 60 + 1) (psh sinL)) (padd (psc (-(2 ^ 60 - 1)) sinL) (psc (-(2 ^ 31)) cosL))

theorem dC_bd : pbd dC (2 ^ 29) * 2 ^ 69 ≤ den * (2 ^ 60 + 1) := by decide +kernel
theorem dS_bd : pbd dS (2 ^ 29) * 2 ^ 69 ≤ den * (2 ^ 60 + 1) := by decide +kernel
theorem den_pos : (0 : Int) < den := by decide +kernel

def Pn (n : Int) : Cx := ⟨(pev cosL n : Rat) / (den : Rat), (pev sinL n : Rat) / (den : Rat)⟩

theorem Pn_step (n : Int) : w * Pn n = Pn (n + 1) + ⟨-((pev dC n : Int) : Rat) / ((den * (2 ^ 60 + 1) : Int) : Rat), -((pev dS n : Int) : Rat) / ((den * (2 ^ 60 + 1) : Int) : Rat)⟩ := by
  have hd : (den : Rat) ≠ 0 := by have := den_pos; have : den ≠ 0 := by omega
                                  simpa using this
  have hc : pev dC n = (2 ^ 60 + 1) * pev cosL (n + 1) - (2 ^ 60 - 1) * pev cosL n + 2 ^ 31 * pev sinL n := by
    unfold dC; simp only [pev_add, pev_sc, pev_sh]; grind
  have hs : pev dS n = (2 ^ 60 + 1) * pev sinL (n + 1) - (2 ^ 60 - 1) * pev sinL n - 2 ^ 31 * pev cosL n := by
    unfold dS; simp only [pev_add, pev_sc, pev_sh]; grind
  rw [hc, hs]
  unfold Pn w
  apply cx_eq
  simp only [mul_re, mul_im, add_re, add_im]
  generalize pev cosL n = a
  generalize pev sinL n = b
  generalize pev cosL (n + 1) = c
  generalize pev sinL (n + 1) = d
  generalize den = e at *
  push_cast
  constructor <;> grind

theorem cast_le {a b : Int} (h : a ≤ b) : (a : Rat) ≤ (b : Rat) := by exact_mod_cast h

theorem small_of {x N D : Int} (hD : 0 < D) (h1 : -N ≤ x) (h2 : x ≤ N) (h : N * 2 ^ 69 ≤ D) : -((1 : Rat) / 2 ^ 69) ≤ -(x : Rat) / (D : Rat) ∧ -(x : Rat) / (D : Rat) ≤ (1 : Rat) / 2 ^ 69 := by
  have hd : (0 : Rat) < D := by exact_mod_cast hD
  have h3 : x * 2 ^ 69 ≤ D := by omega
  have h4 : -D ≤ x * 2 ^ 69 := by omega
  have h3 := cast_le h3
  have h4 := cast_le h4
  push_cast at h3 h4
  have e : -(x : Rat) / D = -(x * 2 ^ 69 / D) / 2 ^ 69 := by grind
  have b1 : (x : Rat) * 2 ^ 69 / D ≤ 1 := by exact div_le' hd (by grind)
  have b2 : -1 ≤ (x : Rat) * 2 ^ 69 / D := by exact le_div' hd (by grind)
  rw [e]
  grind

theorem near_W : ∀ (n : Nat), n ≤ 2 ^ 29 → Bd (W n - Pn n) ((n : Rat) * (1 / 2 ^ 68))
  | 0, _ => by
    refine ⟨by grind, ?_⟩
    have : nr (W 0 - Pn (0 : Nat)) = 0 := by unfold nr W Pn one; decide +kernel
    rw [this]; grind
  | n + 1, h => by
    have ih := near_W n (by omega)
    have e : W (n + 1) - Pn ((n + 1 : Nat) : Int) = w * (W n - Pn n) + (w * Pn n - Pn ((n : Int) + 1)) := by
      rw [W, show ((n + 1 : Nat) : Int) = (n : Int) + 1 by omega]
      apply cx_eq; simp only [sub_re, sub_im, add_re, add_im, mul_re, mul_im]; constructor <;> grind
    rw [e]
    have h1 : Bd (w * (W n - Pn n)) (1 * ((n : Rat) * (1 / 2 ^ 68))) := (bd_one nr_w).mul ih
    have h2 : Bd (w * Pn n - Pn ((n : Int) + 1)) (1 / 2 ^ 68) := by
      rw [Pn_step]
      obtain ⟨_, c1, c2⟩ := pev_bd (N := 2 ^ 29) (n := n) (by omega) (by omega) dC
      obtain ⟨_, s1, s2⟩ := pev_bd (N := 2 ^ 29) (n := n) (by omega) (by omega) dS
      have hD : 0 < den * (2 ^ 60 + 1) := by have := den_pos; omega
      have b1 := small_of hD c1 c2 dC_bd
      have b2 := small_of hD s1 s2 dS_bd
      generalize ((den * (2 ^ 60 + 1) : Int) : Rat) = e at *
      refine Bd.of (p := 1 / 2 ^ 69) (q := 1 / 2 ^ 69) (by grind) ?_ ?_ (by grind)
      · simp only [add_re, sub_re]; grind
      · simp only [add_im, sub_im]; grind
    have := h1.add h2
    refine this.mono ?_
    push_cast
    grind
end Go.Tr
end

/-! The table of angles: each is near to a turn by 1 by 2^k; a step by it. No program. -/
section
namespace Go.Tr
open Cx
def Tl : List Int := [421657428, 248918915, 131521918, 66762579, 33510843, 16771758, 8387925, 4194219, 2097141, 1048575, 524288, 262144, 131072, 65536, 32768, 16384, 8192, 4096, 2048, 1024, 512, 256, 128, 64, 32, 16, 8, 4]
def rl : List Int := [796131459065721, 1007035491024315, 1092283350537699, 1117205568953915, 1123707305137924, 1125350553354519, 1125762493049857, 1125865548677040, 1125891317006334, 1125897759365119, 1125899369972095, 1125899772624919, 1125899873288193, 1125899898454016, 1125899904745472, 1125899906318336, 1125899906711552, 1125899906809856, 1125899906834432, 1125899906840576, 1125899906842112, 1125899906842496, 1125899906842592, 1125899906842616, 1125899906842622, 1125899906842623, 1125899906842623, 1125899906842623]
def ml : List Int := [1554944255988, 1229291370880, 1133350644479, 1108068267548, 1101657018359, 1100048367680, 1099645837313, 1099545181697, 1099520016353, 1099513724927, 1099512152064, 1099511758848, 1099511660544, 1099511635968, 1099511629824, 1099511628288, 1099511627904, 1099511627808, 1099511627784, 1099511627778, 1099511627777, 1099511627777, 1099511627777, 1099511627777, 1099511627777, 1099511627777, 1099511627777, 1099511627777]
def T (k : Nat) : Int := Tl.getD k 0
def rr (k : Nat) : Rat := (rl.getD k 0 : Int) / 2 ^ 50
def mm (k : Nat) : Rat := (ml.getD k 0 : Int) / 2 ^ 40
def gg (k : Nat) : Rat := rr k * (1 + 1 / ((2 : Rat) ^ k * 2 ^ k))

theorem tab_bd : ∀ k : Fin 28, 0 ≤ T k.val ∧ T k.val ≤ 421657428 ∧ 0 ≤ rr k.val ∧ nr (Pn (T k.val) - ⟨rr k.val, rr k.val / 2 ^ k.val⟩) ≤ (15 / 16 / 2 ^ 30) * (15 / 16 / 2 ^ 30) ∧ 1 + 1 / ((2 : Rat) ^ k.val * 2 ^ k.val) ≤ mm k.val * mm k.val ∧ 0 ≤ mm k.val := by decide +kernel

theorem W_tab (k : Nat) (hk : k < 28) : Bd (WZ (T k) - ⟨rr k, rr k / 2 ^ k⟩) (1 / 2 ^ 30) := by
  obtain ⟨h0, h1, _, h3, _, _⟩ := tab_bd ⟨k, hk⟩
  simp only at h0 h1 h3
  have h4 := near_W (T k).toNat (by omega)
  have e : ((T k).toNat : Int) = T k := by omega
  have e2 : WZ (T k) = W (T k).toNat := by rw [← WZ_nat, e]
  rw [e] at h4
  rw [e2]
  have e3 : W (T k).toNat - ⟨rr k, rr k / 2 ^ k⟩ = (W (T k).toNat - Pn (T k)) + (Pn (T k) - ⟨rr k, rr k / 2 ^ k⟩) := by
    apply cx_eq; simp only [add_re, add_im, sub_re, sub_im]; constructor <;> grind
  rw [e3]
  have h5 : Bd (Pn (T k) - ⟨rr k, rr k / 2 ^ k⟩) (15 / 16 / 2 ^ 30) := ⟨by decide +kernel, h3⟩
  refine (h4.add h5).mono ?_
  have : ((T k).toNat : Rat) ≤ 421657428 := by
    have : (T k).toNat ≤ 421657428 := by omega
    exact_mod_cast this
  grind

/-- a step's turn, either way -/
theorem W_tab' (k : Nat) (hk : k < 28) {τ : Int} (ht : τ = 1 ∨ τ = -1) : Bd (WZ (τ * T k) - ⟨rr k, (τ : Rat) * rr k / 2 ^ k⟩) (1 / 2 ^ 30) := by
  rcases ht with rfl | rfl
  · have := W_tab k hk
    rw [show (1 : Int) * T k = T k by omega]
    have e : ((1 : Int) : Rat) * rr k / 2 ^ k = rr k / 2 ^ k := by push_cast; grind
    rw [e]; exact this
  · have := (W_tab k hk).conj
    rw [show (-1 : Int) * T k = -(T k) by omega, WZ_neg]
    have e : (WZ (T k)).conj - ⟨rr k, ((-1 : Int) : Rat) * rr k / 2 ^ k⟩ = (WZ (T k) - ⟨rr k, rr k / 2 ^ k⟩).conj := by
      apply cx_eq; simp only [conj_re, conj_im, sub_re, sub_im]; push_cast; constructor <;> grind
    rw [e]; exact this

def ofI (x y : Int) : Cx := ⟨(x : Rat), (y : Rat)⟩

theorem floor_bd (y p : Int) (hp : 0 < p) : -1 ≤ ((y / p : Int) : Rat) - (y : Rat) / (p : Rat) ∧ ((y / p : Int) : Rat) - (y : Rat) / (p : Rat) ≤ 0 := by
  have hP : (0 : Rat) < (p : Rat) := by exact_mod_cast hp
  have h1 : y / p * p ≤ y := Int.ediv_mul_le y (by omega)
  have h2 : y < (y / p + 1) * p := Int.lt_ediv_add_one_mul_self y hp
  have h1 : ((y / p : Int) : Rat) * (p : Rat) ≤ (y : Rat) := by exact_mod_cast h1
  have h2 : (y : Rat) ≤ (((y / p : Int) : Rat) + 1) * (p : Rat) := by
    have : y ≤ (y / p + 1) * p := by omega
    exact_mod_cast this
  have h3 := le_div' hP h1
  have h4 := div_le' hP h2
  grind

theorem step_ok (k : Nat) (hk : k < 28) {τ x y a : Int} (ht : τ = 1 ∨ τ = -1) {A : Rat} (hA : Bd (ofI x y) A) :
    Bd (ofI (x + τ * (y / 2 ^ k)) (y - τ * (x / 2 ^ k))) (A * mm k + 3 / 2) ∧
    Bd (ofI (x + τ * (y / 2 ^ k)) (y - τ * (x / 2 ^ k)) * WZ (a + τ * T k) - sc (gg k) (ofI x y * WZ a)) (A * (3 / 2) / 2 ^ 30 + 3 / 2) := by
  obtain ⟨_, _, hr, _, hm, hm0⟩ := tab_bd ⟨k, hk⟩
  simp only at hr hm hm0
  have hp : (0 : Int) < 2 ^ k := Int.pow_pos (by decide)
  have f1 := floor_bd y (2 ^ k) hp
  have f2 := floor_bd x (2 ^ k) hp
  have hT : ((τ : Int) : Rat) = 1 ∨ ((τ : Int) : Rat) = -1 := by
    rcases ht with rfl | rfl
    · left; rfl
    · right; rfl
  have hw := W_tab' k hk ht
  have hp' : (0 : Rat) < 2 ^ k := by exact_mod_cast hp
  have hp1 : (1 : Rat) ≤ 2 ^ k := by
    have : (1 : Int) ≤ 2 ^ k := by omega
    exact_mod_cast this
  have c1 : ((2 ^ k : Int) : Rat) = (2 : Rat) ^ k := by push_cast; rfl
  rw [c1] at f1 f2
  unfold gg
  generalize (2 : Rat) ^ k = p at *
  generalize hu : (⟨1, -((τ : Rat) / p)⟩ : Cx) = u
  generalize he : ofI (x + τ * (y / 2 ^ k)) (y - τ * (x / 2 ^ k)) - ofI x y * u = e
  have hz : ofI (x + τ * (y / 2 ^ k)) (y - τ * (x / 2 ^ k)) = ofI x y * u + e := by
    rw [← he]; apply cx_eq; simp only [add_re, add_im, sub_re, sub_im]; constructor <;> grind
  have hpi : p * p⁻¹ = 1 := by grind
  have hpi0 : 0 ≤ p⁻¹ := Rat.le_of_lt (Rat.inv_pos.mpr hp')
  have hpi1 : p⁻¹ ≤ 1 := by
    have := Rat.mul_le_mul_of_nonneg_right hp1 hpi0
    grind
  have hpp : p⁻¹ * p⁻¹ ≤ 1 := by have := mul_le hpi1 hpi1 hpi0 (by decide +kernel); grind
  have bu : nr u = 1 + 1 / (p * p) := by
    rw [← hu]; unfold nr
    rcases hT with h | h <;> rw [h] <;> grind
  have be : Bd e (3 / 2) := by
    refine Bd.of (p := 1) (q := 1) (by decide +kernel) ?_ ?_ (by decide +kernel)
    · rw [← he, ← hu]; unfold ofI; simp only [sub_re, mul_re]; push_cast
      rcases hT with h | h <;> rw [h] <;> grind
    · rw [← he, ← hu]; unfold ofI; simp only [sub_im, mul_im]; push_cast
      rcases hT with h | h <;> rw [h] <;> grind
  have bum : Bd u (mm k) := ⟨hm0, by rw [bu]; exact hm⟩
  have hq : 1 / (p * p) = p⁻¹ * p⁻¹ := by clear hm be bum; grind
  have bu2 : Bd u (3 / 2) := by
    refine ⟨by decide +kernel, ?_⟩
    rw [bu, hq]
    have e9 : (3 / 2 : Rat) * (3 / 2) = 1 + 5 / 4 := by decide +kernel
    rw [e9]
    generalize p⁻¹ * p⁻¹ = q at hpp
    clear hm be bum hq bu
    grind
  refine ⟨by rw [hz]; exact (hA.mul bum).add be, ?_⟩
  generalize hη : WZ (τ * T k) - ⟨rr k, (τ : Rat) * rr k / p⟩ = η at hw
  have hW : WZ (τ * T k) = ⟨rr k, (τ : Rat) * rr k / p⟩ + η := by
    rw [← hη]; apply cx_eq; simp only [add_re, add_im, sub_re, sub_im]; constructor <;> grind
  have key : ofI (x + τ * (y / 2 ^ k)) (y - τ * (x / 2 ^ k)) * WZ (a + τ * T k) - sc (rr k * (1 + 1 / (p * p))) (ofI x y * WZ a)
      = (ofI x y * u) * (WZ a * η) + e * WZ (a + τ * T k) := by
    have e1 : ofI (x + τ * (y / 2 ^ k)) (y - τ * (x / 2 ^ k)) * WZ (a + τ * T k) = (ofI x y * u) * WZ (a + τ * T k) + e * WZ (a + τ * T k) := by
      rw [hz]; apply cx_eq; simp only [add_re, add_im, mul_re, mul_im]; constructor <;> grind
    have e2 : (ofI x y * u) * WZ (a + τ * T k) = sc (rr k * (1 + 1 / (p * p))) (ofI x y * WZ a) + (ofI x y * u) * (WZ a * η) := by
      rw [WZ_add, hW, ← hu]
      generalize WZ a = b
      generalize ofI x y = z
      apply cx_eq; simp only [add_re, add_im, mul_re, mul_im, sc_re, sc_im]
      rcases hT with h | h <;> rw [h] <;> constructor <;> grind
    rw [e1, e2]
    apply cx_eq; simp only [add_re, add_im, sub_re, sub_im]; constructor <;> grind
  rw [key]
  have b1 := (hA.mul bu2).mul ((bd_one (nr_WZ a)).mul hw)
  have b2 := be.mul (bd_one (nr_WZ (a + τ * T k)))
  refine (b1.add b2).mono ?_
  grind

/-! ### all steps -/

def Aq (A0 : Rat) : Nat → Rat
  | 0 => A0
  | k + 1 => Aq A0 k * mm k + 3 / 2
def Eq' (A0 : Rat) : Nat → Rat
  | 0 => 0
  | k + 1 => gg k * Eq' A0 k + (Aq A0 k * (3 / 2) / 2 ^ 30 + 3 / 2)
def Gq : Nat → Rat
  | 0 => 1
  | k + 1 => gg k * Gq k
theorem gg_nn (k : Nat) (hk : k < 28) : 0 ≤ gg k := by
  obtain ⟨_, _, hr, _⟩ := tab_bd ⟨k, hk⟩
  unfold gg
  refine Rat.mul_nonneg hr ?_
  have hp : (0 : Rat) < 2 ^ k := by
    have : (0 : Int) < 2 ^ k := Int.pow_pos (by decide)
    exact_mod_cast this
  have := Rat.inv_pos.mpr (Rat.mul_pos hp hp)
  grind

/-- a run of steps: each state follows from the one ahead -/
structure Run (x y a τ : Nat → Int) : Prop where
  ht : ∀ k, k < 28 → τ k = 1 ∨ τ k = -1
  hx : ∀ k, k < 28 → x (k + 1) = x k + τ k * (y k / 2 ^ k)
  hy : ∀ k, k < 28 → y (k + 1) = y k - τ k * (x k / 2 ^ k)
  ha : ∀ k, k < 28 → a (k + 1) = a k + τ k * T k

theorem run_ok {x y a τ : Nat → Int} (h : Run x y a τ) {A0 : Rat} (h0 : Bd (ofI (x 0) (y 0)) A0) :
    ∀ k, k ≤ 28 → Bd (ofI (x k) (y k)) (Aq A0 k) ∧ Bd (ofI (x k) (y k) * WZ (a k) - sc (Gq k) (ofI (x 0) (y 0) * WZ (a 0))) (Eq' A0 k)
  | 0, _ => ⟨h0, by
    have e : ofI (x 0) (y 0) * WZ (a 0) - sc (Gq 0) (ofI (x 0) (y 0) * WZ (a 0)) = ⟨0, 0⟩ := by
      apply cx_eq; simp only [sub_re, sub_im, sc_re, sc_im, Gq]; constructor <;> grind
    rw [e]
    show Bd _ 0
    exact ⟨by decide +kernel, by decide +kernel⟩⟩
  | k + 1, hk => by
    obtain ⟨i1, i2⟩ := run_ok h h0 k (by omega)
    obtain ⟨s1, s2⟩ := step_ok k (by omega) (a := a k) (h.ht k (by omega)) i1
    rw [h.hx k (by omega), h.hy k (by omega), h.ha k (by omega)]
    refine ⟨s1, ?_⟩
    have i3 := i2.sc (gg_nn k (by omega))
    refine Bd.mono (?_ : Bd _ (gg k * Eq' A0 k + (Aq A0 k * (3 / 2) / 2 ^ 30 + 3 / 2))) (by rw [Eq']; exact Rat.le_refl)
    have e : ofI (x k + τ k * (y k / 2 ^ k)) (y k - τ k * (x k / 2 ^ k)) * WZ (a k + τ k * T k) - sc (Gq (k + 1)) (ofI (x 0) (y 0) * WZ (a 0))
        = sc (gg k) (ofI (x k) (y k) * WZ (a k) - sc (Gq k) (ofI (x 0) (y 0) * WZ (a 0))) + (ofI (x k + τ k * (y k / 2 ^ k)) (y k - τ k * (x k / 2 ^ k)) * WZ (a k + τ k * T k) - sc (gg k) (ofI (x k) (y k) * WZ (a k))) := by
      apply cx_eq; simp only [add_re, add_im, sub_re, sub_im, sc_re, sc_im, Gq]; constructor <;> grind
    rw [e]
    exact i3.add s2
end Go.Tr
end

/-! Turning a place to its angle: how near. No program. -/
section
namespace Go.Tr
open Cx
set_option linter.unusedSectionVars false

def sg (y : Int) : Int := if y < 0 then -1 else 1
theorem sg_or (y : Int) : sg y = 1 ∨ sg y = -1 := by unfold sg; split <;> simp
/-- x, y and the angle behind k steps -/
def vst (x0 y0 : Int) : Nat → Int × Int × Int
  | 0 => (x0, y0, 0)
  | k + 1 => let s := vst x0 y0 k; (s.1 + sg s.2.1 * (s.2.1 / 2 ^ k), s.2.1 - sg s.2.1 * (s.1 / 2 ^ k), s.2.2 + sg s.2.1 * T k)
theorem vst_run (x0 y0 : Int) : Run (fun k => (vst x0 y0 k).1) (fun k => (vst x0 y0 k).2.1) (fun k => (vst x0 y0 k).2.2) (fun k => sg (vst x0 y0 k).2.1) :=
  ⟨fun k _ => sg_or _, fun k _ => rfl, fun k _ => rfl, fun k _ => rfl⟩

def Ts : Nat → Int
  | 0 => 0
  | k + 1 => Ts k + T k
theorem Ts_bd : ∀ k : Fin 29, Ts k.val ≤ 935919873 := by decide +kernel
theorem T_nn (k : Nat) : 0 ≤ T k := by
  by_cases h : k < 28
  · exact (tab_bd ⟨k, h⟩).1
  · unfold T; rw [List.getD_eq_getElem?_getD, List.getElem?_eq_none (by show Tl.length ≤ k; have : Tl.length = 28 := rfl; omega)]; decide
theorem run_a {x y a τ : Nat → Int} (h : Run x y a τ) : ∀ k, k ≤ 28 → a 0 - Ts k ≤ a k ∧ a k ≤ a 0 + Ts k
  | 0, _ => by simp [Ts]
  | k + 1, hk => by
    have ih := run_a h k (by omega)
    have hT := T_nn k
    rw [h.ha k (by omega), Ts]
    rcases h.ht k (by omega) with e | e <;> rw [e] <;> omega

theorem A_vec : ∀ k : Fin 29, Aq (2 ^ 29 * 1415 / 1000) k.val ≤ 1250998262 ∧ Eq' (2 ^ 29 * 1415 / 1000) k.val ≤ 91 := by decide +kernel
theorem A_rot : ∀ k : Fin 29, Aq 652032874 k.val ≤ 1073741867 ∧ Eq' 652032874 k.val ≤ 84 := by decide +kernel
theorem G_bd : 1646 / 1000 ≤ Gq 28 ∧ Gq 28 ≤ 1647 / 1000 ∧ 1073741823 ≤ Gq 28 * 652032874 ∧ Gq 28 * 652032874 ≤ 1073741824 := by decide +kernel

theorem up {v : Int} (n : Int) {r : Rat} (hr : (n : Rat) = r) : v ≤ n ↔ (v : Rat) ≤ r := by rw [← hr]; exact Rat.intCast_le_intCast.symm
theorem lo {v : Int} (n : Int) {r : Rat} (hr : (n : Rat) = r) : n ≤ v ↔ r ≤ (v : Rat) := by rw [← hr]; exact Rat.intCast_le_intCast.symm

section
variable {x0 y0 : Int} (hx : 268435456 ≤ x0) (hx1 : x0 < 536870912) (hy : 0 ≤ y0) (hyx : y0 ≤ x0)
include hx hx1 hy hyx

theorem vec_start : Bd (ofI x0 y0) (2 ^ 29 * 1415 / 1000) := by
  have a1 : (x0 : Rat) ≤ 2 ^ 29 := (up 536870912 (by decide +kernel)).1 (by omega)
  have a2 : (y0 : Rat) ≤ 2 ^ 29 := (up 536870912 (by decide +kernel)).1 (by omega)
  have a3 : (0 : Rat) ≤ x0 := by have : 0 ≤ x0 := by omega
                                 exact_mod_cast this
  have a4 : (0 : Rat) ≤ y0 := by exact_mod_cast hy
  refine Bd.of (p := 2 ^ 29) (q := 2 ^ 29) (by decide +kernel) ?_ ?_ (by decide +kernel)
  · unfold ofI; grind
  · unfold ofI; grind
theorem vec_bd (k : Nat) (hk : k ≤ 28) : -1250998262 ≤ (vst x0 y0 k).1 ∧ (vst x0 y0 k).1 ≤ 1250998262 ∧ -1250998262 ≤ (vst x0 y0 k).2.1 ∧ (vst x0 y0 k).2.1 ≤ 1250998262 := by
  have h := ((run_ok (vst_run x0 y0) (vec_start hx hx1 hy hyx) k hk).1).mono (A_vec ⟨k, by omega⟩).1
  have h1 := h.re
  have h2 := h.im
  unfold ofI at h1 h2
  simp only at h1 h2
  have c : ∀ v : Int, (-(1250998262 : Rat) ≤ v ∧ (v : Rat) ≤ 1250998262) → -1250998262 ≤ v ∧ v ≤ 1250998262 := fun v hv => ⟨(lo (-1250998262) (by decide +kernel)).2 hv.1, (up 1250998262 (by decide +kernel)).2 hv.2⟩
  have := c _ h1
  have := c _ h2
  omega
theorem vec_a (k : Nat) (hk : k ≤ 28) : -935919873 ≤ (vst x0 y0 k).2.2 ∧ (vst x0 y0 k).2.2 ≤ 935919873 := by
  have h := run_a (vst_run x0 y0) k hk
  have h2 := Ts_bd ⟨k, by omega⟩
  simp only [vst] at h h2
  omega

/-- what is left of y halves -/
theorem vec_y : ∀ k, k ≤ 28 → 268435456 ≤ (vst x0 y0 k).1 ∧ -(2 * (vst x0 y0 k).1 + k * 2 ^ k) ≤ (vst x0 y0 k).2.1 * 2 ^ k ∧ (vst x0 y0 k).2.1 * 2 ^ k ≤ 2 * (vst x0 y0 k).1 + k * 2 ^ k
  | 0, _ => by simp [vst]; omega
  | k + 1, hk => by
    obtain ⟨i0, i1, i2⟩ := vec_y k (by omega)
    have hp : (0 : Int) < 2 ^ k := Int.pow_pos (by decide)
    simp only [vst]
    generalize (vst x0 y0 k).1 = x at *
    generalize (vst x0 y0 k).2.1 = y at *
    have e : (2 : Int) ^ (k + 1) = 2 ^ k * 2 := Int.pow_succ 2 k
    rw [e]
    push_cast
    generalize (2 : Int) ^ k = p at *
    have d1 := Int.ediv_mul_le x (b := p) (by omega)
    have d2 : x < (x / p + 1) * p := Int.lt_ediv_add_one_mul_self x hp
    have d3 : 0 ≤ x / p := Int.ediv_nonneg (by omega) (by omega)
    generalize x / p = q at *
    have hkp : 0 ≤ (k : Int) * p := Int.mul_nonneg (by omega) (by omega)
    unfold sg
    split
    · rename_i hneg
      have d4 : y / p < 0 := Int.ediv_neg_of_neg_of_pos hneg hp
      generalize y / p = r at *
      refine ⟨by omega, ?_, ?_⟩
      · have e1 : (y - -1 * q) * (p * 2) = 2 * (y * p) + 2 * (q * p) := by grind
        have e2 : ((k : Int) + 1) * (p * 2) = 2 * (k * p) + 2 * p := by grind
        rw [e1, e2]
        have : (q + 1) * p = q * p + p := by grind
        omega
      · have e1 : (y - -1 * q) * (p * 2) = 2 * (y * p) + 2 * (q * p) := by grind
        have e2 : ((k : Int) + 1) * (p * 2) = 2 * (k * p) + 2 * p := by grind
        rw [e1, e2]
        have : y * p ≤ 0 := Int.mul_nonpos_of_nonpos_of_nonneg (by omega) (by omega)
        omega
    · rename_i hpos
      have d4 : 0 ≤ y / p := Int.ediv_nonneg (by omega) (by omega)
      generalize y / p = r at *
      refine ⟨by omega, ?_, ?_⟩
      · have e1 : (y - 1 * q) * (p * 2) = 2 * (y * p) - 2 * (q * p) := by grind
        have e2 : ((k : Int) + 1) * (p * 2) = 2 * (k * p) + 2 * p := by grind
        rw [e1, e2]
        have : 0 ≤ y * p := Int.mul_nonneg (by omega) (by omega)
        omega
      · have e1 : (y - 1 * q) * (p * 2) = 2 * (y * p) - 2 * (q * p) := by grind
        have e2 : ((k : Int) + 1) * (p * 2) = 2 * (k * p) + 2 * p := by grind
        rw [e1, e2]
        have : (q + 1) * p = q * p + p := by grind
        omega
theorem vec_end : -47 ≤ (vst x0 y0 28).2.1 ∧ (vst x0 y0 28).2.1 ≤ 47 ∧ 268435456 ≤ (vst x0 y0 28).1 := by
  have h := vec_y hx hx1 hy hyx 28 (by omega)
  have h2 := vec_bd hx hx1 hy hyx 28 (by omega)
  simp only [show ((28 : Nat) : Int) = 28 from rfl, show (2 : Int) ^ 28 = 268435456 from rfl] at h
  omega

/-- the angle's sine and cosine against the place -/
theorem vec_near : -84 ≤ (x0 : Rat) * (WZ (vst x0 y0 28).2.2).im - y0 * (WZ (vst x0 y0 28).2.2).re ∧ (x0 : Rat) * (WZ (vst x0 y0 28).2.2).im - y0 * (WZ (vst x0 y0 28).2.2).re ≤ 84
    ∧ 162000000 ≤ (x0 : Rat) * (WZ (vst x0 y0 28).2.2).re + y0 * (WZ (vst x0 y0 28).2.2).im := by
  have h := ((run_ok (vst_run x0 y0) (vec_start hx hx1 hy hyx) 28 (by omega)).2).mono (A_vec ⟨28, by omega⟩).2
  have hu := nr_WZ (vst x0 y0 28).2.2
  obtain ⟨e1, e2, e3⟩ := vec_end hx hx1 hy hyx
  generalize (vst x0 y0 28).1 = x at *
  generalize (vst x0 y0 28).2.1 = y at *
  generalize hv : (vst x0 y0 28).2.2 = a at *
  rw [show (vst x0 y0 0) = (x0, y0, 0) from rfl, WZ_zero, mul_one'] at h
  have h2 := h.mul (bd_one (z := (WZ a).conj) (by rw [nr_conj]; exact hu))
  have e : (ofI x y * WZ a - sc (Gq 28) (ofI x0 y0)) * (WZ a).conj = ofI x y - sc (Gq 28) (ofI x0 y0 * (WZ a).conj) := by
    have u := unit_conj hu
    have e1 : (ofI x y * WZ a - sc (Gq 28) (ofI x0 y0)) * (WZ a).conj = ofI x y * (WZ a * (WZ a).conj) - sc (Gq 28) (ofI x0 y0 * (WZ a).conj) := by
      apply cx_eq; simp only [mul_re, mul_im, sub_re, sub_im, sc_re, sc_im]; constructor <;> grind
    rw [e1, u, mul_one']
  rw [e] at h2
  have r1 := h2.re
  have r2 := h2.im
  simp only [sub_re, sub_im, sc_re, sc_im, mul_re, mul_im, conj_re, conj_im, ofI] at r1 r2
  have y1 : (-47 : Rat) ≤ y := (lo (-47) (by decide +kernel)).1 e1
  have y2 : (y : Rat) ≤ 47 := (up 47 (by decide +kernel)).1 e2
  have x1 : (268435456 : Rat) ≤ x := (lo 268435456 (by decide +kernel)).1 e3
  obtain ⟨g1, g2, _, _⟩ := G_bd
  generalize (WZ a).re = c at *
  generalize (WZ a).im = s at *
  generalize Gq 28 = g at *
  have k1 : g * (x0 * s - y0 * c) ≤ 138 := by grind
  have k2 : -138 ≤ g * (x0 * s - y0 * c) := by grind
  have k3 : 268435365 ≤ g * (x0 * c + y0 * s) := by grind
  generalize (x0 : Rat) * s - y0 * c = d at *
  generalize (x0 : Rat) * c + y0 * s = f at *
  refine ⟨?_, ?_, ?_⟩
  · rcases Rat.le_total (a := -84) (b := d) with t | t
    · exact t
    · have : g * d ≤ g * (-84) := Rat.mul_le_mul_of_nonneg_left t (by grind)
      grind
  · rcases Rat.le_total (a := d) (b := 84) with t | t
    · exact t
    · have : g * 84 ≤ g * d := Rat.mul_le_mul_of_nonneg_left t (by grind)
      grind
  · rcases Rat.le_total (a := 162000000) (b := f) with t | t
    · exact t
    · have : g * f ≤ g * 162000000 := Rat.mul_le_mul_of_nonneg_left t (by grind)
      grind
end
end Go.Tr
end

/-! Sines and cosines by their polynomials; bounds. No program. -/
section
namespace Go.Tr
open Cx
def cosLit : List Int := [116023970877830076388614768470129363310794952982842857677439404090788159047809758510508952647628994079113366215766658821900684349466606567424000, 0, -201269506057821228447680201572663894108569231406682359520886681383107784118150216015797047699376402239551258857170217730048000, 0, 58191156192793112291265373665865640881378233486739120448665563082888021588902759122634361094223918268416000, 0, -6729704316124758127408119116638819307167425063600498484242721032460209280035794504908800, 0, 416934859413002209699897050909164175920328771004488402813026775859200, 0, -16072593079484990710567622873463127104590205419520, 0, 422447038406136018809326141440, 0, -8053063680, 0]
def sinLit : List Int := [0, 216111486550104015299332828205319798199077980560889202500580631365604994907620844450795934810543421803253453626794105063938879127552000, 0, -124964556382237144092520203176056279557800064115898286005411720141214494977239653477940117132773251731911834861568000, 0, 21677894962129411209846054638127103776253101783521145749340043620350964959302082330969855596953600, 0, -1790721585741202247836791808221707202272602773032150759293224405087586300723200, 0, 86289077047879954530939677297482096470132629698450450022400, 0, -2721594321369615249770544955924005519360, 0, 60528378991859466240, 0, -1]
theorem cosL_lit : cosL = cosLit := by decide +kernel
theorem sinL_lit : sinL = sinLit := by decide +kernel
theorem den_lit : den = 116023970877830076388614768470129363310794952982842857677439404090788159047809758510508952647628994079113366215766658821900684349466606567424000 := by decide +kernel

def ch (u : Rat) : Rat := 1 - u / 2 * (1 - u / 12 * (1 - u / 30 * (1 - u / 56 * (1 - u / 90 * (1 - u / 132 * (1 - u / 182))))))
def sh (u : Rat) : Rat := 1 - u / 6 * (1 - u / 20 * (1 - u / 42 * (1 - u / 72 * (1 - u / 110 * (1 - u / 156 * (1 - u / 210))))))
def th (n : Int) : Rat := (n : Rat) / 2 ^ 29
def Hn (n : Int) : Cx := ⟨ch (th n * th n), th n * sh (th n * th n)⟩

set_option maxRecDepth 10000 in
theorem Pn_re (n : Int) : (Pn n).re = ch (th n * th n) := by
  unfold Pn
  simp only [cosL_lit, den_lit, cosLit, pev]
  push_cast
  have e : (n : Rat) = 536870912 * th n := by unfold th; grind
  rw [e]
  unfold ch
  generalize th n = x
  grind
set_option maxRecDepth 10000 in
theorem Pn_im (n : Int) : (Pn n).im = th n * sh (th n * th n) := by
  unfold Pn
  simp only [sinL_lit, den_lit, sinLit, pev]
  push_cast
  have e : (n : Rat) = 536870912 * th n := by unfold th; grind
  rw [e]
  unfold sh
  generalize th n = x
  grind

theorem Pn_H (n : Int) : Pn n = Hn n := cx_eq ⟨Pn_re n, Pn_im n⟩
theorem th_neg (n : Int) : th (-n) = -th n := by unfold th; push_cast; grind
theorem Hn_neg (n : Int) : Hn (-n) = (Hn n).conj := by
  have e : -th n * -th n = th n * th n := by grind
  unfold Hn conj
  rw [th_neg, e]
  congr 1; grind
theorem near_H (n : Int) (h1 : -(2 ^ 29) ≤ n) (h2 : n ≤ 2 ^ 29) : Bd (WZ n - Hn n) (1 / 2 ^ 39) := by
  have pos : ∀ m : Nat, m ≤ 2 ^ 29 → Bd (WZ m - Hn m) (1 / 2 ^ 39) := fun m hm => by
    rw [WZ_nat, ← Pn_H]
    refine (near_W m hm).mono ?_
    have : (m : Rat) ≤ 2 ^ 29 := by
      have := (up (v := (m : Int)) 536870912 (r := 2 ^ 29) (by decide +kernel)).1 (by omega)
      exact this
    grind
  rcases Int.le_total 0 n with h | h
  · have := pos n.toNat (by omega)
    rwa [show ((n.toNat : Nat) : Int) = n by omega] at this
  · have := (pos (-n).toNat (by omega)).conj
    rw [show (((-n).toNat : Nat) : Int) = -n by omega, WZ_neg, Hn_neg] at this
    have e : ((WZ n).conj - (Hn n).conj).conj = WZ n - Hn n := by
      apply cx_eq; simp only [conj_re, conj_im, sub_re, sub_im]; constructor <;> grind
    rwa [e] at this

/-! ### bounds of the polynomials -/

theorem fac_bd {u c x : Rat} (hu : 0 ≤ u) (hu1 : u ≤ 1) (hc : 0 ≤ c) (hc1 : c ≤ 1 / 2) (hx : 0 ≤ x) (hx1 : x ≤ 1) : 0 ≤ u * c * x ∧ u * c * x ≤ u * c ∧ u * c ≤ 1 / 2 := by
  have h1 : 0 ≤ u * c := Rat.mul_nonneg hu hc
  have h2 := Rat.mul_nonneg h1 hx
  have h3 := Rat.mul_le_mul_of_nonneg_left hx1 h1
  have h4 := mul_le hu1 hc1 hu (by decide +kernel)
  grind
theorem h_step {u c x : Rat} (hu : 0 ≤ u) (hu1 : u ≤ 1) (hc : 0 ≤ c) (hc1 : c ≤ 1 / 2) (hx : 0 ≤ x ∧ x ≤ 1) : 0 ≤ 1 - u * c * x ∧ 1 - u * c * x ≤ 1 := by
  have := fac_bd hu hu1 hc hc1 hx.1 hx.2
  grind
theorem ch_bd {u : Rat} (hu : 0 ≤ u) (hu1 : u ≤ 1) : 1 - u / 2 ≤ ch u ∧ ch u ≤ 1 := by
  have c : ∀ (n : Rat) (x : Rat), u / n * x = u * (1 / n) * x := fun n x => by grind
  have h := h_step hu hu1 (c := 1 / 182) (x := 1) (by decide +kernel) (by decide +kernel) (by decide +kernel)
  have h := h_step hu hu1 (c := 1 / 132) (by decide +kernel) (by decide +kernel) h
  have h := h_step hu hu1 (c := 1 / 90) (by decide +kernel) (by decide +kernel) h
  have h := h_step hu hu1 (c := 1 / 56) (by decide +kernel) (by decide +kernel) h
  have h := h_step hu hu1 (c := 1 / 30) (by decide +kernel) (by decide +kernel) h
  have h := h_step hu hu1 (c := 1 / 12) (by decide +kernel) (by decide +kernel) h
  have h := fac_bd hu hu1 (c := 1 / 2) (by decide +kernel) (by decide +kernel) h.1 h.2
  have e : ch u = 1 - u * (1 / 2) * (1 - u * (1 / 12) * (1 - u * (1 / 30) * (1 - u * (1 / 56) * (1 - u * (1 / 90) * (1 - u * (1 / 132) * (1 - u * (1 / 182) * 1)))))) := by unfold ch; grind
  rw [e]
  have e2 : u / 2 = u * (1 / 2) := by grind
  rw [e2]
  grind
theorem sh_bd {u : Rat} (hu : 0 ≤ u) (hu1 : u ≤ 1) : 1 - u / 6 ≤ sh u ∧ sh u ≤ 1 := by
  have h := h_step hu hu1 (c := 1 / 210) (x := 1) (by decide +kernel) (by decide +kernel) (by decide +kernel)
  have h := h_step hu hu1 (c := 1 / 156) (by decide +kernel) (by decide +kernel) h
  have h := h_step hu hu1 (c := 1 / 110) (by decide +kernel) (by decide +kernel) h
  have h := h_step hu hu1 (c := 1 / 72) (by decide +kernel) (by decide +kernel) h
  have h := h_step hu hu1 (c := 1 / 42) (by decide +kernel) (by decide +kernel) h
  have h := h_step hu hu1 (c := 1 / 20) (by decide +kernel) (by decide +kernel) h
  have h := fac_bd hu hu1 (c := 1 / 6) (by decide +kernel) (by decide +kernel) h.1 h.2
  have e : sh u = 1 - u * (1 / 6) * (1 - u * (1 / 20) * (1 - u * (1 / 42) * (1 - u * (1 / 72) * (1 - u * (1 / 110) * (1 - u * (1 / 156) * (1 - u * (1 / 210) * 1)))))) := by unfold sh; grind
  rw [e]
  have e2 : u / 6 = u * (1 / 6) := by grind
  rw [e2]
  grind
theorem th_bd {n : Int} (h1 : -(2 ^ 29) ≤ n) (h2 : n ≤ 2 ^ 29) : -1 ≤ th n ∧ th n ≤ 1 ∧ 0 ≤ th n * th n ∧ th n * th n ≤ 1 := by
  have a1 := (lo (v := n) (-536870912) (r := -(2 ^ 29)) (by decide +kernel)).1 (by omega)
  have a2 := (up (v := n) 536870912 (r := 2 ^ 29) (by decide +kernel)).1 (by omega)
  have b1 : -1 ≤ th n := by unfold th; exact le_div' (by decide +kernel) (by grind)
  have b2 : th n ≤ 1 := by unfold th; exact div_le' (by decide +kernel) (by grind)
  have := sq_le_of b1 b2
  refine ⟨b1, b2, sq_nn _, by grind⟩

/-- the cosine of a small angle -/
theorem C_lo {n : Int} (h1 : -(2 ^ 29) ≤ n) (h2 : n ≤ 2 ^ 29) : 49 / 100 ≤ (WZ n).re := by
  have h := (near_H n h1 h2).re
  obtain ⟨_, _, u0, u1⟩ := th_bd h1 h2
  have := (ch_bd u0 u1).1
  simp only [sub_re, Hn] at h
  grind
/-- the sine of a small angle from 0 on -/
theorem S_lo {n : Int} (h1 : 0 ≤ n) (h2 : n ≤ 2 ^ 29) : (5 / 6) * th n - 1 / 2 ^ 39 ≤ (WZ n).im ∧ (WZ n).im ≤ th n + 1 / 2 ^ 39 := by
  have h := (near_H n (by omega) h2).im
  obtain ⟨_, _, u0, u1⟩ := th_bd (n := n) (by omega) h2
  obtain ⟨s1, s2⟩ := sh_bd u0 u1
  have t0 : 0 ≤ th n := by unfold th; exact le_div' (by decide +kernel) (by have := (lo (v := n) 0 (r := 0) (by decide +kernel)).1 h1; grind)
  simp only [sub_im, Hn] at h
  have h3 : th n * (5 / 6) ≤ th n * sh (th n * th n) := Rat.mul_le_mul_of_nonneg_left (by grind) t0
  have h4 : th n * sh (th n * th n) ≤ th n * 1 := Rat.mul_le_mul_of_nonneg_left s2 t0
  grind
end Go.Tr
end

/-! Where an angle lies, from its sine and cosine. No program. -/
section
namespace Go.Tr
open Cx
set_option linter.unusedSectionVars false

def Rt : Int := 843314857
def PiZ : Int := 1686629713
/-- near to a given number -/
theorem bd_sub_mul {a b a' b' : Cx} {A B : Rat} (h : Bd (a - a') A) (k : Bd (b - b') B) (hb : Bd b 1) (ha : Bd a' 1) : Bd (a * b - a' * b') (A + B) := by
  have e : a * b - a' * b' = (a - a') * b + a' * (b - b') := by
    apply cx_eq; simp only [add_re, add_im, sub_re, sub_im, mul_re, mul_im]; constructor <;> grind
  rw [e]
  have h1 := h.mul hb
  have h2 := ha.mul k
  have h3 := h1.add h2
  refine h3.mono ?_
  grind
theorem bd_W (n : Int) : Bd (WZ n) 1 := bd_one (nr_WZ n)

def q8 : Cx := ⟨rr 0, rr 0⟩
theorem W_T0 : Bd (WZ 421657428 - q8) (1 / 2 ^ 30) := by
  have h := W_tab 0 (by omega)
  have e : T 0 = 421657428 := rfl
  rw [e] at h
  have e2 : (⟨rr 0, rr 0 / 2 ^ 0⟩ : Cx) = q8 := by unfold q8; congr 1; grind
  rwa [e2] at h
theorem q8_one : Bd q8 1 := ⟨by decide +kernel, by unfold q8 nr; decide +kernel⟩
theorem W_1 : Bd (WZ 1 - one) (1 / 2 ^ 28) := by
  have e : WZ 1 = w := by show W 1 = w; rw [W, W, mul_one']
  rw [e]
  exact ⟨by decide +kernel, by unfold nr w; decide +kernel⟩
def ii : Cx := ⟨0, 1⟩
def mi : Cx := ⟨-1, 0⟩
theorem q8_q8 : Bd (q8 * q8 * one - ii) (1 / 2 ^ 40) := ⟨by decide +kernel, by unfold nr q8 ii one; simp only [mul_re, mul_im, sub_re, sub_im]; decide +kernel⟩
theorem W_R0 : Bd (WZ 421657428 * WZ 421657428 * WZ 1 - q8 * q8 * one) (1 / 2 ^ 27) :=
  (bd_sub_mul (bd_sub_mul W_T0 W_T0 (bd_W _) q8_one) W_1 (bd_W _) (q8_one.mul q8_one |>.mono (by decide +kernel))).mono (by decide +kernel)
theorem W_add3 (a b c d : Int) (h : a = b + c + d) : WZ a = WZ b * WZ c * WZ d := by subst h; rw [WZ_add, WZ_add]
theorem W_RtE : WZ Rt = WZ 421657428 * WZ 421657428 * WZ 1 := by
  exact W_add3 _ _ _ _ (by unfold Rt; omega)
theorem W_Rt : Bd (WZ Rt - ii) (1 / 2 ^ 26) := by
  have h3 := W_R0.add q8_q8
  rw [← W_RtE] at h3
  have e : WZ Rt - ii = WZ Rt - q8 * q8 * one + (q8 * q8 * one - ii) := by
    apply cx_eq; simp only [add_re, add_im, sub_re, sub_im]; constructor <;> grind
  rw [e]
  exact h3.mono (by decide +kernel)
theorem ii_one : Bd ii 1 := ⟨by decide +kernel, by unfold ii nr; decide +kernel⟩
theorem mi_one : Bd mi 1 := ⟨by decide +kernel, by unfold mi nr; decide +kernel⟩
theorem W_m1 : Bd (WZ (-1) - one) (1 / 2 ^ 28) := by
  have h := W_1.conj
  have e : (WZ 1 - one).conj = (WZ 1).conj - one := by
    generalize WZ 1 = z
    apply cx_eq; simp only [conj_re, conj_im, sub_re, sub_im, one_re, one_im]; constructor <;> grind
  rw [e, ← WZ_neg 1] at h
  exact h
theorem W_Pi : Bd (WZ PiZ - mi) (1 / 2 ^ 24) := by
  have h := bd_sub_mul (bd_sub_mul W_Rt W_Rt (bd_W _) ii_one) W_m1 (bd_W _) (ii_one.mul ii_one |>.mono (by decide +kernel))
  rw [← WZ_add, ← WZ_add] at h
  have e2 : ii * ii * one = mi := by rw [mul_one']; apply cx_eq; simp only [mul_re, mul_im, ii, mi]; constructor <;> decide +kernel
  rw [e2] at h
  exact h.mono (by decide +kernel)
theorem conj_mi (z : Cx) : (z - mi).conj = z.conj - mi := by
  apply cx_eq; simp only [conj_re, conj_im, sub_re, sub_im, mi]; constructor <;> grind
theorem W_neg_mi {n : Int} {A : Rat} (h : Bd (WZ n - mi) A) : Bd (WZ (-n) - mi) A := by
  have h := h.conj
  rw [conj_mi, ← WZ_neg n] at h
  exact h
theorem W_mPi : Bd (WZ (-PiZ) - mi) (1 / 2 ^ 24) := W_neg_mi W_Pi
theorem W_2Pi : Bd (WZ (2 * PiZ) - one) (1 / 2 ^ 23) := by
  have h := bd_sub_mul W_Pi W_Pi (bd_W _) mi_one
  rw [← WZ_add] at h
  have e2 : mi * mi = one := by apply cx_eq; simp only [mul_re, mul_im, mi, one_re, one_im]; constructor <;> decide +kernel
  rw [e2] at h
  exact h.mono (by decide +kernel)

/-- parts of a product with something near -/
theorem near_mul {a : Cx} {n m : Int} {A : Rat} (h : Bd (WZ n - a) A) : Bd (WZ (n + m) - a * WZ m) A := by
  rw [WZ_add]
  have e : WZ n * WZ m - a * WZ m = (WZ n - a) * WZ m := by
    apply cx_eq; simp only [sub_re, sub_im, mul_re, mul_im]; constructor <;> grind
  rw [e]
  have := h.mul (bd_W m)
  refine this.mono ?_
  grind

/-- the sine from 2048 on -/
theorem S_pos {n : Int} (h1 : 2048 ≤ n) (h2 : n ≤ 935919873) : 3 / 1000000 ≤ (WZ n).im := by
  by_cases h : n ≤ 2 ^ 29
  · have := (S_lo (n := n) (by omega) h).1
    have t : 1 / 2 ^ 18 ≤ th n := by unfold th; exact le_div' (by decide +kernel) (by have := (lo (v := n) 2048 (r := 2048) (by decide +kernel)).1 h1; grind)
    grind
  · have hr := (near_mul (m := n - Rt) W_Rt).im
    rw [show Rt + (n - Rt) = n by omega] at hr
    have hc := C_lo (n := n - Rt) (by unfold Rt; omega) (by unfold Rt; omega)
    simp only [sub_im, mul_im, ii] at hr
    grind

section
variable {x0 y0 : Int} (hx : 268435456 ≤ x0) (hx1 : x0 < 536870912) (hy : 0 ≤ y0) (hyx : y0 ≤ x0)
include hx hx1 hy hyx
/-- where the angle lies -/
theorem vec_range : -2048 < (vst x0 y0 28).2.2 ∧ (vst x0 y0 28).2.2 < 421657428 + 2048 := by
  obtain ⟨d1, d2, d3⟩ := vec_near hx hx1 hy hyx
  have hb := vec_a hx hx1 hy hyx 28 (by omega)
  generalize (vst x0 y0 28).2.2 = a at *
  have X : (268435456 : Rat) ≤ x0 := (lo 268435456 (by decide +kernel)).1 hx
  have Y : (0 : Rat) ≤ y0 := (lo 0 (by decide +kernel)).1 hy
  have YX : (y0 : Rat) ≤ x0 := Rat.intCast_le_intCast.2 hyx
  have hu := nr_WZ a
  refine ⟨?_, ?_⟩
  · rcases Int.lt_or_le (-2048) a with h | h
    · exact h
    · exfalso
      have hs := S_pos (n := -a) (by omega) (by omega)
      rw [WZ_neg] at hs
      simp only [conj_im] at hs
      generalize (WZ a).re = c at *
      generalize (WZ a).im = s at *
      generalize (x0 : Rat) = x at *
      generalize (y0 : Rat) = y at *
      -- s ≤ -3e-6: x s ≤ -805; so y c ≤ -700: then c < 0, and x c + y s < 0
      have hs' : s ≤ -(3 / 1000000) := by grind
      have e1 : x * s ≤ x * (-(3 / 1000000)) := Rat.mul_le_mul_of_nonneg_left hs' (by grind)
      have e2 : y * c ≤ -700 := by grind
      have e3 : c ≤ 0 := by
        rcases Rat.le_total (a := c) (b := 0) with t | t
        · exact t
        · have := Rat.mul_nonneg Y t
          grind
      have e4 : x * c ≤ x * 0 := Rat.mul_le_mul_of_nonneg_left e3 (by grind)
      have e5 : y * s ≤ y * 0 := Rat.mul_le_mul_of_nonneg_left (show s ≤ 0 by grind) Y
      grind
  · rcases Int.lt_or_le a (421657428 + 2048) with h | h
    · exact h
    · exfalso
      have hm := S_pos (n := a - 421657428) (by omega) (by omega)
      have hr := near_mul (m := a - 421657428) W_T0
      rw [show (421657428 + (a - 421657428) : Int) = a by omega] at hr
      have hr1 := hr.re
      have hr2 := hr.im
      simp only [sub_re, sub_im, mul_re, mul_im, q8] at hr1 hr2
      have r0 : 7 / 10 ≤ rr 0 := by decide +kernel
      generalize rr 0 = r at *
      generalize (WZ (a - 421657428)).re = p at *
      generalize (WZ (a - 421657428)).im = q at *
      generalize (WZ a).re = c at *
      generalize (WZ a).im = s at *
      generalize (x0 : Rat) = x at *
      generalize (y0 : Rat) = y at *
      -- c - s ≤ -2 r q + small
      have e1 : r * q ≥ 7 / 10 * (3 / 1000000) := mul_le r0 hm (by decide +kernel) (by grind)
      have e2 : c - s ≤ -(4 / 1000000) := by grind
      -- (x - y)(x c + y s) ≥ 0, (x + y)(y c - x s) ≥ -84 (x + y): their sum is (c - s)(x² + y²)
      have f1 := Rat.mul_nonneg (a := x - y) (b := x * c + y * s) (by grind) (by grind)
      have f2 : (x + y) * (-84) ≤ (x + y) * (y * c - x * s) := Rat.mul_le_mul_of_nonneg_left (by grind) (by grind)
      have f3 : (x * x + y * y) * (c - s) ≤ (x * x + y * y) * (-(4 / 1000000)) := Rat.mul_le_mul_of_nonneg_left e2 (by have := sq_nn x; have := sq_nn y; grind)
      have f4 : (x * x + y * y) * (c - s) = (x - y) * (x * c + y * s) + (x + y) * (y * c - x * s) := by grind
      have f5 : x * 268435456 ≤ x * x := Rat.mul_le_mul_of_nonneg_left X (by grind)
      have f6 := sq_nn y
      generalize (x * x + y * y) * (c - s) = M at *
      generalize (x - y) * (x * c + y * s) = M1 at *
      generalize (x + y) * (y * c - x * s) = M2 at *
      grind
end
end Go.Tr
end

/-! Sine and cosine by whole numbers, near to the true ones; angles that are near to the true ones. No program. -/
section
namespace Go.Tr
open Cx
set_option linter.unusedSectionVars false

theorem tdiv_bd (n d : Int) (hd : 0 < d) : -1 ≤ ((n.tdiv d : Int) : Rat) - (n : Rat) / (d : Rat) ∧ ((n.tdiv d : Int) : Rat) - (n : Rat) / (d : Rat) ≤ 1 := by
  have hD : (0 : Rat) < (d : Rat) := by exact_mod_cast hd
  have h1 : n.tdiv d * d + n.tmod d = n := Int.tdiv_mul_add_tmod n d
  have h2 : (n.tmod d).natAbs < d.natAbs := by
    rw [Int.natAbs_tmod]; exact Nat.mod_lt _ (by omega)
  have a1 : (n.tdiv d - 1) * d ≤ n := by rw [Int.sub_mul]; omega
  have a2 : n ≤ (n.tdiv d + 1) * d := by rw [Int.add_mul]; omega
  have b1 : (((n.tdiv d : Int) : Rat) - 1) * (d : Rat) ≤ (n : Rat) := by exact_mod_cast a1
  have b2 : (n : Rat) ≤ (((n.tdiv d : Int) : Rat) + 1) * (d : Rat) := by exact_mod_cast a2
  have c1 := le_div' hD b1
  have c2 := div_le' hD b2
  grind
theorem tdiv_abs (n d B : Int) (hd : 1 ≤ d) (h1 : -B ≤ n) (h2 : n ≤ B) : -B ≤ n.tdiv d ∧ n.tdiv d ≤ B := by
  have h : (n.tdiv d).natAbs ≤ n.natAbs := by rw [Int.natAbs_tdiv]; exact Nat.div_le_self _ _
  omega

/-- one term more -/
theorem term_ok {c q d1 d2 : Int} {C u : Rat} (hc1 : -1073741824 ≤ c) (hc2 : c ≤ 1073741824) (hq1 : 0 ≤ q) (hq2 : q ≤ 1073741824) (hd1 : 1 ≤ d1) (hd2 : 2 ≤ d2)
    (hC : -5 ≤ (c : Rat) - C ∧ (c : Rat) - C ≤ 5) (hu : 0 ≤ u) (hu1 : u ≤ 1) (hqu : -(1 / 2 ^ 30) ≤ (q : Rat) / 2 ^ 30 - u ∧ (q : Rat) / 2 ^ 30 - u ≤ 1 / 2 ^ 30) :
    (-1073741824 ≤ 0 - (((c * q).tdiv 1073741824).tdiv d1).tdiv d2 ∧ 0 - (((c * q).tdiv 1073741824).tdiv d1).tdiv d2 ≤ 1073741824) ∧
    -5 ≤ ((0 - (((c * q).tdiv 1073741824).tdiv d1).tdiv d2 : Int) : Rat) - (-(C * u / d1 / d2)) ∧ ((0 - (((c * q).tdiv 1073741824).tdiv d1).tdiv d2 : Int) : Rat) - (-(C * u / d1 / d2)) ≤ 5 := by
  have hcq : -1152921504606846976 ≤ c * q ∧ c * q ≤ 1152921504606846976 := by
    have a1 : c * q ≤ 1073741824 * q := Int.mul_le_mul_of_nonneg_right hc2 hq1
    have a2 : -1073741824 * q ≤ c * q := Int.mul_le_mul_of_nonneg_right hc1 hq1
    omega
  have q1 : -1073741824 ≤ (c * q).tdiv 1073741824 ∧ (c * q).tdiv 1073741824 ≤ 1073741824 := by
    have h : ((c * q).tdiv 1073741824).natAbs = (c * q).natAbs / 1073741824 := by rw [Int.natAbs_tdiv]; rfl
    generalize (c * q).tdiv 1073741824 = z at *
    omega
  have q2 := tdiv_abs _ d1 1073741824 hd1 q1.1 q1.2
  have q3 := tdiv_abs _ d2 1073741824 (by omega) q2.1 q2.2
  refine ⟨by omega, ?_⟩
  have t1 := tdiv_bd (c * q) 1073741824 (by omega)
  have t2 := tdiv_bd ((c * q).tdiv 1073741824) d1 (by omega)
  have t3 := tdiv_bd (((c * q).tdiv 1073741824).tdiv d1) d2 (by omega)
  generalize (((c * q).tdiv 1073741824).tdiv d1).tdiv d2 = z3 at *
  generalize ((c * q).tdiv 1073741824).tdiv d1 = z2 at *
  generalize (c * q).tdiv 1073741824 = z1 at *
  have D1 : (1 : Rat) ≤ d1 := by exact_mod_cast hd1
  have D2 : (2 : Rat) ≤ d2 := by exact_mod_cast hd2
  have C1 : -(2 ^ 30 : Rat) ≤ c := (lo (-1073741824) (by decide +kernel)).1 hc1
  have C2 : (c : Rat) ≤ 2 ^ 30 := (up 1073741824 (by decide +kernel)).1 hc2
  have e0 : ((1073741824 : Int) : Rat) = 2 ^ 30 := by decide +kernel
  rw [e0] at t1
  push_cast at t1 ⊢
  -- c q / 2^30 - C u
  have m1 : (c : Rat) * q / 2 ^ 30 - C * u = c * ((q : Rat) / 2 ^ 30 - u) + ((c : Rat) - C) * u := by grind
  have m2 : -1 ≤ (c : Rat) * ((q : Rat) / 2 ^ 30 - u) ∧ (c : Rat) * ((q : Rat) / 2 ^ 30 - u) ≤ 1 := by
    generalize (q : Rat) / 2 ^ 30 - u = r at *
    have p1 := Rat.mul_nonneg (a := 2 ^ 30 - (c : Rat)) (b := 1 / 2 ^ 30 - r) (by grind) (by grind)
    have p2 := Rat.mul_nonneg (a := 2 ^ 30 + (c : Rat)) (b := 1 / 2 ^ 30 + r) (by grind) (by grind)
    have p3 := Rat.mul_nonneg (a := 2 ^ 30 - (c : Rat)) (b := 1 / 2 ^ 30 + r) (by grind) (by grind)
    have p4 := Rat.mul_nonneg (a := 2 ^ 30 + (c : Rat)) (b := 1 / 2 ^ 30 - r) (by grind) (by grind)
    constructor <;> grind
  have m3 : -5 ≤ ((c : Rat) - C) * u ∧ ((c : Rat) - C) * u ≤ 5 := by
    generalize (c : Rat) - C = r at *
    have p1 := Rat.mul_nonneg (a := 5 - r) (b := u) (by grind) hu
    have p2 := Rat.mul_nonneg (a := 5 + r) (b := u) (by grind) hu
    grind
  have v1 : -7 ≤ (z1 : Rat) - C * u ∧ (z1 : Rat) - C * u ≤ 7 := by grind
  have iv1 : 0 ≤ (d1 : Rat)⁻¹ ∧ (d1 : Rat)⁻¹ ≤ 1 := by
    have hp : (0 : Rat) < d1 := by grind
    refine ⟨Rat.le_of_lt (Rat.inv_pos.mpr hp), ?_⟩
    have := div_le' (a := 1) (b := 1) hp (by grind)
    grind
  have iv2 : 0 ≤ (d2 : Rat)⁻¹ ∧ (d2 : Rat)⁻¹ ≤ 1 / 2 := by
    have hp : (0 : Rat) < d2 := by grind
    refine ⟨Rat.le_of_lt (Rat.inv_pos.mpr hp), ?_⟩
    have := div_le' (a := 1) (b := 1 / 2) hp (by grind)
    grind
  have w1 : ∀ (r i b B : Rat), 0 ≤ i → i ≤ b → -B ≤ r → r ≤ B → 0 ≤ B → -(B * b) ≤ r * i ∧ r * i ≤ B * b := by
    intro r i b B h1 h2 h3 h4 h5
    have p1 := Rat.mul_nonneg (a := B - r) (b := i) (by grind) h1
    have p2 := Rat.mul_nonneg (a := B + r) (b := i) (by grind) h1
    have p3 := Rat.mul_nonneg (a := B) (b := b - i) h5 (by grind)
    constructor <;> grind
  have v2 := w1 _ _ 1 7 iv1.1 iv1.2 v1.1 v1.2 (by decide +kernel)
  have v2' : -8 ≤ (z2 : Rat) - C * u * (d1 : Rat)⁻¹ ∧ (z2 : Rat) - C * u * (d1 : Rat)⁻¹ ≤ 8 := by grind
  have v3 := w1 _ _ (1 / 2) 8 iv2.1 iv2.2 v2'.1 v2'.2 (by decide +kernel)
  constructor <;> grind


/-! ### the law's sine and cosine -/

def wsq (a : Int) : Int := (2 * a * (2 * a)).tdiv 1073741824
def wcs (a : Int) : Nat → Int
  | 0 => 1073741824
  | k + 1 => 0 - (((wcs a k * wsq a).tdiv 1073741824).tdiv (2 * ((k : Int) + 1) - 1)).tdiv (2 * ((k : Int) + 1))
def wss (a : Int) : Nat → Int
  | 0 => 2 * a
  | k + 1 => 0 - (((wss a k * wsq a).tdiv 1073741824).tdiv (2 * ((k : Int) + 1))).tdiv (2 * ((k : Int) + 1) + 1)
def wC (a : Int) : Int := wcs a 0 + wcs a 1 + wcs a 2 + wcs a 3 + wcs a 4 + wcs a 5
def wS (a : Int) : Int := wss a 0 + wss a 1 + wss a 2 + wss a 3 + wss a 4 + wss a 5

def xcs (u : Rat) : Nat → Rat
  | 0 => 2 ^ 30
  | k + 1 => -(xcs u k * u / ((2 * ((k : Int) + 1) - 1 : Int) : Rat) / ((2 * ((k : Int) + 1) : Int) : Rat))
def xss (t u : Rat) : Nat → Rat
  | 0 => 2 ^ 30 * t
  | k + 1 => -(xss t u k * u / ((2 * ((k : Int) + 1) : Int) : Rat) / ((2 * ((k : Int) + 1) + 1 : Int) : Rat))

section
variable {a : Int} (h1 : -(2 ^ 29) ≤ a) (h2 : a ≤ 2 ^ 29)
include h1 h2
theorem wsq_ok : 0 ≤ wsq a ∧ wsq a ≤ 1073741824 ∧ -(1 / 2 ^ 30) ≤ (wsq a : Rat) / 2 ^ 30 - th a * th a ∧ (wsq a : Rat) / 2 ^ 30 - th a * th a ≤ 1 / 2 ^ 30 := by
  have hs : 0 ≤ a * a := by
    rcases Int.le_total 0 a with h | h
    · exact Int.mul_nonneg h h
    · have := Int.mul_nonneg (a := -a) (b := -a) (by omega) (by omega)
      rwa [Int.neg_mul_neg] at this
  have hs2 : a * a ≤ 288230376151711744 := by
    have p := Int.mul_nonneg (a := 2 ^ 29 - a) (b := 2 ^ 29 + a) (by omega) (by omega)
    have e : ((2 : Int) ^ 29 - a) * (2 ^ 29 + a) = 288230376151711744 - a * a := by grind
    omega
  have e : 2 * a * (2 * a) = 4 * (a * a) := by grind
  unfold wsq
  have t := tdiv_bd (2 * a * (2 * a)) 1073741824 (by omega)
  have hz : (2 * a * (2 * a)).tdiv 1073741824 = (2 * a * (2 * a)) / 1073741824 := Int.tdiv_eq_ediv_of_nonneg (by omega)
  have b1 : 0 ≤ (2 * a * (2 * a)).tdiv 1073741824 ∧ (2 * a * (2 * a)).tdiv 1073741824 ≤ 1073741824 := by rw [hz]; omega
  refine ⟨b1.1, b1.2, ?_⟩
  have e0 : ((1073741824 : Int) : Rat) = 2 ^ 30 := by decide +kernel
  rw [e0] at t
  generalize (2 * a * (2 * a)).tdiv 1073741824 = z at *
  unfold th
  push_cast at t
  have e3 : (2 * (a : Rat) * (2 * a)) / 2 ^ 30 = 2 ^ 30 * ((a : Rat) / 2 ^ 29 * (a / 2 ^ 29)) := by grind
  rw [e3] at t
  generalize (a : Rat) / 2 ^ 29 * (a / 2 ^ 29) = q at *
  constructor <;> grind
theorem wcs_ok : ∀ k, (-1073741824 ≤ wcs a k ∧ wcs a k ≤ 1073741824) ∧ -5 ≤ (wcs a k : Rat) - xcs (th a * th a) k ∧ (wcs a k : Rat) - xcs (th a * th a) k ≤ 5
  | 0 => by
    refine ⟨by simp [wcs], ?_⟩
    have e0 : ((1073741824 : Int) : Rat) = 2 ^ 30 := by decide +kernel
    simp only [wcs, xcs, e0]
    constructor <;> grind
  | k + 1 => by
    obtain ⟨i1, i2⟩ := wcs_ok k
    obtain ⟨s1, s2, s3⟩ := wsq_ok h1 h2
    obtain ⟨_, _, u0, u1⟩ := th_bd h1 h2
    exact term_ok (d1 := 2 * ((k : Int) + 1) - 1) (d2 := 2 * ((k : Int) + 1)) i1.1 i1.2 s1 s2 (by omega) (by omega) i2 u0 u1 s3
theorem wss_ok : ∀ k, (-1073741824 ≤ wss a k ∧ wss a k ≤ 1073741824) ∧ -5 ≤ (wss a k : Rat) - xss (th a) (th a * th a) k ∧ (wss a k : Rat) - xss (th a) (th a * th a) k ≤ 5
  | 0 => by
    refine ⟨by simp [wss]; omega, ?_⟩
    simp only [wss, xss]
    have e : ((2 * a : Int) : Rat) = 2 ^ 30 * th a := by unfold th; push_cast; grind
    rw [e]
    constructor <;> grind
  | k + 1 => by
    obtain ⟨i1, i2⟩ := wss_ok k
    obtain ⟨s1, s2, s3⟩ := wsq_ok h1 h2
    obtain ⟨_, _, u0, u1⟩ := th_bd h1 h2
    exact term_ok (d1 := 2 * ((k : Int) + 1)) (d2 := 2 * ((k : Int) + 1) + 1) i1.1 i1.2 s1 s2 (by omega) (by omega) i2 u0 u1 s3
theorem c_sum : xcs (th a * th a) 0 + xcs (th a * th a) 1 + xcs (th a * th a) 2 + xcs (th a * th a) 3 + xcs (th a * th a) 4 + xcs (th a * th a) 5
    = 2 ^ 30 * ch (th a * th a) - 2 ^ 30 * ((th a * th a) * (th a * th a) * (th a * th a) * ((th a * th a) * (th a * th a) * (th a * th a)) / 479001600) * (1 - th a * th a / 182) := by
  simp only [xcs, ch]
  generalize th a * th a = u
  push_cast
  grind
theorem s_sum : xss (th a) (th a * th a) 0 + xss (th a) (th a * th a) 1 + xss (th a) (th a * th a) 2 + xss (th a) (th a * th a) 3 + xss (th a) (th a * th a) 4 + xss (th a) (th a * th a) 5
    = 2 ^ 30 * (th a * sh (th a * th a)) - 2 ^ 30 * (th a * ((th a * th a) * (th a * th a) * (th a * th a) * ((th a * th a) * (th a * th a) * (th a * th a)) / 6227020800)) * (1 - th a * th a / 210) := by
  simp only [xss, sh]
  generalize th a * th a = u
  push_cast
  grind
theorem wC_ok : -40 ≤ (wC a : Rat) - 2 ^ 30 * (WZ a).re ∧ (wC a : Rat) - 2 ^ 30 * (WZ a).re ≤ 40 := by
  have c0 := (wcs_ok h1 h2 0).2
  have c1 := (wcs_ok h1 h2 1).2
  have c2 := (wcs_ok h1 h2 2).2
  have c3 := (wcs_ok h1 h2 3).2
  have c4 := (wcs_ok h1 h2 4).2
  have c5 := (wcs_ok h1 h2 5).2
  have cs := c_sum h1 h2
  have nh := (near_H a h1 h2).re
  obtain ⟨_, _, u0, u1⟩ := th_bd h1 h2
  simp only [sub_re, Hn] at nh
  have e : (wC a : Rat) = wcs a 0 + wcs a 1 + wcs a 2 + wcs a 3 + wcs a 4 + wcs a 5 := by unfold wC; push_cast; rfl
  rw [e]
  generalize th a * th a = u at *
  have p2 : 0 ≤ u * u * u ∧ u * u * u ≤ 1 := ⟨Rat.mul_nonneg (Rat.mul_nonneg u0 u0) u0, by have := mul_le (mul_le u1 u1 u0 (by decide +kernel)) u1 (Rat.mul_nonneg u0 u0) (by decide +kernel); grind⟩
  have p3 : 0 ≤ u * u * u * (u * u * u) ∧ u * u * u * (u * u * u) ≤ 1 := ⟨Rat.mul_nonneg p2.1 p2.1, by have := mul_le p2.2 p2.2 p2.1 (by decide +kernel); grind⟩
  generalize u * u * u * (u * u * u) = v at *
  have p4 : 0 ≤ v * (1 - u / 182) ∧ v * (1 - u / 182) ≤ 1 := ⟨Rat.mul_nonneg p3.1 (by grind), by have := mul_le p3.2 (show 1 - u / 182 ≤ 1 by grind) p3.1 (by decide +kernel); grind⟩
  have p5 : 2 ^ 30 * (v / 479001600) * (1 - u / 182) = 2 ^ 30 / 479001600 * (v * (1 - u / 182)) := by grind
  rw [p5] at cs
  generalize v * (1 - u / 182) = z at *
  constructor <;> grind
theorem wS_ok : -40 ≤ (wS a : Rat) - 2 ^ 30 * (WZ a).im ∧ (wS a : Rat) - 2 ^ 30 * (WZ a).im ≤ 40 := by
  have c0 := (wss_ok h1 h2 0).2
  have c1 := (wss_ok h1 h2 1).2
  have c2 := (wss_ok h1 h2 2).2
  have c3 := (wss_ok h1 h2 3).2
  have c4 := (wss_ok h1 h2 4).2
  have c5 := (wss_ok h1 h2 5).2
  have cs := s_sum h1 h2
  have nh := (near_H a h1 h2).im
  obtain ⟨t0, t1, u0, u1⟩ := th_bd h1 h2
  simp only [sub_im, Hn] at nh
  have e : (wS a : Rat) = wss a 0 + wss a 1 + wss a 2 + wss a 3 + wss a 4 + wss a 5 := by unfold wS; push_cast; rfl
  rw [e]
  generalize th a * th a = u at *
  generalize th a = t at *
  have p2 : 0 ≤ u * u * u ∧ u * u * u ≤ 1 := ⟨Rat.mul_nonneg (Rat.mul_nonneg u0 u0) u0, by have := mul_le (mul_le u1 u1 u0 (by decide +kernel)) u1 (Rat.mul_nonneg u0 u0) (by decide +kernel); grind⟩
  have p3 : 0 ≤ u * u * u * (u * u * u) ∧ u * u * u * (u * u * u) ≤ 1 := ⟨Rat.mul_nonneg p2.1 p2.1, by have := mul_le p2.2 p2.2 p2.1 (by decide +kernel); grind⟩
  generalize u * u * u * (u * u * u) = v at *
  have p4 : 0 ≤ v * (1 - u / 210) ∧ v * (1 - u / 210) ≤ 1 := ⟨Rat.mul_nonneg p3.1 (by grind), by have := mul_le p3.2 (show 1 - u / 210 ≤ 1 by grind) p3.1 (by decide +kernel); grind⟩
  have p5 : 2 ^ 30 * (t * (v / 6227020800)) * (1 - u / 210) = 2 ^ 30 / 6227020800 * (t * (v * (1 - u / 210))) := by grind
  rw [p5] at cs
  generalize v * (1 - u / 210) = z at *
  have p6 : -1 ≤ t * z ∧ t * z ≤ 1 := by
    have q1 := Rat.mul_nonneg (a := 1 - t) (b := z) (by grind) p4.1
    have q2 := Rat.mul_nonneg (a := 1 + t) (b := z) (by grind) p4.1
    grind
  generalize t * z = y at *
  constructor <;> grind
end

/-- an angle is near to the true one -/
theorem true_ok {y x x0 y0 p : Int} (hp : 1 ≤ p) (hy : 0 ≤ y) (hyx : y ≤ x) (hx0 : x0 = x * p / 4) (hy0 : y0 = y * p / 4) (h28 : 268435456 ≤ x0) (h29 : x0 < 536870912) :
    -536870912 ≤ (vst x0 y0 28).2.2 ∧ (vst x0 y0 28).2.2 ≤ 536870912 ∧
    -(4096 * (x + y)) ≤ x * wS (vst x0 y0 28).2.2 - y * wC (vst x0 y0 28).2.2 ∧ x * wS (vst x0 y0 28).2.2 - y * wC (vst x0 y0 28).2.2 ≤ 4096 * (x + y) := by
  have hpp : y * p ≤ x * p := Int.mul_le_mul_of_nonneg_right hyx (by omega)
  have hyp : 0 ≤ y * p := Int.mul_nonneg hy (by omega)
  have b0 : 0 ≤ y0 := by omega
  have b1 : y0 ≤ x0 := by omega
  obtain ⟨r1, r2⟩ := vec_range h28 h29 b0 b1
  obtain ⟨d1, d2, _⟩ := vec_near h28 h29 b0 b1
  generalize (vst x0 y0 28).2.2 = a at *
  have hS := wS_ok (a := a) (by omega) (by omega)
  have hC := wC_ok (a := a) (by omega) (by omega)
  have u := nr_WZ a
  have us := (bd_one u).im
  have uc := (bd_one u).re
  refine ⟨by omega, by omega, ?_⟩
  have hx1 : x * p = 4 * x0 + x * p % 4 := by omega
  have hy1 : y * p = 4 * y0 + y * p % 4 := by omega
  have m1 : 0 ≤ x * p % 4 ∧ x * p % 4 ≤ 3 := by omega
  have m2 : 0 ≤ y * p % 4 ∧ y * p % 4 ≤ 3 := by omega
  generalize x * p % 4 = e at *
  generalize y * p % 4 = f at *
  have X : (x : Rat) * p = 4 * x0 + e := by have := congrArg (fun i : Int => (i : Rat)) hx1; simpa using this
  have Y : (y : Rat) * p = 4 * y0 + f := by have := congrArg (fun i : Int => (i : Rat)) hy1; simpa using this
  have E1 : (0 : Rat) ≤ e := by exact_mod_cast m1.1
  have E2 : (e : Rat) ≤ 3 := by exact_mod_cast m1.2
  have F1 : (0 : Rat) ≤ f := by exact_mod_cast m2.1
  have F2 : (f : Rat) ≤ 3 := by exact_mod_cast m2.2
  have P1 : (1 : Rat) ≤ p := by exact_mod_cast hp
  have H : (268435456 : Rat) ≤ x0 := (lo 268435456 (by decide +kernel)).1 h28
  have Y0 : (0 : Rat) ≤ y := by exact_mod_cast hy
  have X0 : (0 : Rat) ≤ x := by have : 0 ≤ x := by omega
                                exact_mod_cast this
  have key : -(4096 * ((x : Rat) + y)) ≤ x * (wS a : Rat) - y * (wC a : Rat) ∧ x * (wS a : Rat) - y * (wC a : Rat) ≤ 4096 * ((x : Rat) + y) := by
    generalize (WZ a).im = s at *
    generalize (WZ a).re = c at *
    generalize (wS a : Rat) = S at *
    generalize (wC a : Rat) = C at *
    generalize (x : Rat) = x at *
    generalize (y : Rat) = y at *
    generalize (x0 : Rat) = x0 at *
    generalize (y0 : Rat) = y0 at *
    generalize (p : Rat) = p at *
    generalize (e : Rat) = e at *
    generalize (f : Rat) = f at *
    -- p (x S - y C) = 2^30 (4 (x0 s - y0 c) + e s - f c) + p x (S - 2^30 s) - p y (C - 2^30 c)
    have a1 : p * (x * S - y * C) = 2 ^ 30 * (4 * (x0 * s - y0 * c) + (e * s - f * c)) + (x * p * (S - 2 ^ 30 * s) - y * p * (C - 2 ^ 30 * c)) := by
      have g1 : p * (x * S - y * C) = 2 ^ 30 * ((x * p) * s - (y * p) * c) + (x * p * (S - 2 ^ 30 * s) - y * p * (C - 2 ^ 30 * c)) := by grind
      rw [g1, X, Y]; grind
    have w1 : ∀ (r i B : Rat), 0 ≤ i → -B ≤ r → r ≤ B → -(i * B) ≤ i * r ∧ i * r ≤ i * B := by
      intro r i B k1 k2 k3
      have p1 := Rat.mul_nonneg (a := i) (b := B - r) k1 (by grind)
      have p2 := Rat.mul_nonneg (a := i) (b := B + r) k1 (by grind)
      constructor <;> grind
    have v1 := w1 s e 1 E1 us.1 us.2
    have v2 := w1 c f 1 F1 uc.1 uc.2
    have xp : 0 ≤ x * p := Rat.mul_nonneg X0 (by grind)
    have yp : 0 ≤ y * p := Rat.mul_nonneg Y0 (by grind)
    have v3 := w1 _ (x * p) 40 xp hS.1 hS.2
    have v4 := w1 _ (y * p) 40 yp hC.1 hC.2
    generalize S - 2 ^ 30 * s = S' at *
    generalize C - 2 ^ 30 * c = C' at *
    generalize x0 * s - y0 * c = D at *
    have big : 1073741824 ≤ x * p := by grind
    have q1 : p * (x * S - y * C) ≤ p * (4096 * (x + y)) := by
      have g : p * (4096 * (x + y)) = 4096 * (x * p) + 4096 * (y * p) := by grind
      rw [a1, g]; grind
    have q2 : p * (-(4096 * (x + y))) ≤ p * (x * S - y * C) := by
      have g : p * (-(4096 * (x + y))) = -(4096 * (x * p)) - 4096 * (y * p) := by grind
      rw [a1, g]; grind
    have pp : 0 < p := by grind
    exact ⟨Rat.le_of_mul_le_mul_left q2 pp, Rat.le_of_mul_le_mul_left q1 pp⟩
  have n : ((4096 : Int) : Rat) = 4096 := by decide +kernel
  have e1 : ((4096 * (x + y) : Int) : Rat) = 4096 * ((x : Rat) + y) := by rw [Rat.intCast_mul, Rat.intCast_add, n]
  have e2 : ((x * wS a - y * wC a : Int) : Rat) = x * (wS a : Rat) - y * (wC a : Rat) := by rw [Rat.intCast_sub, Rat.intCast_mul, Rat.intCast_mul]
  have e3 : ((-(4096 * (x + y)) : Int) : Rat) = -(4096 * ((x : Rat) + y)) := by rw [Rat.intCast_neg, e1]
  exact ⟨Rat.intCast_le_intCast.1 (by rw [e2, e3]; exact key.1), Rat.intCast_le_intCast.1 (by rw [e2, e1]; exact key.2)⟩
end Go.Tr
end

/-! The sine and the cosine of an angle, and the angle of these. No program. -/
section
namespace Go.Tr
open Cx
set_option linter.unusedSectionVars false

/-- x, y and what is left of an angle behind k steps -/
def wst (b0 : Int) : Nat → Int × Int × Int
  | 0 => (652032874, 0, b0)
  | k + 1 => let s := wst b0 k; (s.1 - sg s.2.2 * (s.2.1 / 2 ^ k), s.2.1 + sg s.2.2 * (s.1 / 2 ^ k), s.2.2 - sg s.2.2 * T k)
theorem wst_run (b0 : Int) : Run (fun k => (wst b0 k).1) (fun k => (wst b0 k).2.1) (fun k => (wst b0 k).2.2) (fun k => -sg (wst b0 k).2.2) :=
  ⟨fun k _ => by have := sg_or (wst b0 k).2.2; show -_ = 1 ∨ -_ = -1; omega,
   fun k _ => by show _ - _ = _; rw [Int.neg_mul]; omega,
   fun k _ => by show _ + _ = _; rw [Int.neg_mul]; omega,
   fun k _ => by show _ - _ = _; rw [Int.neg_mul]; omega⟩

theorem wst_start (b0 : Int) : Bd (ofI (wst b0 0).1 (wst b0 0).2.1) 652032874 := ⟨by decide +kernel, by show nr (ofI 652032874 0) ≤ _; unfold nr ofI; decide +kernel⟩
theorem wst_bd (b0 : Int) (k : Nat) (hk : k ≤ 28) : -1073741867 ≤ (wst b0 k).1 ∧ (wst b0 k).1 ≤ 1073741867 ∧ -1073741867 ≤ (wst b0 k).2.1 ∧ (wst b0 k).2.1 ≤ 1073741867 := by
  have h := ((run_ok (wst_run b0) (wst_start b0) k hk).1).mono (A_rot ⟨k, by omega⟩).1
  have h1 := h.re
  have h2 := h.im
  unfold ofI at h1 h2
  simp only at h1 h2
  have c : ∀ v : Int, (-(1073741867 : Rat) ≤ v ∧ (v : Rat) ≤ 1073741867) → -1073741867 ≤ v ∧ v ≤ 1073741867 := fun v hv => ⟨(lo (-1073741867) (by decide +kernel)).2 hv.1, (up 1073741867 (by decide +kernel)).2 hv.2⟩
  have := c _ h1
  have := c _ h2
  omega
theorem T_rest : ∀ k : Fin 28, T k.val ≤ 935919877 - Ts (k.val + 1) := by decide +kernel
theorem wst_b {b0 : Int} (h1 : -843314857 ≤ b0) (h2 : b0 ≤ 843314857) : ∀ k, k ≤ 28 → -(935919877 - Ts k) ≤ (wst b0 k).2.2 ∧ (wst b0 k).2.2 ≤ 935919877 - Ts k
  | 0, _ => by simp only [wst, Ts]; omega
  | k + 1, hk => by
    have ih := wst_b h1 h2 k (by omega)
    have hr := T_rest ⟨k, by omega⟩
    simp only [wst]
    simp only [Ts] at hr ⊢
    generalize (wst b0 k).2.2 = b at *
    unfold sg
    split <;> omega
theorem Ts28 : Ts 28 = 935919873 := by decide +kernel
theorem W_4 : ∀ n : Fin 5, nr (W n.val - one) ≤ (1 / 2 ^ 26) * (1 / 2 ^ 26) := by decide +kernel
theorem W_small {n : Int} (h1 : -4 ≤ n) (h2 : n ≤ 4) : Bd (WZ n - one) (1 / 2 ^ 26) := by
  have pos : ∀ m : Nat, m ≤ 4 → Bd (WZ m - one) (1 / 2 ^ 26) := fun m hm => by
    rw [WZ_nat]
    exact ⟨by decide +kernel, W_4 ⟨m, by omega⟩⟩
  rcases Int.le_total 0 n with h | h
  · have := pos n.toNat (by omega)
    rwa [show ((n.toNat : Nat) : Int) = n by omega] at this
  · have := (pos (-n).toNat (by omega)).conj
    rw [show (((-n).toNat : Nat) : Int) = -n by omega, WZ_neg] at this
    have e : ((WZ n).conj - one).conj = WZ n - one := by
      apply cx_eq; simp only [conj_re, conj_im, sub_re, sub_im, one_re, one_im]; constructor <;> grind
    rwa [e] at this

theorem rot_near {b0 : Int} (h1 : -843314857 ≤ b0) (h2 : b0 ≤ 843314857) : Bd (ofI (wst b0 28).1 (wst b0 28).2.1 - sc (2 ^ 30) (WZ b0)) 101 := by
  have h := ((run_ok (wst_run b0) (wst_start b0) 28 (by omega)).2).mono (A_rot ⟨28, by omega⟩).2
  have hb := wst_b h1 h2 28 (by omega)
  rw [Ts28] at hb
  generalize hz : ofI (wst b0 28).1 (wst b0 28).2.1 = z at *
  generalize (wst b0 28).2.2 = b at *
  have e0 : sc (Gq 28) (ofI (wst b0 0).1 (wst b0 0).2.1 * WZ (wst b0 0).2.2) = sc (Gq 28 * 652032874) (WZ b0) := by
    have : ofI (wst b0 0).1 (wst b0 0).2.1 = ⟨652032874, 0⟩ := by show ofI 652032874 0 = _; unfold ofI; congr 1 <;> decide +kernel
    rw [this]
    show sc (Gq 28) (_ * WZ b0) = _
    apply cx_eq; simp only [sc_re, sc_im, mul_re, mul_im]; constructor <;> grind
  rw [e0] at h
  have hs := W_small (n := -b) (by omega) (by omega)
  have hc : WZ b * WZ (-b) = one := by rw [WZ_neg, unit_conj (nr_WZ b)]
  obtain ⟨_, _, g3, g4⟩ := G_bd
  generalize Gq 28 * 652032874 = g at *
  have t1 := h.mul (bd_W (-b))
  have t2 : Bd (sc (2 ^ 30 - g) (WZ b0 * WZ (-b))) 1 := (((bd_W b0).mul (bd_W (-b))).sc (show 0 ≤ 2 ^ 30 - g by grind)).mono (by grind)
  have t3 : Bd (sc (2 ^ 30) (WZ b0 * (WZ (-b) - one))) 16 := (((bd_W b0).mul hs).sc (show (0 : Rat) ≤ 2 ^ 30 by decide +kernel)).mono (by decide +kernel)
  have e : z - sc (2 ^ 30) (WZ b0) = (z * WZ b - sc g (WZ b0)) * WZ (-b) + (sc (-1) (sc (2 ^ 30 - g) (WZ b0 * WZ (-b))) + sc (2 ^ 30) (WZ b0 * (WZ (-b) - one))) := by
    have e1 : (z * WZ b - sc g (WZ b0)) * WZ (-b) = z * (WZ b * WZ (-b)) - sc g (WZ b0 * WZ (-b)) := by
      apply cx_eq; simp only [sub_re, sub_im, sc_re, sc_im, mul_re, mul_im]; constructor <;> grind
    rw [e1, hc, mul_one']
    apply cx_eq; simp only [add_re, add_im, sub_re, sub_im, sc_re, sc_im, mul_re, mul_im, one_re, one_im]; constructor <;> grind
  rw [e]
  exact (t1.add (t2.neg.add t3)).mono (by decide +kernel)

/-- the other half -/
def mir (z : Cx) : Cx := ⟨-z.re, z.im⟩
theorem Bd.mir {z : Cx} {A : Rat} (h : Bd z A) : Bd (mir z) A := ⟨h.1, by have := h.2; unfold nr Tr.mir at *; simp only; grind⟩
theorem mir_near {z : Cx} {a p : Int} {A : Rat} (h : Bd (z - sc (2 ^ 30) (WZ a)) A) (hp : Bd (WZ p - mi) (1 / 2 ^ 24)) : Bd (mir z - sc (2 ^ 30) (WZ (p - a))) (A + 64) := by
  have t1 := h.mir
  have t2 := (near_mul (m := -a) hp).sc (show (0 : Rat) ≤ 2 ^ 30 by decide +kernel)
  rw [show p + -a = p - a by omega] at t2
  have e : mir z - sc (2 ^ 30) (WZ (p - a)) = mir (z - sc (2 ^ 30) (WZ a)) + sc (-1) (sc (2 ^ 30) (WZ (p - a) - mi * WZ (-a))) := by
    rw [WZ_neg a]
    apply cx_eq; simp only [mir, add_re, add_im, sub_re, sub_im, sc_re, sc_im, mul_re, mul_im, mi, conj_re, conj_im]; constructor <;> grind
  rw [e]
  exact (t1.add t2.neg).mono (by grind)

/-- sine and cosine of an angle from -Pi to Pi -/
def b0Z (a : Int) : Int := if 843314857 < (if a < 0 then -a else a) then (if a < 0 then -PiZ - a else PiZ - a) else a
def wavY (a : Int) : Int := (wst (b0Z a) 28).2.1
def wavX (a : Int) : Int := if 843314857 < (if a < 0 then -a else a) then -(wst (b0Z a) 28).1 else (wst (b0Z a) 28).1
theorem b0_bd {a : Int} (h1 : -PiZ ≤ a) (h2 : a ≤ PiZ) : -843314857 ≤ b0Z a ∧ b0Z a ≤ 843314857 := by
  unfold b0Z
  simp only [PiZ] at *
  split <;> split at * <;> omega
theorem wav_near {a : Int} (h1 : -PiZ ≤ a) (h2 : a ≤ PiZ) : Bd (ofI (wavX a) (wavY a) - sc (2 ^ 30) (WZ a)) 165 := by
  have hb := b0_bd h1 h2
  have h := rot_near hb.1 hb.2
  have mirI : ∀ x y : Int, mir (ofI x y) = ofI (-x) y := fun x y => by unfold mir ofI; simp
  unfold wavX wavY
  by_cases hf : 843314857 < (if a < 0 then -a else a)
  · rw [if_pos hf]
    by_cases hn : a < 0
    · have t := mir_near h W_mPi
      have e : -PiZ - b0Z a = a := by unfold b0Z; rw [if_pos hf, if_pos hn]; omega
      rw [e, mirI] at t
      exact t.mono (by decide +kernel)
    · have t := mir_near h W_Pi
      have e : PiZ - b0Z a = a := by unfold b0Z; rw [if_pos hf, if_neg hn]; omega
      rw [e, mirI] at t
      exact t.mono (by decide +kernel)
  · rw [if_neg hf]
    have e : b0Z a = a := by unfold b0Z; rw [if_neg hf]
    rw [e] at h ⊢
    exact h.mono (by decide +kernel)

theorem nr_sc (r : Rat) (z : Cx) : nr (sc r z) = r * r * nr z := by unfold nr; simp only [sc_re, sc_im]; grind
theorem nr_near {z : Cx} {a : Int} (h : Bd (z - sc (2 ^ 30) (WZ a)) 165) : (2 ^ 30 - 166) * (2 ^ 30 - 166) ≤ nr z ∧ nr z ≤ (2 ^ 30 + 165) * (2 ^ 30 + 165) := by
  have hw : Bd (sc (2 ^ 30) (WZ a)) (2 ^ 30) := ((bd_W a).sc (show (0 : Rat) ≤ 2 ^ 30 by decide +kernel)).mono (by decide +kernel)
  constructor
  · rcases Rat.le_total (a := (2 ^ 30 - 166) * (2 ^ 30 - 166)) (b := nr z) with t | t
    · exact t
    · exfalso
      have hz : Bd z (2 ^ 30 - 166) := ⟨by decide +kernel, t⟩
      have := (hz.add h.neg).2
      have e : z + sc (-1) (z - sc (2 ^ 30) (WZ a)) = sc (2 ^ 30) (WZ a) := by
        apply cx_eq; simp only [add_re, add_im, sub_re, sub_im, sc_re, sc_im]; constructor <;> grind
      rw [e, nr_sc, nr_WZ] at this
      revert this
      decide +kernel
  · have := (h.add hw).2
    have e : z - sc (2 ^ 30) (WZ a) + sc (2 ^ 30) (WZ a) = z := by
      apply cx_eq; simp only [add_re, add_im, sub_re, sub_im, sc_re, sc_im]; constructor <;> grind
    rw [e] at this
    exact Rat.le_trans this (by decide +kernel)

/-- on the circle -/
theorem round_ok {a : Int} (h1 : -PiZ ≤ a) (h2 : a ≤ PiZ) :
    wavY a * wavY a + wavX a * wavX a - 1152921504606846976 < 1099511627776 ∧ wavY a * wavY a + wavX a * wavX a - 1152921504606846976 > -1099511627776 := by
  obtain ⟨n1, n2⟩ := nr_near (wav_near h1 h2)
  have e : nr (ofI (wavX a) (wavY a)) = ((wavX a * wavX a + wavY a * wavY a : Int) : Rat) := by unfold nr ofI; push_cast; rfl
  rw [e] at n1 n2
  have m1 := (lo (v := wavX a * wavX a + wavY a * wavY a) 1152921148124588964 (r := (2 ^ 30 - 166) * (2 ^ 30 - 166)) (by decide +kernel)).2 n1
  have m2 := (up (v := wavX a * wavX a + wavY a * wavY a) 1152921858941676121 (r := (2 ^ 30 + 165) * (2 ^ 30 + 165)) (by decide +kernel)).2 n2
  omega
end Go.Tr
end

/-! The angle of a sine and a cosine is the angle they came from, but for little. No program. -/
section
namespace Go.Tr
open Cx
set_option linter.unusedSectionVars false

/-- an angle, of what is behind all steps -/
def fold (al ax ay x y : Int) : Int :=
  let a1 := if ax < ay then Rt - al else al
  let a2 := if x < 0 then PiZ - a1 else a1
  if y < 0 then -a2 else a2
def amt (x : Int) : Int := if x < 0 then -x else x

def swp (z : Cx) : Cx := ⟨z.im, z.re⟩
theorem Bd.swp {z : Cx} {A : Rat} (h : Bd z A) : Bd (swp z) A := ⟨h.1, by have := h.2; unfold nr Tr.swp at *; simp only; grind⟩
theorem swp_near {z : Cx} {a : Int} {A : Rat} (h : Bd (z - sc (2 ^ 30) (WZ a)) A) : Bd (swp z - sc (2 ^ 30) (WZ (Rt - a))) (A + 16) := by
  have t1 := h.swp
  have t2 := (near_mul (m := -a) W_Rt).sc (show (0 : Rat) ≤ 2 ^ 30 by decide +kernel)
  rw [show Rt + -a = Rt - a by omega] at t2
  have e : swp z - sc (2 ^ 30) (WZ (Rt - a)) = swp (z - sc (2 ^ 30) (WZ a)) + sc (-1) (sc (2 ^ 30) (WZ (Rt - a) - ii * WZ (-a))) := by
    rw [WZ_neg a]
    apply cx_eq; simp only [swp, add_re, add_im, sub_re, sub_im, sc_re, sc_im, mul_re, mul_im, ii, conj_re, conj_im]; constructor <;> grind
  rw [e]
  exact (t1.add t2.neg).mono (by grind)
theorem conj_near {z : Cx} {a : Int} {A : Rat} (h : Bd (z - sc (2 ^ 30) (WZ a)) A) : Bd (z.conj - sc (2 ^ 30) (WZ (-a))) A := by
  have t1 := h.conj
  have e : z.conj - sc (2 ^ 30) (WZ (-a)) = (z - sc (2 ^ 30) (WZ a)).conj := by
    rw [WZ_neg a]
    apply cx_eq; simp only [sub_re, sub_im, sc_re, sc_im, conj_re, conj_im]; constructor <;> grind
  rw [e]; exact t1

/-- the direction of a place on the circle -/
theorem vec_dir {x0 y0 g l p : Int} (h28 : 268435456 ≤ x0) (h29 : x0 < 536870912) (hp : 1 ≤ p) (hl : 0 ≤ l) (hlg : l ≤ g) (hx0 : x0 = g * p / 4) (hy0 : y0 = l * p / 4)
    (n1 : (2 ^ 30 - 166) * (2 ^ 30 - 166) ≤ nr (ofI g l)) (n2 : nr (ofI g l) ≤ (2 ^ 30 + 165) * (2 ^ 30 + 165)) : Bd (ofI g l - sc (2 ^ 30) (WZ (vst x0 y0 28).2.2)) 860 := by
  have hpp : l * p ≤ g * p := Int.mul_le_mul_of_nonneg_right hlg (by omega)
  have hlp : 0 ≤ l * p := Int.mul_nonneg hl (by omega)
  obtain ⟨d1, d2, d3⟩ := vec_near h28 h29 (by omega : 0 ≤ y0) (by omega)
  have u := nr_WZ (vst x0 y0 28).2.2
  generalize WZ (vst x0 y0 28).2.2 = W at *
  have hx1 : g * p = 4 * x0 + g * p % 4 := by omega
  have hy1 : l * p = 4 * y0 + l * p % 4 := by omega
  have m1 : 0 ≤ g * p % 4 ∧ g * p % 4 ≤ 3 := by omega
  have m2 : 0 ≤ l * p % 4 ∧ l * p % 4 ≤ 3 := by omega
  generalize g * p % 4 = e at *
  generalize l * p % 4 = f at *
  have X : (g : Rat) * p = 4 * x0 + e := by have := congrArg (fun i : Int => (i : Rat)) hx1; simpa using this
  have Y : (l : Rat) * p = 4 * y0 + f := by have := congrArg (fun i : Int => (i : Rat)) hy1; simpa using this
  have E1 : (0 : Rat) ≤ e := by exact_mod_cast m1.1
  have E2 : (e : Rat) ≤ 3 := by exact_mod_cast m1.2
  have F1 : (0 : Rat) ≤ f := by exact_mod_cast m2.1
  have F2 : (f : Rat) ≤ 3 := by exact_mod_cast m2.2
  have P1 : (1 : Rat) ≤ p := by exact_mod_cast hp
  have hP0 : (0 : Rat) < p := by grind
  have i0 : 0 ≤ (p : Rat)⁻¹ := Rat.le_of_lt (Rat.inv_pos.mpr hP0)
  have i1 : (p : Rat)⁻¹ ≤ 1 := by have := div_le' (a := 1) (b := 1) hP0 (by grind); grind
  have ip : (p : Rat) * (p : Rat)⁻¹ = 1 := by grind
  generalize hρ : (x0 : Rat) * W.re + y0 * W.im = ρ at *
  generalize hδ : (x0 : Rat) * W.im - y0 * W.re = δ at *
  -- (g + i l) = (4 ρ / p) W + small
  generalize hk : 4 * ρ * (p : Rat)⁻¹ = κ
  have k0 : 0 ≤ κ := by rw [← hk]; exact Rat.mul_nonneg (by grind) i0
  have uw : W.re * W.re + W.im * W.im = 1 := u
  have key : ofI g l - sc κ W = sc (4 * (p : Rat)⁻¹) (⟨δ, 0⟩ * (⟨0, -1⟩ * W)) + ⟨e * (p : Rat)⁻¹, f * (p : Rat)⁻¹⟩ := by
    have G : (g : Rat) = (4 * x0 + e) * (p : Rat)⁻¹ := by rw [← X]; grind
    have L : (l : Rat) = (4 * y0 + f) * (p : Rat)⁻¹ := by rw [← Y]; grind
    have X0 : (x0 : Rat) = ρ * W.re + δ * W.im := by rw [← hρ, ← hδ]; grind
    have Y0 : (y0 : Rat) = ρ * W.im - δ * W.re := by rw [← hρ, ← hδ]; grind
    apply cx_eq
    simp only [ofI, sub_re, sub_im, add_re, add_im, sc_re, sc_im, mul_re, mul_im]
    rw [G, L, X0, Y0, ← hk]
    constructor <;> grind
  have b1 : Bd (ofI g l - sc κ W) 345 := by
    rw [key]
    have c1 : Bd (⟨δ, 0⟩ * (⟨0, -1⟩ * W)) 84 := by
      have q1 : Bd (⟨δ, 0⟩ : Cx) 84 := Bd.of (p := 84) (q := 0) (by decide +kernel) ⟨d1, d2⟩ (by show -(0 : Rat) ≤ 0 ∧ (0 : Rat) ≤ 0; constructor <;> decide +kernel) (by decide +kernel)
      have q2 : Bd (⟨0, -1⟩ : Cx) 1 := ⟨by decide +kernel, by unfold nr; decide +kernel⟩
      exact (q1.mul (q2.mul (bd_one u))).mono (by decide +kernel)
    have c2 := c1.sc (r := 4 * (p : Rat)⁻¹) (by grind)
    have c3 : Bd (⟨e * (p : Rat)⁻¹, f * (p : Rat)⁻¹⟩ : Cx) 5 := by
      have z1 := Rat.mul_nonneg E1 i0
      have z2 := Rat.mul_nonneg F1 i0
      have z3 := mul_le E2 i1 E1 (by decide +kernel)
      have z4 := mul_le F2 i1 F1 (by decide +kernel)
      refine Bd.of (p := 3) (q := 3) (by decide +kernel) ?_ ?_ (by decide +kernel)
      · show -3 ≤ (e : Rat) * (p : Rat)⁻¹ ∧ (e : Rat) * (p : Rat)⁻¹ ≤ 3
        grind
      · show -3 ≤ (f : Rat) * (p : Rat)⁻¹ ∧ (f : Rat) * (p : Rat)⁻¹ ≤ 3
        grind
    exact (c2.add c3).mono (by grind)
  have bW := bd_one u
  have hkw : Bd (sc κ W) κ := (bW.sc k0).mono (by grind)
  have up1 : κ ≤ 2 ^ 30 + 511 := by
    have hv : Bd (ofI g l) (2 ^ 30 + 165) := ⟨by decide +kernel, n2⟩
    have := hv.add b1.neg
    have ee : ofI g l + sc (-1) (ofI g l - sc κ W) = sc κ W := by
      apply cx_eq; simp only [sub_re, sub_im, add_re, add_im, sc_re, sc_im]; constructor <;> grind
    rw [ee] at this
    have h2 := this.2
    rw [nr_sc, u] at h2
    have := le_of_sq (x := κ) (y := 2 ^ 30 + 165 + 345) (by decide +kernel) (by grind)
    grind
  have lo1 : 2 ^ 30 - 512 ≤ κ := by
    rcases Rat.le_total (a := 2 ^ 30 - 512) (b := κ) with t | t
    · exact t
    · exfalso
      have := (hkw.mono t).add b1
      have ee : sc κ W + (ofI g l - sc κ W) = ofI g l := by
        apply cx_eq; simp only [sub_re, sub_im, add_re, add_im, sc_re, sc_im]; constructor <;> grind
      rw [ee] at this
      have h2 := this.2
      have := Rat.le_trans n1 h2
      revert this
      decide +kernel
  have last : Bd (sc (κ - 2 ^ 30) W) 512 := by
    refine ⟨by decide +kernel, ?_⟩
    rw [nr_sc, u]
    have := sq_le_of (x := κ - 2 ^ 30) (p := 512) (by grind) (by grind)
    grind
  have ee : ofI g l - sc (2 ^ 30) W = (ofI g l - sc κ W) + sc (κ - 2 ^ 30) W := by
    apply cx_eq; simp only [sub_re, sub_im, add_re, add_im, sc_re, sc_im]; constructor <;> grind
  rw [ee]
  exact (b1.add last).mono (by decide +kernel)

/-- the angle's direction -/
theorem ang_dir {x y x0 y0 p : Int} (hp : 1 ≤ p)
    (hx0 : x0 = (if amt x < amt y then amt y else amt x) * p / 4) (hy0 : y0 = (if amt x < amt y then amt x else amt y) * p / 4) (h28 : 268435456 ≤ x0) (h29 : x0 < 536870912)
    (n1 : (2 ^ 30 - 166) * (2 ^ 30 - 166) ≤ nr (ofI x y)) (n2 : nr (ofI x y) ≤ (2 ^ 30 + 165) * (2 ^ 30 + 165)) : Bd (ofI x y - sc (2 ^ 30) (WZ (fold (vst x0 y0 28).2.2 (amt x) (amt y) x y))) 940 := by
  have hax : 0 ≤ amt x := by unfold amt; split <;> omega
  have hay : 0 ≤ amt y := by unfold amt; split <;> omega
  have sqx : ((amt x : Int) : Rat) * (amt x : Int) = (x : Rat) * x := by unfold amt; split <;> push_cast <;> grind
  have sqy : ((amt y : Int) : Rat) * (amt y : Int) = (y : Rat) * y := by unfold amt; split <;> push_cast <;> grind
  have nA : nr (ofI (amt x) (amt y)) = nr (ofI x y) := by unfold nr ofI; simp only; rw [sqx, sqy]
  -- among amounts
  have h1 : Bd (ofI (amt x) (amt y) - sc (2 ^ 30) (WZ (if amt x < amt y then Rt - (vst x0 y0 28).2.2 else (vst x0 y0 28).2.2))) 876 := by
    by_cases h : amt x < amt y
    · rw [if_pos h] at hx0 hy0 ⊢
      have nB : nr (ofI (amt y) (amt x)) = nr (ofI (amt x) (amt y)) := by unfold nr ofI; simp only; grind
      have := vec_dir h28 h29 hp hax (by omega) hx0 hy0 (by rw [nB, nA]; exact n1) (by rw [nB, nA]; exact n2)
      have := swp_near this
      exact this.mono (by decide +kernel)
    · rw [if_neg h] at hx0 hy0 ⊢
      have := vec_dir h28 h29 hp hay (by omega) hx0 hy0 (by rw [nA]; exact n1) (by rw [nA]; exact n2)
      exact this.mono (by decide +kernel)
  unfold fold
  simp only
  generalize (if amt x < amt y then Rt - (vst x0 y0 28).2.2 else (vst x0 y0 28).2.2) = a1 at *
  have h2 : Bd (ofI x (amt y) - sc (2 ^ 30) (WZ (if x < 0 then PiZ - a1 else a1))) 940 := by
    by_cases h : x < 0
    · rw [if_pos h]
      have := mir_near h1 W_Pi
      have e : mir (ofI (amt x) (amt y)) = ofI x (amt y) := by
        unfold mir ofI amt; rw [if_pos h]; simp
      rw [e] at this
      exact this.mono (by decide +kernel)
    · rw [if_neg h]
      have e : amt x = x := by unfold amt; rw [if_neg h]
      rw [e] at h1
      exact h1.mono (by decide +kernel)
  generalize (if x < 0 then PiZ - a1 else a1) = a2 at *
  by_cases h : y < 0
  · rw [if_pos h]
    have := conj_near h2
    have e : (ofI x (amt y)).conj = ofI x y := by
      unfold ofI amt conj; rw [if_pos h]; simp
    rwa [e] at this
  · rw [if_neg h]
    have e : amt y = y := by unfold amt; rw [if_neg h]
    rwa [e] at h2

/-- where a turn is almost none -/
theorem almost {n : Int} (h0 : 0 ≤ n) (h1 : n ≤ PiZ) (h : Bd (WZ n - one) (1 / 2 ^ 18)) : n < 8192 := by
  have hr := h.re
  have hi := h.im
  simp only [sub_re, sub_im, one_re, one_im] at hr hi
  rcases Int.lt_or_le n 8192 with t | t
  · exact t
  · exfalso
    by_cases c1 : n ≤ 2 ^ 29
    · have := (S_lo (n := n) (by omega) c1).1
      have t : 1 / 2 ^ 16 ≤ th n := by unfold th; exact le_div' (by decide +kernel) (by have := (lo (v := n) 8192 (r := 8192) (by decide +kernel)).1 t; grind)
      grind
    · by_cases c2 : n ≤ 1380185769
      · have hm := (near_mul (m := n - Rt) W_Rt).re
        rw [show Rt + (n - Rt) = n by omega] at hm
        simp only [sub_re, mul_re, ii] at hm
        rcases Int.le_total 0 (n - Rt) with c3 | c3
        · have := (S_lo (n := n - Rt) c3 (by unfold Rt; omega)).1
          have t0 : 0 ≤ th (n - Rt) := by unfold th; exact le_div' (by decide +kernel) (by have := (lo (v := n - Rt) 0 (r := 0) (by decide +kernel)).1 c3; grind)
          grind
        · have := (S_lo (n := -(n - Rt)) (by omega) (by unfold Rt; omega)).2
          rw [WZ_neg] at this
          simp only [conj_im] at this
          have t0 : th (-(n - Rt)) ≤ 6 / 10 := by
            unfold th
            have := (up (v := -(n - Rt)) 306443945 (r := 306443945) (by decide +kernel)).1 (by unfold Rt; omega)
            exact div_le' (by decide +kernel) (by grind)
          grind
      · have hm := (near_mul (m := n - PiZ) W_Pi).re
        rw [show PiZ + (n - PiZ) = n by omega] at hm
        simp only [sub_re, mul_re, mi] at hm
        have := C_lo (n := n - PiZ) (by unfold PiZ; omega) (by omega)
        grind

def farI (d : Int) : Int :=
  let f := if d > PiZ then d - 2 * PiZ else d
  if f < -PiZ then f + 2 * PiZ else f
theorem fold_bd {al ax ay x y : Int} (h1 : -2048 < al) (h2 : al < 421657428 + 2048) : -PiZ - 2048 < fold al ax ay x y ∧ fold al ax ay x y < PiZ + 2048 := by
  unfold fold PiZ Rt
  simp only
  split <;> split <;> split <;> omega
theorem W_diff {a b : Int} {A : Rat} (h : Bd (WZ a - WZ b) A) : Bd (WZ (a - b) - one) A := by
  have t := h.mul (bd_W (-b))
  have hc : WZ b * WZ (-b) = one := by rw [WZ_neg, unit_conj (nr_WZ b)]
  have e : (WZ a - WZ b) * WZ (-b) = WZ (a - b) - one := by
    rw [show a - b = a + -b by omega, WZ_add, ← hc]
    apply cx_eq; simp only [sub_re, sub_im, mul_re, mul_im]; constructor <;> grind
  rw [e] at t
  exact t.mono (by grind)
def farG (P Q d : Int) : Int :=
  let f := if d > P then d - Q else d
  if f < -P then f + Q else f
theorem one_bd : Bd one 1 := bd_one (z := one) (by unfold nr one; decide +kernel)
theorem add_Q {Q n : Int} {A B : Rat} (hQ : Bd (WZ Q - one) B) (hn : Bd (WZ n - one) A) : Bd (WZ (n + Q) - one) (A + B) := by
  have t := bd_sub_mul hn hQ (bd_W _) one_bd
  rw [← WZ_add, mul_one'] at t
  exact t
theorem neg_Q {Q : Int} {B : Rat} (hQ : Bd (WZ Q - one) B) : Bd (WZ (-Q) - one) B := by
  have t := hQ.conj
  have e : (WZ Q - one).conj = (WZ Q).conj - one := by
    generalize WZ Q = z
    apply cx_eq; simp only [conj_re, conj_im, sub_re, sub_im, one_re, one_im]; constructor <;> grind
  rw [e, ← WZ_neg] at t
  exact t
theorem farG_W {P Q d : Int} (hQ : Bd (WZ Q - one) (1 / 2 ^ 23)) (h : Bd (WZ d - one) (1 / 2 ^ 19)) : Bd (WZ (farG P Q d) - one) (1 / 2 ^ 18) := by
  have sub : ∀ (n : Int) (A : Rat), Bd (WZ n - one) A → Bd (WZ (n - Q) - one) (A + 1 / 2 ^ 23) := fun n A hn => by
    rw [show n - Q = n + -Q by omega]
    exact add_Q (neg_Q hQ) hn
  unfold farG
  simp only
  split <;> split
  · exact (add_Q hQ (sub _ _ h)).mono (by decide +kernel)
  · exact (sub _ _ h).mono (by decide +kernel)
  · exact (add_Q hQ h).mono (by decide +kernel)
  · exact h.mono (by decide +kernel)
theorem far_W {d : Int} (h : Bd (WZ d - one) (1 / 2 ^ 19)) : Bd (WZ (farI d) - one) (1 / 2 ^ 18) := farG_W W_2Pi h
theorem far_bd {d : Int} (h1 : -(2 * PiZ) - 2048 < d) (h2 : d < 2 * PiZ + 2048) : -PiZ ≤ farI d ∧ farI d ≤ PiZ := by
  unfold farI PiZ at *
  simp only
  split <;> split <;> omega

/-- the angle of an angle's sine and cosine -/
theorem back_ok {a x0 y0 p : Int} (h1 : -PiZ ≤ a) (h2 : a ≤ PiZ) (hp : 1 ≤ p)
    (hx0 : x0 = (if amt (wavX a) < amt (wavY a) then amt (wavY a) else amt (wavX a)) * p / 4) (hy0 : y0 = (if amt (wavX a) < amt (wavY a) then amt (wavX a) else amt (wavY a)) * p / 4)
    (h28 : 268435456 ≤ x0) (h29 : x0 < 536870912) :
    farI (fold (vst x0 y0 28).2.2 (amt (wavX a)) (amt (wavY a)) (wavX a) (wavY a) - a) < 8192 ∧ -8192 < farI (fold (vst x0 y0 28).2.2 (amt (wavX a)) (amt (wavY a)) (wavX a) (wavY a) - a) := by
  have hn := wav_near h1 h2
  obtain ⟨n1, n2⟩ := nr_near hn
  have hd := ang_dir hp hx0 hy0 h28 h29 n1 n2
  have hax : 0 ≤ amt (wavX a) := by unfold amt; split <;> omega
  have hay : 0 ≤ amt (wavY a) := by unfold amt; split <;> omega
  have hpp : ∀ u v : Int, u ≤ v → u * p ≤ v * p := fun u v h => Int.mul_le_mul_of_nonneg_right h (by omega)
  have hy0' : 0 ≤ y0 := by
    rw [hy0]
    have : 0 ≤ (if amt (wavX a) < amt (wavY a) then amt (wavX a) else amt (wavY a)) * p := Int.mul_nonneg (by split <;> omega) (by omega)
    omega
  have hyx : y0 ≤ x0 := by
    rw [hy0, hx0]
    have := hpp (if amt (wavX a) < amt (wavY a) then amt (wavX a) else amt (wavY a)) (if amt (wavX a) < amt (wavY a) then amt (wavY a) else amt (wavX a)) (by split <;> omega)
    omega
  obtain ⟨r1, r2⟩ := vec_range h28 h29 hy0' hyx
  obtain ⟨f1, f2⟩ := fold_bd (ax := amt (wavX a)) (ay := amt (wavY a)) (x := wavX a) (y := wavY a) r1 r2
  generalize fold (vst x0 y0 28).2.2 (amt (wavX a)) (amt (wavY a)) (wavX a) (wavY a) = b at *
  generalize ofI (wavX a) (wavY a) = z at *
  have hb : Bd (WZ b - WZ a) (1 / 2 ^ 19) := by
    have t := (hn.add hd.neg).sc (show (0 : Rat) ≤ 1 / 2 ^ 30 by decide +kernel)
    have e : sc (1 / 2 ^ 30) (z - sc (2 ^ 30) (WZ a) + sc (-1) (z - sc (2 ^ 30) (WZ b))) = WZ b - WZ a := by
      apply cx_eq; simp only [add_re, add_im, sub_re, sub_im, sc_re, sc_im]; constructor <;> grind
    rw [e] at t
    exact t.mono (by decide +kernel)
  have hW := far_W (W_diff hb)
  have hF := far_bd (d := b - a) (by omega) (by omega)
  generalize farI (b - a) = f at *
  rcases Int.le_total 0 f with c | c
  · have := almost c hF.2 hW
    omega
  · have hc : Bd (WZ (-f) - one) (1 / 2 ^ 18) := by
      have t := hW.conj
      have e : (WZ f - one).conj = WZ (-f) - one := by
        rw [WZ_neg]; apply cx_eq; simp only [conj_re, conj_im, sub_re, sub_im, one_re, one_im]; constructor <;> grind
      rwa [e] at t
    have := almost (n := -f) (by omega) (by omega) hc
    omega
end Go.Tr
end
