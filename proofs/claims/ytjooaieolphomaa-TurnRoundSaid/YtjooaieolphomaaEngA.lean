/-
  A symbolic executor, part A: expressions, their meaning, their bounds. No program.
-/
import Derived.Orders
import Derived.Laws.World
set_option linter.unusedVariables false
set_option linter.unusedSimpArgs false
namespace Go.Eng

inductive BO where
  | add | sub | mul | quo | rem | and | or | xor | andNot | shl | shr | min | max | eq | ne | lt | le | padd | psub | pmul
  deriving DecidableEq

inductive E where
  | c (n : Int)
  | v (i : Nat)
  | b (o : BO) (k : IntKind) (x y : E)
  | w (k : IntKind) (x : E)
  | nt (x : E)
  | ite (t x y : E)
  | f (n : Nat) (x y z : E)
  | cl (i : Nat) (l h : Int)
  deriving Inhabited

structure Env where
  i : Nat → Int
  f : Nat → Int → Int → Int → Int
  v : Nat → Value

/-- cut to bounds -/
def clampZ (l h x : Int) : Int := if x < l then l else if h < x then h else x
theorem clampZ_in {l h x : Int} (h1 : l ≤ x) (h2 : x ≤ h) : clampZ l h x = x := by unfold clampZ; rw [if_neg (by omega), if_neg (by omega)]
theorem clampZ_bd {l h : Int} (hl : l ≤ h) (x : Int) : l ≤ clampZ l h x ∧ clampZ l h x ≤ h := by unfold clampZ; split <;> (try split) <;> omega

def bool01 (b : Bool) : Int := if b then 1 else 0

def BO.ev (o : BO) (k : IntKind) (x y : Int) : Int :=
  match o with
  | .add => k.wrap (x + y)
  | .sub => k.wrap (x - y)
  | .mul => k.wrap (x * y)
  | .quo => k.wrap (x.tdiv y)
  | .rem => x.tmod y
  | .and => k.wrap (BitVec.ofInt k.bits x &&& BitVec.ofInt k.bits y).toNat
  | .or => k.wrap (BitVec.ofInt k.bits x ||| BitVec.ofInt k.bits y).toNat
  | .xor => k.wrap (BitVec.ofInt k.bits x ^^^ BitVec.ofInt k.bits y).toNat
  | .andNot => k.wrap (BitVec.ofInt k.bits x &&& ~~~(BitVec.ofInt k.bits y)).toNat
  | .shl => k.wrap (x * 2 ^ (Nat.min y.toNat k.bits))
  | .shr => x.fdiv (2 ^ (Nat.min y.toNat k.bits))
  | .min => if y < x then y else x
  | .max => if y > x then y else x
  | .eq => bool01 (x == y)
  | .ne => bool01 (x != y)
  | .lt => bool01 (decide (x < y))
  | .le => bool01 (decide (x ≤ y))
  | .padd => x + y
  | .psub => x - y
  | .pmul => x * y

def E.ev (ρ : Env) : E → Int
  | .c n => n
  | .v i => ρ.i i
  | .b o k x y => o.ev k (x.ev ρ) (y.ev ρ)
  | .w k x => k.wrap (x.ev ρ)
  | .nt x => bool01 (x.ev ρ == 0)
  | .ite t x y => if t.ev ρ ≠ 0 then x.ev ρ else y.ev ρ
  | .f n x y z => ρ.f n (x.ev ρ) (y.ev ρ) (z.ev ρ)
  | .cl i l h => clampZ l h (ρ.i i)

def E.beq : E → E → Bool
  | .c n, .c m => n == m
  | .v i, .v j => i == j
  | .b o k x y, .b o' k' x' y' => decide (o = o') && decide (k = k') && x.beq x' && y.beq y'
  | .w k x, .w k' x' => decide (k = k') && x.beq x'
  | .nt x, .nt x' => x.beq x'
  | .ite t x y, .ite t' x' y' => t.beq t' && x.beq x' && y.beq y'
  | .f n x y z, .f n' x' y' z' => n == n' && x.beq x' && y.beq y' && z.beq z'
  | .cl i l h, .cl i' l' h' => i == i' && l == l' && h == h'
  | _, _ => false

theorem E.eq_of_beq : ∀ {x y : E}, x.beq y = true → x = y := by
  intro x
  induction x with
  | c n => intro y h; cases y <;> simp_all [E.beq]
  | v n => intro y h; cases y <;> simp_all [E.beq]
  | b o k x y hx hy => intro z h; cases z <;> simp_all [E.beq]; exact ⟨hx h.1.2, hy h.2⟩
  | w k x hx => intro z h; cases z <;> simp_all [E.beq]; exact hx h.2
  | nt x hx => intro z h; cases z <;> simp_all [E.beq]; exact hx h
  | ite t x y ht hx hy => intro z h; cases z <;> simp_all [E.beq]; exact ⟨ht h.1.1, hx h.1.2, hy h.2⟩
  | f n x y z hx hy hz => intro u h; cases u <;> simp_all [E.beq]; exact ⟨hx h.1.1.2, hy h.1.2, hz h.2⟩
  | cl i l h => intro y h; cases y <;> simp_all [E.beq]

/-! ### bounds -/

def klo : IntKind → Int
  | .i8 => -128 | .i16 => -32768 | .i32 => -2147483648 | .i64 => -9223372036854775808 | _ => 0
def khi : IntKind → Int
  | .i8 => 127 | .i16 => 32767 | .i32 => 2147483647 | .i64 => 9223372036854775807
  | .u8 => 255 | .u16 => 65535 | .u32 => 4294967295 | .u64 => 18446744073709551615

theorem wrap_bd (k : IntKind) (n : Int) : klo k ≤ k.wrap n ∧ k.wrap n ≤ khi k := by
  cases k <;> simp [klo, khi, IntKind.wrap, IntKind.bits, IntKind.signed] <;> (try split) <;> omega

theorem wrap_in (k : IntKind) (n : Int) (h1 : klo k ≤ n) (h2 : n ≤ khi k) : k.wrap n = n := by
  cases k <;> simp [klo, khi, IntKind.wrap, IntKind.bits, IntKind.signed] at * <;> (try split) <;> omega

structure Cx where
  P : Program
  Γ : List (Int × Int)
  Φ : Nat → Option (Int × Int)
  F : Nat → Int → Int → Int → Int := fun _ _ _ _ => 0
  und : TypeId → Option TypeDesc := P.underlying
  inf : TypeId → Option TypeInfo := P.info?
  fn : FuncId → Option Func := fun f => P.funcs[f]?
  sh : Nat := 0
  undOk : ∀ t d, und t = some d → P.underlying t = some d := by exact fun _ _ h => h
  infOk : ∀ t i, inf t = some i → P.info? t = some i := by exact fun _ _ h => h
  fnOk : ∀ f g, fn f = some g → P.funcs[f]? = some g := by exact fun _ _ h => h

structure EnvOk (cx : Cx) (ρ : Env) : Prop where
  hi : ∀ i p, cx.Γ[i]? = some p → p.1 ≤ ρ.i i ∧ ρ.i i ≤ p.2
  hf : ∀ n p x y z, cx.Φ n = some p → p.1 ≤ ρ.f n x y z ∧ ρ.f n x y z ≤ p.2
  hv : ∀ i, ∃ a, ρ.v i = .pointer (some a)
  hF : ρ.f = cx.F

abbrev Iv := Option (Int × Int)
def inIv (x : Int) : Iv → Prop
  | none => True
  | some p => p.1 ≤ x ∧ x ≤ p.2

def kiv (k : IntKind) : Iv := some (klo k, khi k)
/-- the bounds of a wrapped number -/
def wiv (k : IntKind) (l h : Int) : Iv := if klo k ≤ l && h ≤ khi k then some (l, h) else kiv k

theorem wiv_ok {k : IntKind} {l h x : Int} (hx : l ≤ x ∧ x ≤ h) : inIv (k.wrap x) (wiv k l h) := by
  unfold wiv
  split
  · rename_i hc
    simp at hc
    rw [wrap_in k x (by omega) (by omega)]
    exact hx
  · exact wrap_bd k x

def iabs (x : Int) : Int := if x < 0 then -x else x
def imax (x y : Int) : Int := if x < y then y else x
def imin (x y : Int) : Int := if x < y then x else y

def mulIv (p q : Int × Int) : Int × Int :=
  if 0 ≤ p.1 && 0 ≤ q.1 then (p.1 * q.1, p.2 * q.2)
  else
    let m := imax (iabs p.1) (iabs p.2) * imax (iabs q.1) (iabs q.2)
    (-m, m)

theorem mulIv_ok {p q : Int × Int} {x y : Int} (hx : p.1 ≤ x ∧ x ≤ p.2) (hy : q.1 ≤ y ∧ y ≤ q.2) : (mulIv p q).1 ≤ x * y ∧ x * y ≤ (mulIv p q).2 := by
  unfold mulIv
  split
  · rename_i h
    simp at h
    exact ⟨Int.mul_le_mul hx.1 hy.1 h.2 (by omega), Int.mul_le_mul hx.2 hy.2 (by omega) (by omega)⟩
  · have ha : (x.natAbs : Int) ≤ imax (iabs p.1) (iabs p.2) := by
      unfold imax iabs; split <;> split <;> split <;> omega
    have hb : (y.natAbs : Int) ≤ imax (iabs q.1) (iabs q.2) := by
      unfold imax iabs; split <;> split <;> split <;> omega
    have hm : ((x * y).natAbs : Int) ≤ imax (iabs p.1) (iabs p.2) * imax (iabs q.1) (iabs q.2) := by
      rw [Int.natAbs_mul, Int.natCast_mul]
      exact Int.mul_le_mul ha hb (by omega) (by omega)
    simp only
    omega

def BO.iv (o : BO) (k : IntKind) (p q : Iv) : Iv :=
  match o, p, q with
  | .add, some p, some q => wiv k (p.1 + q.1) (p.2 + q.2)
  | .sub, some p, some q => wiv k (p.1 - q.2) (p.2 - q.1)
  | .mul, some p, some q => wiv k (mulIv p q).1 (mulIv p q).2
  | .rem, some p, some q =>
    if 1 ≤ q.1 then (if 0 ≤ p.1 then some (0, imin p.2 (q.2 - 1)) else some (-(q.2 - 1), q.2 - 1)) else if 0 ≤ p.1 then some (0, p.2) else none
  | .rem, _, _ => none
  | .and, some p, some q => if 0 ≤ q.1 && q.2 ≤ khi k then some (0, q.2) else if 0 ≤ p.1 && p.2 ≤ khi k then some (0, p.2) else kiv k
  | .and, some p, none => if 0 ≤ p.1 && p.2 ≤ khi k then some (0, p.2) else kiv k
  | .and, none, some q => if 0 ≤ q.1 && q.2 ≤ khi k then some (0, q.2) else kiv k
  | .shl, some p, some q => if 0 ≤ q.1 && q.1 == q.2 && q.1 ≤ 64 then wiv k (p.1 * 2 ^ (Nat.min q.1.toNat k.bits)) (p.2 * 2 ^ (Nat.min q.1.toNat k.bits)) else kiv k
  | .shr, some p, some q => if 0 ≤ q.1 && q.1 == q.2 && q.1 ≤ 64 then some (p.1.fdiv (2 ^ (Nat.min q.1.toNat k.bits)), p.2.fdiv (2 ^ (Nat.min q.1.toNat k.bits))) else some (imin p.1 0, imax p.2 0)
  | .shr, some p, none => some (imin p.1 0, imax p.2 0)
  | .shr, none, _ => none
  | .min, some p, some q => some (imin p.1 q.1, imin p.2 q.2)
  | .max, some p, some q => some (imax p.1 q.1, imax p.2 q.2)
  | .min, _, _ | .max, _, _ => none
  | .eq, _, _ | .ne, _, _ | .lt, _, _ | .le, _, _ => some (0, 1)
  | .padd, some p, some q => some (p.1 + q.1, p.2 + q.2)
  | .psub, some p, some q => some (p.1 - q.2, p.2 - q.1)
  | .pmul, some p, some q => some (mulIv p q)
  | .padd, _, _ | .psub, _, _ | .pmul, _, _ => none
  | .quo, some p, some q => if 0 ≤ p.1 && 1 ≤ q.1 then wiv k 0 p.2 else kiv k
  | _, _, _ => kiv k

theorem bool01_bd (b : Bool) : 0 ≤ bool01 b ∧ bool01 b ≤ 1 := by cases b <;> simp [bool01]

theorem kiv_wrap (k : IntKind) (n : Int) : inIv (k.wrap n) (kiv k) := wrap_bd k n

theorem ofInt_small {k : IntKind} {y : Int} (h0 : 0 ≤ y) (h1 : y ≤ khi k) : ((BitVec.ofInt k.bits y).toNat : Int) = y := by
  obtain ⟨m, rfl⟩ := Int.eq_ofNat_of_zero_le h0
  rw [BitVec.ofInt_natCast, BitVec.toNat_ofNat, Nat.mod_eq_of_lt]
  cases k <;> simp [khi, IntKind.bits] at * <;> omega

theorem and_bd_r {k : IntKind} {x y : Int} (h0 : 0 ≤ y) (h1 : y ≤ khi k) :
    0 ≤ k.wrap (BitVec.ofInt k.bits x &&& BitVec.ofInt k.bits y).toNat ∧ k.wrap (BitVec.ofInt k.bits x &&& BitVec.ofInt k.bits y).toNat ≤ y := by
  have h := ofInt_small h0 h1
  have h2 : ((BitVec.ofInt k.bits x &&& BitVec.ofInt k.bits y).toNat : Int) ≤ y := by
    have h3 : (BitVec.ofInt k.bits x &&& BitVec.ofInt k.bits y).toNat ≤ (BitVec.ofInt k.bits y).toNat := by
      rw [BitVec.toNat_and]; exact Nat.and_le_right
    omega
  rw [wrap_in k _ (by have : klo k ≤ 0 := by cases k <;> simp [klo]
                      omega) (by omega)]
  omega

theorem and_bd_l {k : IntKind} {x y : Int} (h0 : 0 ≤ x) (h1 : x ≤ khi k) :
    0 ≤ k.wrap (BitVec.ofInt k.bits x &&& BitVec.ofInt k.bits y).toNat ∧ k.wrap (BitVec.ofInt k.bits x &&& BitVec.ofInt k.bits y).toNat ≤ x := by
  rw [BitVec.and_comm]
  exact and_bd_r h0 h1

theorem fdiv_pow_mono {x y : Int} (n : Nat) (h : x ≤ y) : x.fdiv (2 ^ n) ≤ y.fdiv (2 ^ n) := by
  rw [Int.fdiv_eq_ediv_of_nonneg _ (Int.le_of_lt (Int.pow_pos (by decide))), Int.fdiv_eq_ediv_of_nonneg _ (Int.le_of_lt (Int.pow_pos (by decide)))]
  exact Int.ediv_le_ediv (Int.pow_pos (by decide)) h

theorem fdiv_pow_bd {x : Int} (n : Nat) : imin x 0 ≤ x.fdiv (2 ^ n) ∧ x.fdiv (2 ^ n) ≤ imax x 0 := by
  have hp : (0 : Int) < 2 ^ n := Int.pow_pos (by decide)
  rw [Int.fdiv_eq_ediv_of_nonneg _ (Int.le_of_lt hp)]
  generalize (2 : Int) ^ n = m at hp
  have h1 := Int.mul_ediv_add_emod x m
  have h2 := Int.emod_nonneg x (by omega : m ≠ 0)
  have h3 := Int.emod_lt_of_pos x hp
  unfold imin imax
  rcases Int.lt_or_le x 0 with hx | hx
  · rw [if_pos hx, if_pos hx]
    refine ⟨?_, by
      have : x / m < 0 := Int.ediv_neg_of_neg_of_pos hx hp
      omega⟩
    have := Int.le_ediv_of_mul_le hp (a := x) (b := x) (by
      have : x * m ≤ x * 1 := Int.mul_le_mul_of_nonpos_left (by omega) (by omega)
      omega)
    exact this
  · rw [if_neg (by omega), if_neg (by omega)]
    exact ⟨Int.ediv_nonneg hx (by omega), Int.ediv_le_self _ hx⟩

theorem tmod_abs_le (x y : Int) : ((x.tmod y).natAbs : Int) ≤ x.natAbs := by
  rw [Int.natAbs_tmod]
  exact Int.ofNat_le.2 (Nat.mod_le _ _)

theorem BO.iv_ok (o : BO) (k : IntKind) {x y : Int} {p q : Iv} (hx : inIv x p) (hy : inIv y q) : inIv (o.ev k x y) (o.iv k p q) := by
  cases o <;> rcases p with _ | p <;> rcases q with _ | q <;> simp only [BO.iv, BO.ev] <;> first | trivial | exact kiv_wrap _ _ | exact bool01_bd _ | skip
  case add => simp only [inIv] at hx hy; exact wiv_ok ⟨by omega, by omega⟩
  case sub => simp only [inIv] at hx hy; exact wiv_ok ⟨by omega, by omega⟩
  case mul => exact wiv_ok (mulIv_ok hx hy)
  case quo =>
    simp only [inIv] at hx hy
    split
    · rename_i h
      simp at h
      rw [Int.tdiv_eq_ediv_of_nonneg (by omega)]
      exact wiv_ok ⟨Int.ediv_nonneg (by omega) (by omega), by have := Int.ediv_le_self y (a := x) (by omega); omega⟩
    · exact kiv_wrap _ _
  case rem =>
    simp only [inIv] at hx hy
    split
    · rename_i h1
      have hy0 : 0 < y := by omega
      split
      · rw [Int.tmod_eq_emod_of_nonneg (by omega)]
        have a1 := Int.emod_nonneg x (by omega : y ≠ 0)
        have a2 := Int.emod_lt_of_pos x hy0
        have a3 : x % y ≤ x := by
          have := Int.mul_ediv_add_emod x y
          have : 0 ≤ y * (x / y) := Int.mul_nonneg (by omega) (Int.ediv_nonneg (by omega) (by omega))
          omega
        simp only [inIv, imin]
        split <;> omega
      · have : ((x.tmod y).natAbs : Int) < y := by
          rw [Int.natAbs_tmod]
          have := Nat.mod_lt x.natAbs (y := y.natAbs) (by omega)
          omega
        simp only [inIv]
        omega
    · split
      · have := tmod_abs_le x y
        have h0 := Int.tmod_nonneg y (a := x) (by omega)
        simp only [inIv]
        omega
      · trivial
  case and.none.some =>
    split
    · rename_i h; simp at h; simp only [inIv] at hy
      have := and_bd_r (k := k) (x := x) (y := y) (by omega) (by omega)
      simp only [inIv]; omega
    · exact kiv_wrap _ _
  case and.some.none =>
    split
    · rename_i h; simp at h; simp only [inIv] at hx
      have := and_bd_l (k := k) (x := x) (y := y) (by omega) (by omega)
      simp only [inIv]; omega
    · exact kiv_wrap _ _
  case and.some.some =>
    simp only [inIv] at hx hy
    split
    · rename_i h; simp at h
      have := and_bd_r (k := k) (x := x) (y := y) (by omega) (by omega)
      simp only [inIv]; omega
    · split
      · rename_i h; simp at h
        have := and_bd_l (k := k) (x := x) (y := y) (by omega) (by omega)
        simp only [inIv]; omega
      · exact kiv_wrap _ _
  case shl =>
    simp only [inIv] at hx hy
    split
    · rename_i h
      simp at h
      have hyy : y = q.1 := by omega
      subst hyy
      have hp : (0 : Int) ≤ 2 ^ (Nat.min q.1.toNat k.bits) := Int.le_of_lt (Int.pow_pos (by decide))
      exact wiv_ok ⟨Int.mul_le_mul_of_nonneg_right hx.1 hp, Int.mul_le_mul_of_nonneg_right hx.2 hp⟩
    · exact kiv_wrap _ _
  case shr.some.none =>
    simp only [inIv] at hx ⊢
    have := fdiv_pow_bd (x := x) (Nat.min y.toNat k.bits)
    unfold imin imax at *
    split at this <;> split <;> split <;> omega
  case shr.some.some =>
    simp only [inIv] at hx hy
    split
    · rename_i h
      simp at h
      have hyy : y = q.1 := by omega
      subst hyy
      exact ⟨fdiv_pow_mono _ hx.1, fdiv_pow_mono _ hx.2⟩
    · simp only [inIv]
      have := fdiv_pow_bd (x := x) (Nat.min y.toNat k.bits)
      unfold imin imax at *
      split at this <;> split <;> split <;> omega
  case min => simp only [inIv, imin] at *; split <;> split <;> split <;> omega
  case max => simp only [inIv, imax] at *; split <;> split <;> split <;> omega
  case padd => simp only [inIv] at *; omega
  case psub => simp only [inIv] at *; omega
  case pmul => exact mulIv_ok hx hy

def E.iv (cx : Cx) : E → Iv
  | .c n => some (n, n)
  | .v i => cx.Γ[i]?
  | .b o k x y => o.iv k (x.iv cx) (y.iv cx)
  | .w k x => match x.iv cx with
    | some p => wiv k p.1 p.2
    | none => kiv k
  | .nt _ => some (0, 1)
  | .ite _ x y => match x.iv cx, y.iv cx with
    | some p, some q => some (imin p.1 q.1, imax p.2 q.2)
    | _, _ => none
  | .f n _ _ _ => cx.Φ n
  | .cl _ l h => if l ≤ h then some (l, h) else none

theorem E.iv_ok {cx : Cx} {ρ : Env} (hρ : EnvOk cx ρ) (e : E) : inIv (e.ev ρ) (e.iv cx) := by
  induction e with
  | c n => exact ⟨Int.le_refl _, Int.le_refl _⟩
  | v i =>
    simp only [E.iv, E.ev]
    cases h : cx.Γ[i]? with
    | none => trivial
    | some p => exact hρ.hi i p h
  | b o k x y hx hy => exact BO.iv_ok o k hx hy
  | w k x hx =>
    simp only [E.iv, E.ev]
    split
    · rename_i p h; rw [h] at hx; exact wiv_ok hx
    · exact kiv_wrap _ _
  | nt x _ => exact bool01_bd _
  | ite t x y _ hx hy =>
    simp only [E.iv, E.ev]
    cases h1 : x.iv cx with
    | none => split <;> trivial
    | some p =>
      cases h2 : y.iv cx with
      | none => split <;> trivial
      | some q =>
        rw [h1] at hx; rw [h2] at hy
        simp only [inIv, imin, imax] at *
        split <;> split <;> split <;> omega
  | f n x y z _ _ _ =>
    simp only [E.iv, E.ev]
    cases h : cx.Φ n with
    | none => trivial
    | some p => exact hρ.hf n p _ _ _ h
  | cl i l h =>
    simp only [E.iv, E.ev]
    split
    · rename_i hl; exact clampZ_bd hl _
    · trivial

/-! ### expressions made -/

def ivIn (p : Iv) (l h : Int) : Bool :=
  match p with
  | some p => decide (l ≤ p.1) && decide (p.2 ≤ h)
  | none => false

theorem ivIn_ok {p : Iv} {l h x : Int} (hi : ivIn p l h = true) (hx : inIv x p) : l ≤ x ∧ x ≤ h := by
  cases p with
  | none => simp [ivIn] at hi
  | some p => simp [ivIn, inIv] at *; omega

def E.w' (cx : Cx) (k : IntKind) (x : E) : E :=
  match x with
  | .c n => .c (k.wrap n)
  | .w k' y => if ivIn ((E.w k' y).iv cx) (klo k) (khi k) then .w k' y
    else if k.bits ≤ k'.bits then (if ivIn (y.iv cx) (klo k) (khi k) then y else .w k y) else .w k (.w k' y)
  | x => if ivIn (x.iv cx) (klo k) (khi k) then x else .w k x

theorem wrap_wrap (k k' : IntKind) (n : Int) (h : k.bits ≤ k'.bits) : k.wrap (k'.wrap n) = k.wrap n := by
  cases k <;> cases k' <;> simp [IntKind.bits] at h <;> simp only [IntKind.wrap, IntKind.bits, IntKind.signed] <;> simp <;> (repeat' split) <;> omega

theorem E.w'_ev {cx : Cx} {ρ : Env} (hρ : EnvOk cx ρ) (k : IntKind) (x : E) : (E.w' cx k x).ev ρ = k.wrap (x.ev ρ) := by
  unfold E.w'
  split
  · rfl
  · rename_i k' y
    split
    · rename_i h
      obtain ⟨a, b⟩ := ivIn_ok h (E.iv_ok hρ (.w k' y))
      exact (wrap_in k _ a b).symm
    · split
      · rename_i hb
        simp only [E.ev, wrap_wrap k k' _ hb]
        split
        · rename_i h
          obtain ⟨a, b⟩ := ivIn_ok h (E.iv_ok hρ y)
          exact (wrap_in k _ a b).symm
        · rfl
      · rfl
  · split
    · rename_i h
      obtain ⟨a, b⟩ := ivIn_ok h (E.iv_ok hρ x)
      exact (wrap_in k _ a b).symm
    · rfl

def BO.plain : BO → Option BO
  | .add => some .padd
  | .sub => some .psub
  | .mul => some .pmul
  | _ => none

def cmpIv (o : BO) (p q : Iv) : Option Int :=
  match p, q with
  | some p, some q =>
    match o with
    | .lt => if p.2 < q.1 then some 1 else if q.2 ≤ p.1 then some 0 else none
    | .le => if p.2 ≤ q.1 then some 1 else if q.2 < p.1 then some 0 else none
    | .eq => if p.2 < q.1 || q.2 < p.1 then some 0 else none
    | .ne => if p.2 < q.1 || q.2 < p.1 then some 1 else none
    | _ => none
  | _, _ => none

theorem cmpIv_ok {o : BO} {k : IntKind} {p q : Iv} {x y n : Int} (h : cmpIv o p q = some n) (hx : inIv x p) (hy : inIv y q) : o.ev k x y = n := by
  unfold cmpIv at h
  split at h
  · rename_i p q
    simp only [inIv] at hx hy
    split at h
    · simp only [BO.ev]
      split at h
      · cases h; simp [bool01]; omega
      · split at h
        · cases h; simp [bool01]; omega
        · cases h
    · simp only [BO.ev]
      split at h
      · cases h; simp [bool01]; omega
      · split at h
        · cases h; simp [bool01]; omega
        · cases h
    · simp only [BO.ev]
      split at h
      · rename_i hh; simp at hh; cases h; simp [bool01]; omega
      · cases h
    · simp only [BO.ev]
      split at h
      · rename_i hh; simp at hh; cases h; simp [bool01]; omega
      · cases h
    · cases h
  · cases h

/-- a comparison does not hang on the kind -/
def BO.nk (o : BO) (k : IntKind) : IntKind :=
  match o with
  | .eq | .ne | .lt | .le | .min | .max | .rem => .i64
  | _ => k
theorem BO.nk_ev (o : BO) (k : IntKind) (x y : Int) : o.ev (o.nk k) x y = o.ev k x y := by cases o <;> rfl

/-- two that are one -/
def sameC (o : BO) (x y : E) : Option Int :=
  match o with
  | .eq | .le => if x.beq y then some 1 else none
  | .ne | .lt => if x.beq y then some 0 else none
  | _ => none
theorem sameC_ok {o : BO} {k : IntKind} {x y : E} {n : Int} (h : sameC o x y = some n) (ρ : Env) : o.ev k (x.ev ρ) (y.ev ρ) = n := by
  unfold sameC at h
  split at h
  all_goals
    first
    | (cases h; done)
    | (split at h
       · rename_i hb
         have := E.eq_of_beq hb
         subst this
         cases h
         simp [BO.ev, bool01]
       · cases h)

/-- the least and the greatest, where the bounds tell them -/
def mmIv (o : BO) (p q : Iv) : Option Bool :=
  match p, q with
  | some p, some q =>
    match o with
    | .min => if p.2 ≤ q.1 then some true else if q.2 ≤ p.1 then some false else none
    | .max => if q.2 ≤ p.1 then some true else if p.2 ≤ q.1 then some false else none
    | _ => none
  | _, _ => none
theorem mmIv_ok {o : BO} {k : IntKind} {p q : Iv} {x y : Int} {b : Bool} (h : mmIv o p q = some b) (hx : inIv x p) (hy : inIv y q) : (b = true → o.ev k x y = x) ∧ (b = false → o.ev k x y = y) := by
  unfold mmIv at h
  split at h
  · rename_i p q
    simp only [inIv] at hx hy
    split at h
    · simp only [BO.ev]
      split at h
      · cases h; refine ⟨fun _ => ?_, fun h => Bool.noConfusion h⟩; split <;> omega
      · split at h
        · cases h; refine ⟨fun h => Bool.noConfusion h, fun _ => ?_⟩; split <;> omega
        · cases h
    · simp only [BO.ev]
      split at h
      · cases h; refine ⟨fun _ => ?_, fun h => Bool.noConfusion h⟩; split <;> omega
      · split at h
        · cases h; refine ⟨fun h => Bool.noConfusion h, fun _ => ?_⟩; split <;> omega
        · cases h
    · cases h
  · cases h
/-- sums and products without wrapping, made simple -/
def E.pl (o : BO) (x y : E) : E :=
  match o, x, y with
  | .padd, .c 0, y => y
  | .padd, x, .c 0 => x
  | .padd, x, .b .psub _ (.c 0) y => .b .psub .i64 x y
  | .psub, x, .c 0 => x
  | .pmul, .c 1, y => y
  | .pmul, x, .c 1 => x
  | .pmul, .c 0, _ => .c 0
  | .pmul, _, .c 0 => .c 0
  | o, x, y => .b o .i64 x y
theorem E.pl_ev (o : BO) (x y : E) (ρ : Env) : (E.pl o x y).ev ρ = o.ev .i64 (x.ev ρ) (y.ev ρ) := by
  unfold E.pl
  split <;> simp only [E.ev, BO.ev] <;> omega

def E.b' (cx : Cx) (o : BO) (k : IntKind) (x y : E) : E :=
  match x, y with
  | .c n, .c m => .c (o.ev k n m)
  | x, y =>
    match o.plain with
    | some o' => E.w' cx k (E.pl o' x y)
    | none =>
      match cmpIv o (x.iv cx) (y.iv cx) with
      | some n => .c n
      | none =>
        match sameC o x y with
        | some n => .c n
        | none =>
          match mmIv o (x.iv cx) (y.iv cx) with
          | some true => x
          | some false => y
          | none =>
            match o with
            | .padd => E.pl .padd x y
            | .psub => E.pl .psub x y
            | .pmul => E.pl .pmul x y
            | o => .b o (o.nk k) x y

theorem E.b'_ev {cx : Cx} {ρ : Env} (hρ : EnvOk cx ρ) (o : BO) (k : IntKind) (x y : E) : (E.b' cx o k x y).ev ρ = o.ev k (x.ev ρ) (y.ev ρ) := by
  unfold E.b'
  split
  · rfl
  · split
    · rename_i o' ho
      rw [E.w'_ev hρ, E.pl_ev]
      cases o <;> simp [BO.plain] at ho <;> subst ho <;> rfl
    · split
      · rename_i n h
        exact (cmpIv_ok h (E.iv_ok hρ x) (E.iv_ok hρ y)).symm
      · split
        · rename_i n h
          exact (sameC_ok h ρ).symm
        · split
          · rename_i h; exact (mmIv_ok h (E.iv_ok hρ x) (E.iv_ok hρ y)).1 rfl |>.symm
          · rename_i h; exact (mmIv_ok h (E.iv_ok hρ x) (E.iv_ok hρ y)).2 rfl |>.symm
          · split
            · exact E.pl_ev _ _ _ _
            · exact E.pl_ev _ _ _ _
            · exact E.pl_ev _ _ _ _
            · exact BO.nk_ev _ k _ _

def E.nt' (x : E) : E :=
  match x with
  | .c n => .c (bool01 (n == 0))
  | .b .eq k a z => .b .ne k a z
  | .b .ne k a z => .b .eq k a z
  | .nt (.b o k a z) => if o = .eq ∨ o = .ne ∨ o = .lt ∨ o = .le then .b o k a z else .nt (.nt (.b o k a z))
  | x => .nt x

theorem bool01_nt (b : Bool) : bool01 (bool01 b == 0) = bool01 (!b) := by cases b <;> rfl

theorem E.nt'_ev (ρ : Env) (x : E) : (E.nt' x).ev ρ = bool01 (x.ev ρ == 0) := by
  unfold E.nt'
  split
  · rfl
  · simp only [E.ev, BO.ev, bool01_nt]; rfl
  · simp only [E.ev, BO.ev, bool01_nt]; simp [bne]
  · split
    · rename_i o _ _ _ h
      rcases h with rfl | rfl | rfl | rfl <;> simp only [E.ev, BO.ev, bool01_nt, Bool.not_not]
    · rfl
  · rfl

end Go.Eng
