/-
  A symbolic executor, part M: contracts of functions, from a run or from elsewhere; the numbers' own functions.
-/
import Derived.Test.YtjooaieolphomaaEngL
import Derived.Lib.BitFns
set_option linter.unusedVariables false
set_option linter.unusedSimpArgs false
namespace Go.Eng
open Go.RowKit

/-! ### what stays as it was stays described -/

theorem sat_below {ρ : Env} {β : Nat → Nat × Nat} {s : St} {w w' : World} (hs : Sat ρ β s w) (h : Below w.heap.size w w') : Sat ρ β s w' := by
  refine ⟨fun j b hj => ?_, hs.inj, hs.kn⟩
  have := hs.blk j b hj
  cases b with
  | gone => trivial
  | cells l e o =>
    have hl : (β j).1 < w.heap.size := hs.lt ⟨l, e, o, hj⟩
    rw [h.block _ hl]
    exact this

theorem ext_below {β : Nat → Nat × Nat} {s : St} {w w' : World} (h : Below w.heap.size w w') : Ext s s β β w w' :=
  ⟨fun _ _ => rfl, fun _ _ h => h, fun j hj h => absurd (live_lt h) (by omega), h.size, fun b hb _ => h.block b hb, Nat.le_refl _, h.os, h.tape, h.output⟩

/-! ### a list of contracts: a function, and what it gives, where it is told -/

abbrev Told := List (FuncId × (List SV → Option SV))

def ToldOk (cx : Cx) (l : Told) : Prop :=
  ∀ f g, (f, g) ∈ l → ∀ (ρ : Env) (β : Nat → Nat × Nat) (w : World) (args : List SV) (v : SV), EnvOk cx ρ → g args = some v →
    Calls cx.P f (SV.denL ρ β args).toArray w fun e w' => e = .returned (v.den ρ β) ∧ Below w.heap.size w w'

def smOf : Told → SM
  | [], _, _, _ => none
  | (f', g) :: l, f, args, s => if f == f' then (match g args with
    | some v => some (ret s v)
    | none => smOf l f args s) else smOf l f args s

theorem smOf_ok {cx : Cx} : ∀ {l : Told}, ToldOk cx l → SmOk cx (smOf l)
  | [], _ => fun ρ β s s' w f args r v _ _ h _ => by cases h
  | (f', g) :: l, hl => by
    have ih : SmOk cx (smOf l) := smOf_ok fun f g hm => hl f g (List.mem_cons_of_mem _ hm)
    intro ρ β s s' w f args r v hρ hs h hsel
    simp only [smOf] at h
    split at h
    · rename_i hf
      have hf' : f = f' := by simpa using hf
      subst hf'
      cases hu : g args with
      | some u =>
        rw [hu] at h
        cases h
        cases hsel
        refine (hl f g List.mem_cons_self ρ β w args _ hρ hu).mono ?_
        rintro e w' ⟨rfl, hb⟩
        exact ⟨β, rfl, sat_below hs hb, ext_below hb⟩
      | none =>
        rw [hu] at h
        exact ih ρ β s s' w f args r v hρ hs h hsel
    · exact ih ρ β s s' w f args r v hρ hs h hsel

theorem told_nil (cx : Cx) : ToldOk cx [] := fun _ _ h => by cases h
theorem told_cons {cx : Cx} {f : FuncId} {g : List SV → Option SV} {l : Told}
    (h : ∀ (ρ : Env) (β : Nat → Nat × Nat) (w : World) (args : List SV) (v : SV), EnvOk cx ρ → g args = some v →
      Calls cx.P f (SV.denL ρ β args).toArray w fun e w' => e = .returned (v.den ρ β) ∧ Below w.heap.size w w') (hl : ToldOk cx l) : ToldOk cx ((f, g) :: l) := by
  intro f' g' hm
  rcases List.mem_cons.1 hm with h' | h'
  · cases h'; exact h
  · exact hl f' g' h'

theorem xok_none (cx : Cx) : XOk cx (fun _ _ => none) := fun _ _ _ _ _ _ _ h => by cases h

/-! ### the value of a run that leaves no memory -/

def T.gives (ρ : Env) (X : Value) : T SV → Prop
  | .leaf a => a.den ρ (fun _ => (0, 0)) = X
  | .br e t f => (e.ev ρ ≠ 0 → T.gives ρ X t) ∧ (e.ev ρ = 0 → T.gives ρ X f)
  | .bad _ => False
  | .new _ _ _ => False

def projV : R → T SV
  | .leaf (v, _) => if v.sc 0 then .leaf v else .bad 91
  | .br e t f => .br e (projV t) (projV f)
  | .bad n => .bad n
  | .new _ _ _ => .bad 92

theorem projV_sel {ρ : Env} {X : Value} : ∀ {r : R}, T.gives ρ X (projV r) → ∃ v s', r.sel ρ = some (v, s') ∧ v.sc 0 = true ∧ v.den ρ (fun _ => (0, 0)) = X
  | .leaf (v, s'), h => by
    simp only [projV] at h
    split at h
    · rename_i hv; exact ⟨v, s', rfl, hv, h⟩
    · cases h
  | .br c t f, h => by
    simp only [projV, T.gives] at h
    simp only [T.sel]
    split
    · rename_i hc; exact projV_sel (h.1 hc)
    · rename_i hc; exact projV_sel (h.2 (by simpa using hc))
  | .bad n, h => by cases h
  | .new _ _ _, h => by cases h

def T.beqV : T SV → T SV → Bool
  | .leaf a, .leaf b => a.beq b
  | .br e t f, .br e' t' f' => e.beq e' && T.beqV t t' && T.beqV f f'
  | .bad n, .bad m => n == m
  | _, _ => false
theorem T.eq_of_beqV : ∀ {x y : T SV}, T.beqV x y = true → x = y
  | .leaf a, .leaf b, h => by rw [SV.eq_of_beq _ _ h]
  | .br e t f, .br e' t' f', h => by
    simp only [T.beqV, Bool.and_eq_true] at h
    rw [E.eq_of_beq h.1.1, T.eq_of_beqV h.1.2, T.eq_of_beqV h.2]
  | .bad n, .bad m, h => by simp [T.beqV] at h; rw [h]
  | .leaf _, .br _ _ _, h => by cases h
  | .leaf _, .bad _, h => by cases h
  | .br _ _ _, .leaf _, h => by cases h
  | .br _ _ _, .bad _, h => by cases h
  | .bad _, .leaf _, h => by cases h
  | .bad _, .br _ _ _, h => by cases h
  | .new _ _ _, _, h => by simp [T.beqV] at h
  | .leaf _, .new _ _ _, h => by cases h
  | .br _ _ _, .new _ _ _, h => by cases h
  | .bad _, .new _ _ _, h => by cases h

theorem value_of {cx : Cx} {cf : CF} (hcf : CallOk cx cf) {ρ : Env} (hρ : EnvOk cx ρ) {f : FuncId} {args : List SV} {t : T SV} (ht : T.beqV (projV (cf f args ⟨[], []⟩)) t = true) {X : Value} (hh : T.gives ρ X t)
    {vs : Array Value} (hv : vs = (SV.denL ρ (fun _ => (0, 0)) args).toArray) (w : World) :
    Calls cx.P f vs w fun e w' => e = .returned X ∧ Below w.heap.size w w' := by
  subst hv
  have ht := T.eq_of_beqV ht
  subst ht
  obtain ⟨v, s', hsel, hsc, hX⟩ := projV_sel hh
  refine (hcf ρ _ _ _ w f args _ hρ (sat_nil ρ (fun _ => (0, 0)) w) hsel).mono ?_
  rintro x w' ⟨β', rfl, _, hx⟩
  refine ⟨?_, below_ext rfl hx⟩
  rw [← hX, SV.den_sc (n := 0) (fun j hj => by omega) v hsc]

theorem truth_of {cx : Cx} {cf : CF} (hcf : CallOk cx cf) {ρ : Env} (hρ : EnvOk cx ρ) {f : FuncId} {args : List SV} {t : T E} (ht : T.beq (projB (cf f args ⟨[], []⟩)) t = true) (hh : T.holds ρ t)
    (hfine : (Nat.ble cx.Γ.length 1000 && T.fine 1000 t && SV.vbL 1000 args) = true)
    {vs : Array Value} (hv : vs = (SV.denL ρ (fun _ => (0, 0)) args).toArray) (w : World) :
    Calls cx.P f vs w fun e w' => e = .returned (.bool true) ∧ Below w.heap.size w w' :=
  true_of hcf hρ (T.eq_of_beq ht) hh hfine hv w

/-! ### the numbers' functions -/

/-- how many bits a number of 32 bits has, without its leading noughts -/
def blen (x : Int) : Int := (Lib.bitLen (x % 4294967296).toNat : Int)

/-- two numbers at once: a round product -/
def mulqZ (x y : Int) : Int :=
  BO.ev .min .i64 (BO.ev .max .i64 (BO.ev .padd .i64 (BO.ev .shr .i64 (x * y) 30) (BO.ev .and .i64 (BO.ev .shr .i64 (x * y) 29) 1)) (-2147483648)) 2147483647

theorem sat_bd (k : IntKind) (m : Int) : -2147483648 ≤ BO.ev .min k (BO.ev .max k m (-2147483648)) 2147483647 ∧ BO.ev .min k (BO.ev .max k m (-2147483648)) 2147483647 ≤ 2147483647 := by
  simp only [BO.ev]
  constructor <;> split <;> (try split) <;> omega
theorem mulqZ_bd (x y : Int) : -2147483648 ≤ mulqZ x y ∧ mulqZ x y ≤ 2147483647 := sat_bd _ _

/-- a bit of a word -/
def bitZ (x i : Int) : Int := x % 4294967296 / 2 ^ i.toNat % 2
theorem bitZ_bd (x i : Int) : 0 ≤ bitZ x i ∧ bitZ x i ≤ 1 := by unfold bitZ; omega

def fN (n : Nat) (x y z : Int) : Int :=
  match n with
  | 0 => blen x
  | 1 => mulqZ x y
  | 2 => bitZ x y
  | _ => 0
def phiN (n : Nat) : Option (Int × Int) :=
  match n with
  | 0 => some (0, 32)
  | 1 => some (-2147483648, 2147483647)
  | 2 => some (0, 1)
  | _ => none

theorem bitLen_le : ∀ (k x : Nat), k ≤ 64 → x < 2 ^ k → Lib.bitLen x ≤ k
  | 0, x, _, h => by
    have : x = 0 := by simpa using h
    subst this
    decide
  | k + 1, x, hk, h => by
    rcases Nat.eq_zero_or_pos x with h0 | h0
    · subst h0; exact Nat.le_trans (by decide) (Nat.zero_le _)
    · rw [Lib.bitLen_half x (by omega) (Nat.lt_of_lt_of_le h (Nat.pow_le_pow_right (by omega) hk))]
      have := bitLen_le k (x / 2) (by omega) (by rw [Nat.pow_succ] at h; omega)
      omega

theorem bitLen_bd : ∀ (k x : Nat), k ≤ 63 → 2 ^ k ≤ x → x < 2 ^ (k + 1) → Lib.bitLen x = k + 1
  | 0, x, _, h, h2 => by
    have : x = 1 := by omega
    subst this
    decide
  | k + 1, x, hk, h, h2 => by
    have hx : x < 2 ^ 64 := Nat.lt_of_lt_of_le h2 (Nat.pow_le_pow_right (by omega) (by omega))
    have hp : 0 < 2 ^ k := Nat.two_pow_pos k
    rw [Nat.pow_succ] at h h2
    rw [Nat.pow_succ] at h2
    rw [Lib.bitLen_half x (by omega) hx, bitLen_bd k (x / 2) (by omega) (by omega) (by rw [Nat.pow_succ]; omega)]
    omega

theorem blen_bd (x : Int) : 0 ≤ blen x ∧ blen x ≤ 32 := by
  unfold blen
  have := bitLen_le 32 (x % 4294967296).toNat (by omega) (by omega)
  omega

theorem phiN_ok (n : Nat) (p : Int × Int) (x y z : Int) (h : phiN n = some p) : p.1 ≤ fN n x y z ∧ fN n x y z ≤ p.2 := by
  unfold phiN at h
  split at h <;> cases h
  · exact blen_bd x
  · exact mulqZ_bd x y
  · exact bitZ_bd x y

theorem blen_of {x : Int} (k : Nat) (hk : k ≤ 31) (h1 : 2 ^ k ≤ x) (h2 : x < 2 ^ (k + 1)) : blen x = (k : Int) + 1 := by
  have hle : (2 : Int) ^ (k + 1) ≤ 2 ^ 32 := by
    have : (2 : Nat) ^ (k + 1) ≤ 2 ^ 32 := Nat.pow_le_pow_right (by omega) (by omega)
    exact_mod_cast this
  have h0 : (0 : Int) < 2 ^ k := Int.pow_pos (by omega)
  have h3 : (2 : Int) ^ 32 = 4294967296 := by decide
  unfold blen
  rw [Int.emod_eq_of_lt (by omega) (by omega)]
  obtain ⟨m, rfl⟩ := Int.eq_ofNat_of_zero_le (show 0 ≤ x by omega)
  rw [Int.toNat_natCast, bitLen_bd k m (by omega) (by exact_mod_cast h1) (by exact_mod_cast h2)]
  rfl

/-- the case split on a positive number's bits -/
theorem blen_cases {x : Int} (h0 : 1 ≤ x) (h1 : x ≤ 4294967295) : ∃ k : Nat, k ≤ 31 ∧ (2 : Int) ^ k ≤ x ∧ x < 2 ^ (k + 1) ∧ blen x = k + 1 := by
  have hb : ∀ n : Nat, n ≤ 32 → x < 2 ^ n → ∃ k : Nat, k < n ∧ (2 : Int) ^ k ≤ x ∧ x < 2 ^ (k + 1) := by
    intro n
    induction n with
    | zero => intro _ h; simp at h; omega
    | succ n ih =>
      intro hn h
      rcases Int.lt_or_le x (2 ^ n) with h' | h'
      · obtain ⟨k, a, b⟩ := ih (by omega) h'
        exact ⟨k, by omega, b⟩
      · exact ⟨n, by omega, h', h⟩
  obtain ⟨k, hk, a, b⟩ := hb 32 (by omega) (by omega)
  exact ⟨k, by omega, a, b, blen_of k (by omega) a b⟩

/-- math/bits.Len32, of a number that is not known -/
def gLen (cx : Cx) : List SV → Option SV
  | [.int .u32 (.c _)] => none
  | [.int .u32 e] => if ivIn (e.iv cx) 0 4294967295 then some (.int .i64 (.f 0 e (.c 0) (.c 0))) else none
  | _ => none

theorem gLen_ok {cx : Cx} (hF : cx.F = fN) {f : FuncId} (h : ∀ (x : Int) (w : World), 0 ≤ x → x ≤ 4294967295 → Calls cx.P f #[.int .u32 x] w fun e w' => e = .returned (.int .i64 (Lib.bitLen x.toNat)) ∧ w' = w)
    (ρ : Env) (β : Nat → Nat × Nat) (w : World) (args : List SV) (v : SV) (hρ : EnvOk cx ρ) (hg : gLen cx args = some v) :
    Calls cx.P f (SV.denL ρ β args).toArray w fun e w' => e = .returned (v.den ρ β) ∧ Below w.heap.size w w' := by
  unfold gLen at hg
  split at hg
  · cases hg
  · rename_i e _
    split at hg
    · rename_i hi
      cases hg
      obtain ⟨a, b⟩ := ivIn_ok hi (E.iv_ok hρ e)
      refine (h (e.ev ρ) w a b).mono ?_
      rintro x w' ⟨rfl, rfl⟩
      refine ⟨?_, Below.refl _ _⟩
      simp only [SV.den, E.ev, hρ.hF, hF, fN, blen]
      rw [Int.emod_eq_of_lt a (by omega)]
    · cases hg
  · cases hg

end Go.Eng
