/-
  Plain laws of numbers, part T: the references' shifts and leading noughts, one amount at a time.
-/
import Derived.Test.YtjooaieolphomaaPlS
import Derived.Test.YtjooaieolphomaaPlC
set_option linter.unusedVariables false
set_option linter.unusedSimpArgs false
namespace Go.Eng

def mkClz : Nat → E
  | 0 => .c 32
  | j + 1 => .ite (.b .eq .i64 (bitE j) (.c 0)) (mkClz j) (.c (31 - (j : Int)))

theorem mkClz_ev {ρ : Env} (hf : ρ.f = fN) : ∀ (j : Nat), j ≤ 32 → ρ.i 0 % 4294967296 < 2 ^ j → (mkClz j).ev ρ = 32 - blen (ρ.i 0 % 4294967296)
  | 0, _, h => by
    have : ρ.i 0 % 4294967296 = 0 := by simp at h; omega
    rw [this]
    have : blen 0 = 0 := by decide
    rw [this]; rfl
  | j + 1, hj, h => by
    have hp : (0 : Int) < 2 ^ j := Int.pow_pos (by decide)
    simp only [mkClz, E.ev, BO.ev, bitE_ev hf]
    rcases Int.lt_or_le (ρ.i 0 % 4294967296) (2 ^ j) with h' | h'
    · have e : ρ.i 0 % 4294967296 / 2 ^ j = 0 := Int.ediv_eq_zero_of_lt (by omega) h'
      rw [e]
      simp only [bool01]
      simp
      exact mkClz_ev hf j (by omega) h'
    · have e : ρ.i 0 % 4294967296 / 2 ^ j = 1 := by
        have h1 : 1 ≤ ρ.i 0 % 4294967296 / 2 ^ j := Int.le_ediv_of_mul_le hp (by omega)
        have h2 : ρ.i 0 % 4294967296 / 2 ^ j < 2 := Int.ediv_lt_of_lt_mul hp (by rw [Int.pow_succ] at h; omega)
        omega
      rw [e]
      simp only [bool01]
      simp
      rw [blen_of j (by omega) h' h]
      omega

theorem clz_res {ρ : Env} (hf : ρ.f = fN) : (mkClz 32).ev ρ = 32 - blen (IntKind.wrap .u32 (ρ.i 0)) := by
  rw [wu32]
  refine mkClz_ev hf 32 (Nat.le_refl _) ?_
  have : (2 : Int) ^ 32 = 4294967296 := by decide
  omega

/-- n = 32 q + k -/
def nE (k : Nat) : E := .b .padd .i64 (.b .pmul .i64 (.c 32) (.v 1)) (.c k)
def gBy (k : Nat) : List SV → Option SV
  | [.int .i32 e] => if e.beq (nE k) then some (.int .i64 (.c k)) else none
  | _ => none
def gam : List (Int × Int) := [(-2147483648, 2147483647), (-67108864, 67108863)]
def isI32 (r : R) (e : E) : Bool := match r with
  | .leaf (.int .i32 e', _) => e'.beq e
  | _ => false

theorem isI32_sel {ρ : Env} {r : R} {e : E} (h : isI32 r e = true) : ∃ s', r.sel ρ = some (.int .i32 e, s') := by
  unfold isI32 at h
  split at h
  · rename_i e' s'
    have := E.eq_of_beq h
    subst this
    exact ⟨s', rfl⟩
  · cases h

/-- the env of one amount -/
def envK (ρ : Env) : Env := ⟨fun j => if j = 0 then ρ.i 0 else ρ.i 1 / 32, ρ.f, ρ.v⟩

/-- a shift by any amount, from its runs one by one -/
theorem shift_tmpl {cx : Cx} {f : FuncId} {L : Nat → E} {res : SV} {cf : Nat → CF} (hF : cx.F = fN) (hcf : ∀ k, k ≤ 31 → CallOk { cx with Γ := gam } (cf k))
    (h : ∀ k, k ≤ 31 → isI32 (cf k f [.int .i32 (.v 0), .int .i32 (nE k)] ⟨[], []⟩) (L k) = true)
    (hres : ∀ (ρ : Env) (k : Nat), k ≤ 31 → ρ.f = fN → EnvOk { cx with Γ := gam } (envK ρ) → -2147483648 ≤ ρ.i 0 → ρ.i 0 ≤ 2147483647 → -2147483648 ≤ ρ.i 1 → ρ.i 1 ≤ 2147483647 → ρ.i 1 % 32 = k → Value.int .i32 ((L k).ev (envK ρ)) = res.den ρ (fun _ => (0, 0))) :
    TmplOk cx f none [.int .i32 (.v 0), .int .i32 (.v 1)] res := by
  intro ρ w hρ
  have hf : ρ.f = fN := hρ.hF.trans hF
  have h0 : -2147483648 ≤ ρ.i 0 ∧ ρ.i 0 ≤ 2147483647 := hρ.hi 0 _ rfl
  have h1 : -2147483648 ≤ ρ.i 1 ∧ ρ.i 1 ≤ 2147483647 := hρ.hi 1 _ rfl
  obtain ⟨k, hk⟩ : ∃ k : Nat, ρ.i 1 % 32 = k := ⟨(ρ.i 1 % 32).toNat, by omega⟩
  have hk31 : k ≤ 31 := by omega
  have hK : EnvOk { cx with Γ := gam } (envK ρ) := by
    refine ⟨fun i p hp => ?_, hρ.hf, hρ.hv, hρ.hF⟩
    match i with
    | 0 => cases hp; exact h0
    | 1 => cases hp; show -67108864 ≤ ρ.i 1 / 32 ∧ ρ.i 1 / 32 ≤ 67108863; omega
    | i + 2 => simp [gam] at hp
  obtain ⟨s', hsel⟩ := isI32_sel (ρ := envK ρ) (h k hk31)
  have hargs : SV.denL ρ (fun _ => (0, 0)) (tArgs none [.int .i32 (.v 0), .int .i32 (.v 1)]) = SV.denL (envK ρ) (fun _ => (0, 0)) [.int .i32 (.v 0), .int .i32 (nE k)] := by
    simp only [tArgs, SV.denL, SV.den, E.ev, nE, BO.ev, envK]
    simp
    omega
  rw [hargs]
  refine (hcf k hk31 (envK ρ) _ _ _ w f _ _ hK (sat_nil _ (fun _ => (0, 0)) w) hsel).mono ?_
  rintro x w' ⟨β', rfl, _, hx⟩
  refine ⟨?_, below_ext rfl hx⟩
  rw [← hres ρ k hk31 hf hK h0.1 h0.2 h1.1 h1.2 hk]
  rfl

/-! ### what the shifts give -/

def shlR : SV := .int .i32 (.w .i32 (.b .shl .u32 (.w .u32 (.v 0)) (.b .and .i32 (.v 1) (.c 31))))
def shrR : SV := .int .i32 (.w .i32 (.b .shr .u32 (.w .u32 (.v 0)) (.b .and .i32 (.v 1) (.c 31))))

def shlX (cx : Cx) (k : Nat) : E := E.w' cx .i32 (horE cx (.c 0) (shlL k))
def shrX (cx : Cx) (k : Nat) : E := E.w' cx .i32 (horE cx (.c 0) (shrL k))

theorem hor_x {cx : Cx} {ρ : Env} (hρ : EnvOk cx ρ) (l : List E) (hb : ∀ e ∈ l, 0 ≤ e.ev ρ ∧ e.ev ρ ≤ 1) (hl : l.length = 32) : (E.w' cx .i32 (horE cx (.c 0) l)).ev ρ = IntKind.wrap .i32 (horZ 0 (l.map (E.ev ρ))) := by
  rw [E.w'_ev hρ, horE_ev hρ l (.c 0) 0 hb (by simp [E.ev]) (by simp [E.ev]) (by omega)]
  rfl

theorem shl_res {cx : Cx} (ρ : Env) (k : Nat) (hk : k ≤ 31) (hf : ρ.f = fN) (hK : EnvOk cx (envK ρ)) (h0 : -2147483648 ≤ ρ.i 0) (h0' : ρ.i 0 ≤ 2147483647) (h1 : -2147483648 ≤ ρ.i 1) (h1' : ρ.i 1 ≤ 2147483647) (hm : ρ.i 1 % 32 = k) :
    Value.int .i32 ((shlX cx k).ev (envK ρ)) = shlR.den ρ (fun _ => (0, 0)) := by
  unfold shlX shlR
  rw [hor_x hK _ (bits01 (ρ := envK ρ) hf k).1 (by simp [shlL]; omega), shlL_hor (ρ := envK ρ) hf hk]
  have hb : band .i32 (ρ.i 1) 31 = k := (band31_mod h1 h1').trans hm
  show Value.int .i32 _ = Value.int .i32 (IntKind.wrap .i32 (shlZ .u32 (IntKind.wrap .u32 (ρ.i 0)) (band .i32 (ρ.i 1) 31)))
  rw [hb, shl_eq (by show k ≤ 32; omega), wu32, wu32]
  show Value.int .i32 (IntKind.wrap .i32 (ρ.i 0 % 4294967296 % 2 ^ (32 - k) * 2 ^ k)) = _
  congr 2
  generalize ρ.i 0 % 4294967296 = y
  have e : (4294967296 : Int) = 2 ^ (32 - k) * 2 ^ k := by
    rw [← Int.pow_add, show 32 - k + k = 32 by omega]; decide
  rw [e, Int.mul_comm y, Int.mul_comm (2 ^ (32 - k)), Int.mul_emod_mul_of_pos _ _ (Int.pow_pos (by decide)), Int.mul_comm]

theorem shr_res {cx : Cx} (ρ : Env) (k : Nat) (hk : k ≤ 31) (hf : ρ.f = fN) (hK : EnvOk cx (envK ρ)) (h0 : -2147483648 ≤ ρ.i 0) (h0' : ρ.i 0 ≤ 2147483647) (h1 : -2147483648 ≤ ρ.i 1) (h1' : ρ.i 1 ≤ 2147483647) (hm : ρ.i 1 % 32 = k) :
    Value.int .i32 ((shrX cx k).ev (envK ρ)) = shrR.den ρ (fun _ => (0, 0)) := by
  unfold shrX shrR
  rw [hor_x hK _ (bits01 (ρ := envK ρ) hf k).2 (by simp [shrL]; omega), shrL_hor (ρ := envK ρ) hf hk]
  have hb : band .i32 (ρ.i 1) 31 = k := (band31_mod h1 h1').trans hm
  show Value.int .i32 _ = Value.int .i32 (IntKind.wrap .i32 (shrZ .u32 (IntKind.wrap .u32 (ρ.i 0)) (band .i32 (ρ.i 1) 31)))
  rw [hb, shr_eq (by show k ≤ 32; omega), wu32]
  rfl
end Go.Eng
