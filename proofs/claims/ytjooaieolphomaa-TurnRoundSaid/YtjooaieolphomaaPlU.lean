/-
  Plain laws of numbers, part U: the references' shift with the sign, signs, flips.
-/
import Derived.Test.YtjooaieolphomaaPlT
set_option linter.unusedVariables false
set_option linter.unusedSimpArgs false
namespace Go.Eng

theorem mod_pos {x m : Int} (hm : 0 < m) : (if x.tmod m < 0 then x.tmod m + m else x.tmod m) = x % m := by
  rw [tmod_small hm]
  by_cases h0 : 0 ≤ x
  · have := Int.emod_nonneg x (by omega : m ≠ 0)
    rw [if_pos h0, if_neg (by omega)]
  · rw [if_neg h0]
    have h1 := Int.emod_nonneg (-x) (by omega : m ≠ 0)
    have h2 := Int.emod_lt_of_pos (-x) hm
    have h3 := Int.mul_ediv_add_emod (-x) m
    generalize (-x) % m = r at *
    generalize (-x) / m = q at *
    by_cases hr : r = 0
    · subst hr
      simp
      have : x = m * (-q) := by grind
      rw [this, Int.mul_emod_right]
    · rw [if_pos (by omega)]
      have : x = m * (-q - 1) + (m - r) := by grind
      rw [this, Int.mul_add_emod_self_left, Int.emod_eq_of_lt (by omega) (by omega)]
      omega

theorem exact_div {x m : Int} (hm : 0 < m) : (x - x % m).tdiv m = x / m := by
  have : x - x % m = m * (x / m) := by have := Int.mul_ediv_add_emod x m; omega
  rw [this, Int.mul_tdiv_cancel_left _ (by omega)]

/-- a shift by any amount, from its runs one by one, each one number -/
theorem shift_one {cx : Cx} {f : FuncId} {L : Nat → E} {res : SV} {cf : Nat → CF} (hF : cx.F = fN) (hcf : ∀ k, k ≤ 31 → CallOk { cx with Γ := gam } (cf k))
    (h : ∀ k, k ≤ 31 → oneIs (cf k f [.int .i32 (.v 0), .int .i32 (nE k)] ⟨[], []⟩) (.int .i32 (L k)) = true)
    (hres : ∀ (ρ : Env) (k : Nat), k ≤ 31 → ρ.f = fN → EnvOk { cx with Γ := gam } (envK ρ) → -2147483648 ≤ ρ.i 0 → ρ.i 0 ≤ 2147483647 → -2147483648 ≤ ρ.i 1 → ρ.i 1 ≤ 2147483647 → ρ.i 1 % 32 = k → Value.int .i32 ((L k).ev (envK ρ)) = res.den ρ (fun _ => (0, 0))) :
    TmplOk cx f none [.int .i32 (.v 0), .int .i32 (.v 1)] res := by
  intro ρ w hρ
  have hf : ρ.f = fN := hρ.hF.trans hF
  have h0 : -2147483648 ≤ ρ.i 0 ∧ ρ.i 0 ≤ 2147483647 := hρ.hi 0 _ rfl
  have h1 : -2147483648 ≤ ρ.i 1 ∧ ρ.i 1 ≤ 2147483647 := hρ.hi 1 _ rfl
  obtain ⟨k, hk⟩ : ∃ k : Nat, ρ.i 1 % 32 = k := ⟨(ρ.i 1 % 32).toNat, by omega⟩
  have hk31 : k ≤ 31 := by omega
  have hK : EnvOk { cx with Γ := gam } (envK ρ) := by
    refine ⟨fun i p hp => ?_, hρ.hf, hρ.hv, hρ.hF⟩
    match i with
    | 0 => cases hp; exact h0
    | 1 => cases hp; show -67108864 ≤ ρ.i 1 / 32 ∧ ρ.i 1 / 32 ≤ 67108863; omega
    | i + 2 => simp [gam] at hp
  have hone := h k hk31
  unfold oneIs at hone
  split at hone
  · rename_i v hv
    have hvv := SV.eq_of_beq _ _ hone
    have hg := T.one_gives (ρ := envK ρ) hv
    obtain ⟨u, s', hsel, hsc, hX⟩ := projV_sel hg
    have hargs : SV.denL ρ (fun _ => (0, 0)) (tArgs none [.int .i32 (.v 0), .int .i32 (.v 1)]) = SV.denL (envK ρ) (fun _ => (0, 0)) [.int .i32 (.v 0), .int .i32 (nE k)] := by
      simp only [tArgs, SV.denL, SV.den, E.ev, nE, BO.ev, envK]
      simp
      omega
    rw [hargs]
    refine (hcf k hk31 (envK ρ) _ _ _ w f _ _ hK (sat_nil _ (fun _ => (0, 0)) w) hsel).mono ?_
    rintro x w' ⟨β', rfl, _, hx⟩
    refine ⟨?_, below_ext rfl hx⟩
    rw [← hres ρ k hk31 hf hK h0.1 h0.2 h1.1 h1.2 hk]
    rw [SV.den_sc (n := 0) (fun j hj => by omega) u hsc, hX, hvv]
    rfl
  · cases hone

def sarR : SV := .int .i32 (.b .shr .i32 (.v 0) (.b .and .i32 (.v 1) (.c 31)))
def sarX (cx : Cx) (k : Nat) : E :=
  let m : E := .c (2 ^ k)
  let r := E.b' cx .rem .i64 (.v 0) m
  let fin (y : E) := E.w' cx .i32 (E.b' cx .quo .i64 (E.b' cx .sub .i64 (.v 0) y) m)
  match E.b' cx .lt .i64 r (.c 0) with
  | .c n => if n = 0 then fin r else fin (E.b' cx .add .i64 r m)
  | c => E.mix c (fin (E.b' cx .add .i64 r m)) (fin r)

theorem sar_res {cx : Cx} (ρ : Env) (k : Nat) (hk : k ≤ 31) (hf : ρ.f = fN) (hK : EnvOk cx (envK ρ)) (h0 : -2147483648 ≤ ρ.i 0) (h0' : ρ.i 0 ≤ 2147483647) (h1 : -2147483648 ≤ ρ.i 1) (h1' : ρ.i 1 ≤ 2147483647) (hm : ρ.i 1 % 32 = k) :
    Value.int .i32 ((sarX cx k).ev (envK ρ)) = sarR.den ρ (fun _ => (0, 0)) := by
  have hp : (0 : Int) < 2 ^ k := Int.pow_pos (by decide)
  have hp2 : (2 : Int) ^ k ≤ 2147483648 := (by decide : ∀ k : Fin 32, (2 : Int) ^ k.val ≤ 2147483648) ⟨k, by omega⟩
  have hb : band .i32 (ρ.i 1) 31 = k := (band31_mod h1 h1').trans hm
  have hR : sarR.den ρ (fun _ => (0, 0)) = Value.int .i32 (ρ.i 0 / 2 ^ k) := by
    show Value.int .i32 (shrZ .i32 (ρ.i 0) (band .i32 (ρ.i 1) 31)) = _
    rw [hb, shr_eq (by show k ≤ 32; omega)]
  rw [hR]
  have fin : ∀ y : E, y.ev (envK ρ) = ρ.i 0 % 2 ^ k → (E.w' cx .i32 (E.b' cx .quo .i64 (E.b' cx .sub .i64 (.v 0) y) (.c (2 ^ k)))).ev (envK ρ) = ρ.i 0 / 2 ^ k := by
    intro y hy
    rw [E.w'_ev hK, E.b'_ev hK, E.b'_ev hK, hy]
    show IntKind.wrap .i32 (IntKind.wrap .i64 ((IntKind.wrap .i64 (ρ.i 0 - ρ.i 0 % 2 ^ k)).tdiv (2 ^ k))) = _
    have e1 := Int.emod_nonneg (ρ.i 0) (show (2 : Int) ^ k ≠ 0 by omega)
    have e2 := Int.emod_lt_of_pos (ρ.i 0) hp
    rw [wrap_i64 (x := ρ.i 0 - ρ.i 0 % 2 ^ k) (by omega) (by omega), exact_div hp]
    have d1 : -2147483648 ≤ ρ.i 0 / 2 ^ k := Int.le_ediv_of_mul_le hp (by
      have := Int.mul_le_mul_of_nonneg_left (show (1 : Int) ≤ 2 ^ k by omega) (show (0 : Int) ≤ 2147483648 by decide)
      omega)
    have d2 : ρ.i 0 / 2 ^ k ≤ 2147483647 := by
      rcases Int.lt_or_le (ρ.i 0) 0 with hn | hn
      · have := Int.ediv_neg_of_neg_of_pos hn hp; omega
      · have := Int.ediv_le_self (2 ^ k) hn; omega
    rw [wrap_i64 (by omega) (by omega), wrap_i32 d1 d2]
  have hr : (E.b' cx .rem .i64 (.v 0) (.c (2 ^ k))).ev (envK ρ) = (ρ.i 0).tmod (2 ^ k) := by rw [E.b'_ev hK]; rfl
  have hc : (E.b' cx .lt .i64 (E.b' cx .rem .i64 (.v 0) (.c (2 ^ k))) (.c 0)).ev (envK ρ) = bool01 (decide ((ρ.i 0).tmod (2 ^ k) < 0)) := by
    rw [E.b'_ev hK]
    show bool01 (decide (_ < (0 : Int))) = _
    rw [hr]
  have hmod := mod_pos (x := ρ.i 0) hp
  have ha : (E.b' cx .add .i64 (E.b' cx .rem .i64 (.v 0) (.c (2 ^ k))) (.c (2 ^ k))).ev (envK ρ) = (ρ.i 0).tmod (2 ^ k) + 2 ^ k := by
    rw [E.b'_ev hK, hr]
    show IntKind.wrap .i64 ((ρ.i 0).tmod (2 ^ k) + 2 ^ k) = _
    have t1 : ((ρ.i 0).tmod (2 ^ k)).natAbs ≤ (ρ.i 0).natAbs := by rw [Int.natAbs_tmod]; exact Nat.mod_le _ _
    exact wrap_i64 (by omega) (by omega)
  congr 1
  unfold sarX
  simp only
  split
  · rename_i n he
    rw [he] at hc
    simp only [E.ev] at hc
    by_cases hn : (ρ.i 0).tmod (2 ^ k) < 0
    · rw [if_neg (by rw [hc]; simp [bool01, hn])]
      refine fin _ ?_
      rw [ha, ← hmod, if_pos hn]
    · rw [if_pos (by rw [hc]; simp [bool01, hn])]
      refine fin _ ?_
      rw [hr, ← hmod, if_neg hn]
  · rw [E.mix_ev, hc]
    by_cases hn : (ρ.i 0).tmod (2 ^ k) < 0
    · rw [if_pos (by simp [bool01, hn])]
      refine fin _ ?_
      rw [ha, ← hmod, if_pos hn]
    · rw [if_neg (by simp [bool01, hn])]
      refine fin _ ?_
      rw [hr, ← hmod, if_neg hn]
end Go.Eng
