/-
  The reference's number of bits, and its turn round. Printed by program.
-/
import Derived.Test.YtjooaieolphomaaGreatDoorFmJ
import Derived.Test.YtjooaieolphomaaGreatDoorEu5
import Derived.Test.YtjooaieolphomaaGreatDoorEu4
set_option linter.unusedVariables false
set_option linter.unusedSimpArgs false
namespace Go.Proofs.YtjooaieolphomaaGreatDoor
open Go.Eng Go.RowKit
theorem bits_inv (a0 : Int) (h : a0 ≤ 9223372036854775807) (F : Int → Prop) (hF : F (bitsZ a0)) : ∃ I1000 : Int → Int → Nat → Prop, (∃ m, I1000 a0 0 m) ∧
 ∀ y1000 y1001 : Int, ∀ m1000, (((-9223372036854775808) ≤ y1000 ∧ y1000 ≤ 9223372036854775807) ∧ (0 ≤ y1001 ∧ y1001 ≤ 4611686018427387904) ∧ True) → I1000 y1000 y1001 m1000 →
  (((bool01 (decide (0 < y1000))) ≠ 0 →
   (((bool01 (decide ((y1001 + 1) ≤ 4611686018427387904))) ≠ 0 →
    ∃ m', m' < m1000 ∧ I1000 (BO.ev .quo .i64 y1000 2) (y1001 + 1) m') ∧ ((bool01 (decide ((y1001 + 1) ≤ 4611686018427387904))) = 0 →
    False))) ∧ ((bool01 (decide (0 < y1000))) = 0 →
   F y1001)) := by
  refine ⟨fun y k m => k + bitsZ y = bitsZ a0 ∧ m = y.toNat ∧ y ≤ 9223372036854775807 ∧ 0 ≤ k, ⟨a0.toNat, by omega, rfl, h, by omega⟩, ?_⟩
  rintro y k m ⟨⟨_, _⟩, ⟨_, _⟩, _⟩ ⟨hk, rfl, hu, h0⟩
  have hy := Int.natCast_nonneg (Lib.bitLen y.toNat)
  refine ⟨fun h1 => ?_, fun h1 => ?_⟩
  · have hpos : 0 < y := by simpa [bool01] using h1
    have hq : BO.ev .quo .i64 y 2 = y / 2 := by
      show IntKind.wrap .i64 (y.tdiv 2) = _
      rw [Int.tdiv_eq_ediv_of_nonneg (by omega)]
      exact wrap_i64 (by omega) (by omega)
    have hh := bitsZ_half hpos (by omega)
    have hn : 0 ≤ bitsZ (y / 2) := by unfold bitsZ; omega
    have hm : bitsZ a0 ≤ 64 := by unfold bitsZ; have := bitLen_le 64 a0.toNat (by omega) (by omega); omega
    refine ⟨fun _ => ⟨(y / 2).toNat, by omega, by rw [hq]; omega, by rw [hq], by rw [hq]; omega, by omega⟩, fun h2 => ?_⟩
    have : ¬ (k + 1 ≤ 4611686018427387904) := by simpa [bool01] using h2
    omega
  · have hn : y ≤ 0 := by simpa [bool01] using h1
    have : k = bitsZ a0 := by rw [bitsZ_neg hn] at hk; omega
    rw [this]; exact hF
def pjI : SV → St → Option (List E)
  | .int .i64 e, _ => some [e]
  | _, _ => none
def bitsTree : TT (List E) := (.loop ⟨1000, [some (-9223372036854775808, 9223372036854775807), some (0, 4611686018427387904)], [(.v 0), (.c 0)], 1003⟩
  (.br (.b .lt .i64 (.c 0) (.cl 1000 (-9223372036854775808) 9223372036854775807))
  (.br (.b .le .i64 (.b .padd .i64 (.cl 1001 0 4611686018427387904) (.c 1)) (.c 4611686018427387904))
  (.back [(.b .quo .i64 (.cl 1000 (-9223372036854775808) 9223372036854775807) (.c 2)), (.b .padd .i64 (.cl 1001 0 4611686018427387904) (.c 1))])
  (.bad 303))
  (.exit 0))
  (.leaf [(.cl 1001 0 4611686018427387904)]))
theorem bits_ran : TT.beq (projL pjI (runT smJ (fun _ _ => .auto) 0 (SV.bdsL [.int .i64 (.v 0)]) [] 24 [.int .i64 (.v 0)] ⟨[], []⟩)) bitsTree = true := by kernel_rfl
theorem bits_fine : (TT.fine (cxOf 0 (SV.bdsL [.int .i64 (.v 0)]) []) 1000 [] bitsTree && (cxOf 0 (SV.bdsL [.int .i64 (.v 0)]) []).okB 1000 && SV.vbL 1000 [.int .i64 (.v 0)] && TT.tidy (cxOf 0 (SV.bdsL [.int .i64 (.v 0)]) []) [] bitsTree) = true := by kernel_rfl
theorem bitsT0 : TmplOk (cxOf 0 [] []) 24 .none [.int .i64 (.v 0)] bitsR := by
  intro ρ w hρ hb
  have h0 : -9223372036854775808 ≤ ρ.i 0 ∧ ρ.i 0 ≤ 9223372036854775807 := hρ.hi 0 _ rfl
  have hE : EnvOk (cxOf 0 (SV.bdsL [.int .i64 (.v 0)]) []) (envR [ρ.i 0] []) := envR_ok (cx := cxOf 0 (SV.bdsL [.int .i64 (.v 0)]) []) rfl rfl (bnd_cons h0 (bnd_nil _)) trivial
  have hP := bits_inv (ρ.i 0) h0.2 (fun y => [y] = [bitsZ (ρ.i 0)]) rfl
  refine (run_of (runT_ok smJ_ok (fun _ _ => .auto) 0 (SV.bdsL [.int .i64 (.v 0)]) []) hE bits_ran (F := fun l => l = [bitsZ (ρ.i 0)]) bits_fine hP (w := w) (roOk_of trivial) rfl).mono ?_
  rintro e w' ⟨ρ', v, s', l, β', rfl, hl, hF, _, _, _, hx⟩
  refine ⟨?_, below_ext rfl hx⟩
  have : v.den ρ' β' = .int .i64 (bitsZ (ρ.i 0)) := by
    unfold pjI at hl
    split at hl
    · cases hl
      simp only [List.map_cons, List.map_nil, List.cons.injEq, and_true] at hF
      simp only [SV.den, hF]
    · cases hl
  rw [this]
  have hR : bitsR.den ρ b0 = Value.int .i64 (ρ.f 3 (BO.ev .max .i64 (ρ.i 0) 0) 0 0) := rfl
  rw [hR, hρ.hF]
  show _ = Ending.returned (Value.int .i64 (blen64 _))
  unfold blen64 bitsZ
  have : (BO.ev .max .i64 (ρ.i 0) 0 % 18446744073709551616).toNat = (ρ.i 0).toNat := by
    simp only [BO.ev]; split <;> omega
  rw [this]
theorem bitsT (n : Nat) (l : List (Int × Int)) (ins : List InD) : TmplOk (cxOf n l ins) 24 .none [.int .i64 (.v 0)] bitsR := tmpl_n bitsT0
end Go.Proofs.YtjooaieolphomaaGreatDoor
