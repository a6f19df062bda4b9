/-
  What astrolaberef02.Sar answers, as numbers of what it is handed: its run by the engine, and the plain statement behind it. No condition.
-/
import Derived.Test.YtbfgkimoobkpmaaGreatDoorGab
import Derived.Test.YtbfgkimoobkpmaaGreatDoorCRBy
import Derived.Test.YtbfgkimoobkpmaaGreatDoorGmD
namespace Go.Proofs.YtbfgkimoobkpmaaGreatDoor.CRSar
open Go.Eng Go.RowKit
set_option linter.unusedVariables false
set_option linter.unusedSimpArgs false
set_option maxRecDepth 100000
def rc : Rc := ⟨92, [none, none], [.int .i32, .int .i32], [], .one, [.int .i32 (.f 63 (.c 11) (.v 0) (.v 1))]⟩
theorem okb : rc.ok = true := by kernel_rfl
noncomputable def us : SMs := fun Γ ins n => smH (cxG n Γ ins) [] (smR (cxG n Γ ins) [CRBy.rc])
theorem us_ok : SMsOk us := fun Γ ins n => smH_ok (tabsG n Γ ins) (rhs_nil _) (smR_ok (tabsG n Γ ins) (rcs_cons CRBy.okb (rc_n CRBy.ok) (rcs_nil _)))
def tree : TT (List E) :=
(.loop ⟨1000, [some (-9223372036854775808, 9223372036854775807), some (0, 4611686018427387904)], [(.c 1), (.c 0)], 1003⟩
  (.br (.b .lt .i64 (.cl 1001 0 4611686018427387904) (.f 79 (.v 1) (.c 0) (.c 0)))
  (.br (.b .le .i64 (.b .padd .i64 (.cl 1001 0 4611686018427387904) (.c 1)) (.c 4611686018427387904))
  (.back [(.w .i64 (.b .pmul .i64 (.c 2) (.cl 1000 (-9223372036854775808) 9223372036854775807))), (.b .padd .i64 (.cl 1001 0 4611686018427387904) (.c 1))])
  (.bad 303))
  (.exit 0))
  (.br (.b .eq .i64 (.cl 1000 (-9223372036854775808) 9223372036854775807) (.c 0))
  (.bad 3)
  (.br (.b .lt .i64 (.b .rem .i64 (.v 0) (.cl 1000 (-9223372036854775808) 9223372036854775807)) (.c 0))
  (.leaf [(.w .i32 (.b .quo .i64 (.w .i64 (.b .psub .i64 (.v 0) (.w .i64 (.b .padd .i64 (.b .rem .i64 (.v 0) (.cl 1000 (-9223372036854775808) 9223372036854775807)) (.cl 1000 (-9223372036854775808) 9223372036854775807))))) (.cl 1000 (-9223372036854775808) 9223372036854775807)))])
  (.leaf [(.w .i32 (.b .quo .i64 (.w .i64 (.b .psub .i64 (.v 0) (.b .rem .i64 (.v 0) (.cl 1000 (-9223372036854775808) 9223372036854775807)))) (.cl 1000 (-9223372036854775808) 9223372036854775807)))]))))

def P (p0 p1 : Int) : Prop :=
 ∃ I1000 : Int → Int → Nat → Prop, (∃ m, I1000 1 0 m) ∧
 ∀ y1000 y1001 : Int, ∀ m1000, (((-9223372036854775808) ≤ y1000 ∧ y1000 ≤ 9223372036854775807) ∧ (0 ≤ y1001 ∧ y1001 ≤ 4611686018427387904) ∧ True) → I1000 y1000 y1001 m1000 →
  (((bool01 (decide (y1001 < (md32 p1)))) ≠ 0 →
   (((bool01 (decide ((y1001 + 1) ≤ 4611686018427387904))) ≠ 0 →
    ∃ m', m' < m1000 ∧ I1000 (IntKind.wrap .i64 (2 * y1000)) (y1001 + 1) m') ∧ ((bool01 (decide ((y1001 + 1) ≤ 4611686018427387904))) = 0 →
    False))) ∧ ((bool01 (decide (y1001 < (md32 p1)))) = 0 →
   (((bool01 (y1000 == 0)) ≠ 0 →
    False) ∧ ((bool01 (y1000 == 0)) = 0 →
    (((bool01 (decide ((BO.ev .rem .i64 p0 y1000) < 0))) ≠ 0 →
     ((IntKind.wrap .i32 (BO.ev .quo .i64 (IntKind.wrap .i64 (p0 - (IntKind.wrap .i64 ((BO.ev .rem .i64 p0 y1000) + y1000)))) y1000)) : Int) = (aluV 11 p0 p1) ∧ True) ∧ ((bool01 (decide ((BO.ev .rem .i64 p0 y1000) < 0))) = 0 →
     ((IntKind.wrap .i32 (BO.ev .quo .i64 (IntKind.wrap .i64 (p0 - (BO.ev .rem .i64 p0 y1000))) y1000)) : Int) = (aluV 11 p0 p1) ∧ True))))))

theorem alu11 {x n : Int} (x1 : -2147483648 ≤ x) (x2 : x ≤ 2147483647) (n1 : -2147483648 ≤ n) (n2 : n ≤ 2147483647) : aluV 11 x n = x / 2 ^ (md32 n).toNat := by
  rw [aluV_of (aluP_9 (by decide) (by decide) (by decide) (by decide)) x1 x2 n1 n2]
  unfold aluX
  simp only [Int.reduceEq, if_false, if_true]
  rw [and31, shr_ev, show Nat.min (n % 32).toNat IntKind.i32.bits = (n % 32).toNat from Nat.min_eq_left (by show (n % 32).toNat ≤ 32; omega)]; rfl
theorem sar_div {x p : Int} (hp : 0 < p) (hp2 : p ≤ 2147483648) (x1 : -2147483648 ≤ x) (x2 : x ≤ 2147483647) :
    (x.tmod p < 0 → IntKind.wrap .i32 (BO.ev .quo .i64 (IntKind.wrap .i64 (x - IntKind.wrap .i64 (x.tmod p + p))) p) = x / p) ∧ (0 ≤ x.tmod p → IntKind.wrap .i32 (BO.ev .quo .i64 (IntKind.wrap .i64 (x - x.tmod p)) p) = x / p) := by
  have h1 := Int.emod_add_mul_ediv x p
  have h2 := Int.emod_nonneg x (show p ≠ 0 by omega)
  have h3 := Int.emod_lt_of_pos x hp
  have hd : -2147483648 ≤ x / p ∧ x / p ≤ 2147483647 := by
    constructor
    · refine (Int.le_ediv_iff_mul_le hp).2 ?_
      have := Int.mul_le_mul_of_nonneg_left (show (1 : Int) ≤ p by omega) (show (0 : Int) ≤ 2147483648 by decide)
      omega
    · have h5 := Int.ediv_le_ediv hp x2
      have h6 : (2147483647 : Int) / p ≤ 2147483647 := Int.ediv_le_self p (by decide)
      omega
  have ex : (x - x % p).tdiv p = x / p := by
    have : x - x % p = p * (x / p) := by omega
    rw [this, Int.mul_tdiv_cancel_left _ (by omega)]
  have key : IntKind.wrap .i32 (BO.ev .quo .i64 (x - x % p) p) = x / p := by
    show IntKind.wrap .i32 (IntKind.wrap .i64 ((x - x % p).tdiv p)) = _
    rw [ex, w64 (by omega) (by omega), wi32 hd.1 hd.2]
  have tm : x.tmod p = x % p ∨ x.tmod p = x % p - p ∧ x % p ≠ 0 := by
    rcases Int.le_total 0 x with g | g
    · exact .inl (Int.tmod_eq_emod_of_nonneg g)
    · have h8 : x.tmod p = -((-x) % p) := by
        rw [← Int.neg_neg x, Int.neg_tmod, Int.tmod_eq_emod_of_nonneg (by omega), Int.neg_neg]
      by_cases hz : x % p = 0
      · have : (-x) % p = 0 := by rw [Int.neg_emod, if_pos (Int.dvd_of_emod_eq_zero hz)]
        exact .inl (by omega)
      · have h9 : (-x) % p = p - x % p := by
          rw [Int.neg_emod, if_neg (fun h => hz (Int.emod_eq_zero_of_dvd h))]; omega
        exact .inr ⟨by omega, hz⟩
  constructor
  · intro g
    have e : x.tmod p + p = x % p := by omega
    rw [e, w64 (x := x % p) (by omega) (by omega), w64 (x := x - x % p) (by omega) (by omega)]
    exact key
  · intro g
    have e : x.tmod p = x % p := by omega
    rw [e, w64 (x := x - x % p) (by omega) (by omega)]
    exact key
theorem holds (p0 p1 : Int) (l_p0 : -2147483648 ≤ p0) (u_p0 : p0 ≤ 2147483647) (l_p1 : -2147483648 ≤ p1) (u_p1 : p1 ≤ 2147483647) : P p0 p1 := by
  unfold P
  simp only [b01_eq, decide_eq_true_eq, decide_eq_false_iff_not, beq_iff_eq, beq_eq_false_iff_ne, bne_iff_ne, bne_eq_false_iff_eq, Int.not_le, Int.not_lt, true_and, and_true, iteZ_ne, ne_eq, Bool.not_eq_false, Bool.not_eq_true, not_true_eq_false, not_false_eq_true, Decidable.not_not, forall_const, false_implies, true_iff, iff_true, false_iff, iff_false, Int.reduceEq, Int.reduceNeg, eq_self, if_true, if_false, reduceIte, ob_le, ob_lt, ob_p, ob_n]
  have hn : 0 ≤ md32 p1 ∧ md32 p1 < 32 := by unfold md32; omega
  have hp : ∀ k : Nat, k ≤ 31 → (0 : Int) < 2 ^ k ∧ (2 : Int) ^ k ≤ 2147483648 := by
    intro k hk
    have : ∀ j : Fin 32, (0 : Int) < 2 ^ j.val ∧ (2 : Int) ^ j.val ≤ 2147483648 := by decide +kernel
    exact this ⟨k, by omega⟩
  refine ⟨fun y i m => i ≤ md32 p1 ∧ y = 2 ^ i.toNat ∧ m = (md32 p1 - i).toNat, ⟨_, hn.1, rfl, rfl⟩, fun y i m hb hI => ?_⟩
  obtain ⟨hi, rfl, rfl⟩ := hI
  have hpi := hp i.toNat (by omega)
  refine ⟨fun h1 => ⟨by omega, _, ?_, by omega, ?_, rfl⟩, fun h1 => ?_⟩
  · omega
  · rw [w64 (by omega) (by omega), show (i + 1).toNat = i.toNat + 1 by omega, Int.pow_succ, Int.mul_comm]
  · have e : i = md32 p1 := by omega
    rw [alu11 l_p0 u_p0 l_p1 u_p1, ← e]
    have := sar_div hpi.1 hpi.2 l_p0 u_p0
    exact ⟨fun h => by omega, fun h => ⟨this.1, this.2⟩⟩

theorem plain (i v ro p) : statR 2 rc tree ⟨i, fN, v, ro, p⟩ = P (i 0) (i 1) := by kernel_rfl
theorem ran : ranR us (fun _ _ => .auto) rc 2 tree = true := by kernel_rfl
theorem fineT : fineR 2 rc tree = true := by kernel_rfl
theorem ok : RcOk (cxOf 2) rc := okR us_ok ran fineT okb fun i v ro p hρ hcap hpre => by rw [plain]; exact holds (i 0) (i 1) (hρ.hi 0 _ rfl).1 (hρ.hi 0 _ rfl).2 (hρ.hi 1 _ rfl).1 (hρ.hi 1 _ rfl).2
end Go.Proofs.YtbfgkimoobkpmaaGreatDoor.CRSar
