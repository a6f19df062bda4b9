/-
  What astrolaberef02.Clz answers, as numbers of what it is handed: its run by the engine, and the plain statement behind it. No condition.
-/
import Derived.Test.YtbfgkimoobkpmaaGreatDoorGab
import Derived.Test.YtbfgkimoobkpmaaGreatDoorCRBits
import Derived.Test.YtbfgkimoobkpmaaGreatDoorGmD
namespace Go.Proofs.YtbfgkimoobkpmaaGreatDoor.CRClz
open Go.Eng Go.RowKit
set_option linter.unusedVariables false
set_option linter.unusedSimpArgs false
set_option maxRecDepth 100000
def rc : Rc := ⟨86, [none], [.int .i32], [], .one, [.int .i32 (.f 63 (.c 24) (.v 0) (.c 0))]⟩
theorem okb : rc.ok = true := by kernel_rfl
noncomputable def us : SMs := fun Γ ins n => smH (cxG n Γ ins) [] (smR (cxG n Γ ins) [CRBits.rc])
theorem us_ok : SMsOk us := fun Γ ins n => smH_ok (tabsG n Γ ins) (rhs_nil _) (smR_ok (tabsG n Γ ins) (rcs_cons CRBits.okb (rc_n CRBits.ok) (rcs_nil _)))
def tree : TT (List E) :=
(.loop ⟨1000, [some (0, 1073741824), some (-4611686018427387904, 31)], [(.c 0), (.c 31)], 1003⟩
  (.br (.b .le .i64 (.c 0) (.cl 1001 (-4611686018427387904) 31))
  (.br (.b .eq .i64 (.w .i64 (.f 13 (.f 11 (.f 2 (.v 0) (.c 0) (.c 0)) (.f 11 (.f 2 (.v 0) (.c 1) (.c 0)) (.f 11 (.f 2 (.v 0) (.c 2) (.c 0)) (.f 11 (.f 2 (.v 0) (.c 3) (.c 0)) (.f 11 (.f 2 (.v 0) (.c 4) (.c 0)) (.f 11 (.f 2 (.v 0) (.c 5) (.c 0)) (.f 11 (.f 2 (.v 0) (.c 6) (.c 0)) (.f 11 (.f 2 (.v 0) (.c 7) (.c 0)) (.f 11 (.f 2 (.v 0) (.c 8) (.c 0)) (.f 11 (.f 2 (.v 0) (.c 9) (.c 0)) (.f 11 (.f 2 (.v 0) (.c 10) (.c 0)) (.f 11 (.f 2 (.v 0) (.c 11) (.c 0)) (.f 11 (.f 2 (.v 0) (.c 12) (.c 0)) (.f 11 (.f 2 (.v 0) (.c 13) (.c 0)) (.f 11 (.f 2 (.v 0) (.c 14) (.c 0)) (.f 11 (.f 2 (.v 0) (.c 15) (.c 0)) (.f 11 (.f 2 (.v 0) (.c 16) (.c 0)) (.f 11 (.f 2 (.v 0) (.c 17) (.c 0)) (.f 11 (.f 2 (.v 0) (.c 18) (.c 0)) (.f 11 (.f 2 (.v 0) (.c 19) (.c 0)) (.f 11 (.f 2 (.v 0) (.c 20) (.c 0)) (.f 11 (.f 2 (.v 0) (.c 21) (.c 0)) (.f 11 (.f 2 (.v 0) (.c 22) (.c 0)) (.f 11 (.f 2 (.v 0) (.c 23) (.c 0)) (.f 11 (.f 2 (.v 0) (.c 24) (.c 0)) (.f 11 (.f 2 (.v 0) (.c 25) (.c 0)) (.f 11 (.f 2 (.v 0) (.c 26) (.c 0)) (.f 11 (.f 2 (.v 0) (.c 27) (.c 0)) (.f 11 (.f 2 (.v 0) (.c 28) (.c 0)) (.f 11 (.f 2 (.v 0) (.c 29) (.c 0)) (.f 11 (.f 2 (.v 0) (.c 30) (.c 0)) (.f 11 (.f 2 (.v 0) (.c 31) (.c 0)) (.c 0) (.c 0)) (.c 0)) (.c 0)) (.c 0)) (.c 0)) (.c 0)) (.c 0)) (.c 0)) (.c 0)) (.c 0)) (.c 0)) (.c 0)) (.c 0)) (.c 0)) (.c 0)) (.c 0)) (.c 0)) (.c 0)) (.c 0)) (.c 0)) (.c 0)) (.c 0)) (.c 0)) (.c 0)) (.c 0)) (.c 0)) (.c 0)) (.c 0)) (.c 0)) (.c 0)) (.c 0)) (.c 0)) (.cl 1001 (-4611686018427387904) 31) (.c 0))) (.c 0))
  (.br (.b .le .i64 (.b .padd .i64 (.cl 1000 0 1073741824) (.c 1)) (.c 1073741824))
  (.br (.b .le .i64 (.c (-4611686018427387904)) (.b .psub .i64 (.cl 1001 (-4611686018427387904) 31) (.c 1)))
  (.back [(.b .padd .i64 (.cl 1000 0 1073741824) (.c 1)), (.b .psub .i64 (.cl 1001 (-4611686018427387904) 31) (.c 1))])
  (.bad 303))
  (.bad 303))
  (.exit 0))
  (.exit 1))
  (.br (.b .eq .i64 (.v 1003) (.c 0))
  (.leaf [(.cl 1000 0 1073741824)])
  (.leaf [(.cl 1000 0 1073741824)])))

def P (p0 : Int) : Prop :=
 ∃ I1000 : Int → Int → Nat → Prop, (∃ m, I1000 0 31 m) ∧
 ∀ y1000 y1001 : Int, ∀ m1000, ((0 ≤ y1000 ∧ y1000 ≤ 1073741824) ∧ ((-4611686018427387904) ≤ y1001 ∧ y1001 ≤ 31) ∧ True) → I1000 y1000 y1001 m1000 →
  (((bool01 (decide (0 ≤ y1001))) ≠ 0 →
   (((bool01 ((IntKind.wrap .i64 (rdZ (consZ (bitZ p0 0) (consZ (bitZ p0 1) (consZ (bitZ p0 2) (consZ (bitZ p0 3) (consZ (bitZ p0 4) (consZ (bitZ p0 5) (consZ (bitZ p0 6) (consZ (bitZ p0 7) (consZ (bitZ p0 8) (consZ (bitZ p0 9) (consZ (bitZ p0 10) (consZ (bitZ p0 11) (consZ (bitZ p0 12) (consZ (bitZ p0 13) (consZ (bitZ p0 14) (consZ (bitZ p0 15) (consZ (bitZ p0 16) (consZ (bitZ p0 17) (consZ (bitZ p0 18) (consZ (bitZ p0 19) (consZ (bitZ p0 20) (consZ (bitZ p0 21) (consZ (bitZ p0 22) (consZ (bitZ p0 23) (consZ (bitZ p0 24) (consZ (bitZ p0 25) (consZ (bitZ p0 26) (consZ (bitZ p0 27) (consZ (bitZ p0 28) (consZ (bitZ p0 29) (consZ (bitZ p0 30) (consZ (bitZ p0 31) 0)))))))))))))))))))))))))))))))) y1001)) == 0)) ≠ 0 →
    (((bool01 (decide ((y1000 + 1) ≤ 1073741824))) ≠ 0 →
     (((bool01 (decide ((-4611686018427387904) ≤ (y1001 - 1)))) ≠ 0 →
      ∃ m', m' < m1000 ∧ I1000 (y1000 + 1) (y1001 - 1) m') ∧ ((bool01 (decide ((-4611686018427387904) ≤ (y1001 - 1)))) = 0 →
      False))) ∧ ((bool01 (decide ((y1000 + 1) ≤ 1073741824))) = 0 →
     False))) ∧ ((bool01 ((IntKind.wrap .i64 (rdZ (consZ (bitZ p0 0) (consZ (bitZ p0 1) (consZ (bitZ p0 2) (consZ (bitZ p0 3) (consZ (bitZ p0 4) (consZ (bitZ p0 5) (consZ (bitZ p0 6) (consZ (bitZ p0 7) (consZ (bitZ p0 8) (consZ (bitZ p0 9) (consZ (bitZ p0 10) (consZ (bitZ p0 11) (consZ (bitZ p0 12) (consZ (bitZ p0 13) (consZ (bitZ p0 14) (consZ (bitZ p0 15) (consZ (bitZ p0 16) (consZ (bitZ p0 17) (consZ (bitZ p0 18) (consZ (bitZ p0 19) (consZ (bitZ p0 20) (consZ (bitZ p0 21) (consZ (bitZ p0 22) (consZ (bitZ p0 23) (consZ (bitZ p0 24) (consZ (bitZ p0 25) (consZ (bitZ p0 26) (consZ (bitZ p0 27) (consZ (bitZ p0 28) (consZ (bitZ p0 29) (consZ (bitZ p0 30) (consZ (bitZ p0 31) 0)))))))))))))))))))))))))))))))) y1001)) == 0)) = 0 →
    (((bool01 ((0 : Int) == 0)) ≠ 0 →
     (y1000 : Int) = (aluV 24 p0 0) ∧ True) ∧ ((bool01 ((0 : Int) == 0)) = 0 →
     (y1000 : Int) = (aluV 24 p0 0) ∧ True))))) ∧ ((bool01 (decide (0 ≤ y1001))) = 0 →
   (((bool01 ((1 : Int) == 0)) ≠ 0 →
    (y1000 : Int) = (aluV 24 p0 0) ∧ True) ∧ ((bool01 ((1 : Int) == 0)) = 0 →
    (y1000 : Int) = (aluV 24 p0 0) ∧ True))))

theorem bits_rdC (x : Int) (k : Int) (h0 : 0 ≤ k) (h : k < 32) : rdZ (consZ (bitZ x 0) (consZ (bitZ x 1) (consZ (bitZ x 2) (consZ (bitZ x 3) (consZ (bitZ x 4) (consZ (bitZ x 5) (consZ (bitZ x 6) (consZ (bitZ x 7) (consZ (bitZ x 8) (consZ (bitZ x 9) (consZ (bitZ x 10) (consZ (bitZ x 11) (consZ (bitZ x 12) (consZ (bitZ x 13) (consZ (bitZ x 14) (consZ (bitZ x 15) (consZ (bitZ x 16) (consZ (bitZ x 17) (consZ (bitZ x 18) (consZ (bitZ x 19) (consZ (bitZ x 20) (consZ (bitZ x 21) (consZ (bitZ x 22) (consZ (bitZ x 23) (consZ (bitZ x 24) (consZ (bitZ x 25) (consZ (bitZ x 26) (consZ (bitZ x 27) (consZ (bitZ x 28) (consZ (bitZ x 29) (consZ (bitZ x 30) (consZ (bitZ x 31) 0)))))))))))))))))))))))))))))))) k = bitZ x k := by
  have e : (consZ (bitZ x 0) (consZ (bitZ x 1) (consZ (bitZ x 2) (consZ (bitZ x 3) (consZ (bitZ x 4) (consZ (bitZ x 5) (consZ (bitZ x 6) (consZ (bitZ x 7) (consZ (bitZ x 8) (consZ (bitZ x 9) (consZ (bitZ x 10) (consZ (bitZ x 11) (consZ (bitZ x 12) (consZ (bitZ x 13) (consZ (bitZ x 14) (consZ (bitZ x 15) (consZ (bitZ x 16) (consZ (bitZ x 17) (consZ (bitZ x 18) (consZ (bitZ x 19) (consZ (bitZ x 20) (consZ (bitZ x 21) (consZ (bitZ x 22) (consZ (bitZ x 23) (consZ (bitZ x 24) (consZ (bitZ x 25) (consZ (bitZ x 26) (consZ (bitZ x 27) (consZ (bitZ x 28) (consZ (bitZ x 29) (consZ (bitZ x 30) (consZ (bitZ x 31) 0)))))))))))))))))))))))))))))))) = chn ((List.range 32).map fun i : Nat => bitZ x i) := rfl
  rw [e, show k = ((k.toNat : Nat) : Int) by omega, rd_chn]
  have hr : k.toNat < 32 := by omega
  simp only [List.getD_eq_getElem?_getD, List.getElem?_map, List.getElem?_range hr, Option.map_some, Option.getD_some, Int.toNat_natCast]
theorem bitLen_is (i : Nat) (X : Nat) (h1 : 2 ^ i ≤ X) (h2 : X < 2 ^ (i + 1)) (hi : i ≤ 31) : Lib.bitLen X = i + 1 := by
  induction i generalizing X with
  | zero => have : X = 1 := by omega
            subst this; decide
  | succ i ih =>
    have hp : 2 ^ (i + 1) = 2 ^ i * 2 := Nat.pow_succ ..
    have hp2 : 2 ^ (i + 1 + 1) = 2 ^ (i + 1) * 2 := Nat.pow_succ ..
    have h64 : X < 2 ^ 64 := Nat.lt_of_lt_of_le h2 (Nat.pow_le_pow_right (by decide) (by omega))
    rw [Lib.bitLen_half X (by have := Nat.two_pow_pos i; omega) h64, ih (X / 2) (by omega) (by omega) (by omega)]
    omega
theorem alu24 {x n : Int} (x1 : -2147483648 ≤ x) (x2 : x ≤ 2147483647) : aluV 24 x 0 = 32 - (Lib.bitLen (x % 4294967296).toNat : Int) := by
  rw [aluV_of (aluP_9 (by decide) (by decide) (by decide) (by decide)) x1 x2 (by decide) (by decide)]
  unfold aluX
  simp only [Int.reduceEq, if_false, if_true]
  rw [wu32, show x % 4294967296 % 4294967296 = x % 4294967296 by omega]
set_option maxRecDepth 100000 in
theorem holds (p0 : Int) (l_p0 : -2147483648 ≤ p0) (u_p0 : p0 ≤ 2147483647) : P p0 := by
  unfold P
  simp only [b01_eq, decide_eq_true_eq, decide_eq_false_iff_not, beq_iff_eq, beq_eq_false_iff_ne, bne_iff_ne, bne_eq_false_iff_eq, Int.not_le, Int.not_lt, true_and, and_true, iteZ_ne, ne_eq, Bool.not_eq_false, Bool.not_eq_true, not_true_eq_false, not_false_eq_true, Decidable.not_not, forall_const, false_implies, true_iff, iff_true, false_iff, iff_false, Int.reduceEq, Int.reduceNeg, eq_self, if_true, if_false, reduceIte, ob_le, ob_lt, ob_p, ob_n]
  have hX : (p0 % 4294967296).toNat < 2 ^ 32 := by have : (2 : Nat) ^ 32 = 4294967296 := by decide
                                                   omega
  rw [alu24 (n := 0) l_p0 u_p0]
  have hb : ∀ i : Int, bitZ p0 i = (((p0 % 4294967296).toNat / 2 ^ i.toNat % 2 : Nat) : Int) := by
    intro i
    unfold bitZ
    push_cast
    rw [Int.toNat_of_nonneg (by omega)]
  generalize (p0 % 4294967296).toNat = X at *
  refine ⟨fun n i m => -1 ≤ i ∧ n = 31 - i ∧ X < 2 ^ (i + 1).toNat ∧ m = (i + 1).toNat, ⟨_, by omega, by omega, hX, rfl⟩, fun n i m hB hI => ?_⟩
  obtain ⟨h1, rfl, h2, rfl⟩ := hI
  refine ⟨fun h3 => ?_, fun h3 => ?_⟩
  · rw [bits_rdC p0 i (by omega) (by omega), hb]
    have e : (i + 1).toNat = i.toNat + 1 := by omega
    rw [e] at h2
    have hp : 2 ^ (i.toNat + 1) = 2 ^ i.toNat * 2 := Nat.pow_succ ..
    have hq := Nat.two_pow_pos i.toNat
    have hm : X / 2 ^ i.toNat < 2 := Nat.div_lt_of_lt_mul (by omega)
    have hw : X / 2 ^ i.toNat % 2 = X / 2 ^ i.toNat := Nat.mod_eq_of_lt hm
    rw [hw, w64 (by omega) (by omega)]
    refine ⟨fun h4 => ⟨by omega, by omega, _, ?_, by omega, by omega, ?_, rfl⟩, fun h4 => ?_⟩
    · omega
    · rw [show (i - 1 + 1).toNat = i.toNat by omega]
      have h5 : X / 2 ^ i.toNat = 0 := by omega
      rcases Nat.lt_or_ge X (2 ^ i.toNat) with g | g
      · exact g
      · have := Nat.div_pos g hq; omega
    · have h5 : 2 ^ i.toNat ≤ X := by
        rcases Nat.lt_or_ge X (2 ^ i.toNat) with g | g
        · rw [Nat.div_eq_of_lt g] at h4; exact absurd rfl h4
        · exact g
      have := bitLen_is i.toNat X h5 h2 (by omega)
      omega
  · have e : i = -1 := by omega
    subst e
    have : X = 0 := by simpa using h2
    subst this
    decide

theorem plain (i v ro p) : statR 2 rc tree ⟨i, fN, v, ro, p⟩ = P (i 0) := by kernel_rfl
theorem ran : ranR us (fun _ _ => .auto) rc 2 tree = true := by kernel_rfl
theorem fineT : fineR 2 rc tree = true := by kernel_rfl
theorem ok : RcOk (cxOf 2) rc := okR us_ok ran fineT okb fun i v ro p hρ hcap hpre => by rw [plain]; exact holds (i 0) (hρ.hi 0 _ rfl).1 (hρ.hi 0 _ rfl).2
end Go.Proofs.YtbfgkimoobkpmaaGreatDoor.CRClz
