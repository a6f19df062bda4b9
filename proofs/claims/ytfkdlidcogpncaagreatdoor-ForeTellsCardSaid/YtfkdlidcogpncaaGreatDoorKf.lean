/-
  What functions of the program answer, as numbers of what they are handed: their runs by the engine, the plain statements behind them. No condition.
-/
import Derived.Test.YtfkdlidcogpncaaGreatDoorKd
import Derived.Test.YtfkdlidcogpncaaGreatDoorGab
import Derived.Test.YtfkdlidcogpncaaGreatDoorGmD
set_option linter.unusedVariables false
set_option linter.unusedSimpArgs false
set_option maxRecDepth 100000
namespace Go.Proofs.YtfkdlidcogpncaaGreatDoor
open Go.Eng Go.RowKit
namespace CRClz
def rc : Rc := ⟨85, [none], [.int .i32], [], .one, [.int .i32 (.f 63 (.c 24) (.v 0) (.c 0))]⟩
theorem okb : rc.ok = true := by kernel_rfl
noncomputable def us : SMs := fun Γ ins n => smH (cxG n Γ ins) [] (smR (cxG n Γ ins) [CRBits.rc])
theorem us_ok : SMsOk us := fun Γ ins n => qQp (tabsG n Γ ins) (qQa _) (qQn (tabsG n Γ ins) (qQk CRBits.okb (rc_n CRBits.ok) (qQb _)))
def Q0 : E := (.cl 1001 (-4611686018427387904) 31)
def Q1 : E := (.cl 1000 0 1073741824)
def Q2 : E := (tp Q1 (.c 1))
def Q3 : E := (.b .psub .i64 Q0 (.c 1))
def tree : TT (List E) :=
 (.loop ⟨1000, [some (0, 1073741824), some (-4611686018427387904, 31)], [(.c 0), (.c 31)], 1003⟩ (.br (tl (.c 0) Q0) (.br (te (t6 (tR (tC (.f 2 (.v 0) (.c 0) (.c 0)) (tC (.f 2 (.v 0) (.c 1) (.c 0)) (tC (.f 2 (.v 0) (.c 2) (.c 0)) (tC (.f 2 (.v 0) (.c 3) (.c 0)) (tC (.f 2 (.v 0) (.c 4) (.c 0)) (tC (.f 2 (.v 0) (.c 5) (.c 0)) (tC (.f 2 (.v 0) (.c 6) (.c 0)) (tC (.f 2 (.v 0) (.c 7) (.c 0)) (tC (.f 2 (.v 0) (.c 8) (.c 0)) (tC (.f 2 (.v 0) (.c 9) (.c 0)) (tC (.f 2 (.v 0) (.c 10) (.c 0)) (tC (.f 2 (.v 0) (.c 11) (.c 0)) (tC (.f 2 (.v 0) (.c 12) (.c 0)) (tC (.f 2 (.v 0) (.c 13) (.c 0)) (tC (.f 2 (.v 0) (.c 14) (.c 0)) (tC (.f 2 (.v 0) (.c 15) (.c 0)) (tC (.f 2 (.v 0) (.c 16) (.c 0)) (tC (.f 2 (.v 0) (.c 17) (.c 0)) (tC (.f 2 (.v 0) (.c 18) (.c 0)) (tC (.f 2 (.v 0) (.c 19) (.c 0)) (tC (.f 2 (.v
 0) (.c 20) (.c 0)) (tC (.f 2 (.v 0) (.c 21) (.c 0)) (tC (.f 2 (.v 0) (.c 22) (.c 0)) (tC (.f 2 (.v 0) (.c 23) (.c 0)) (tC (.f 2 (.v 0) (.c 24) (.c 0)) (tC (.f 2 (.v 0) (.c 25) (.c 0)) (tC (.f 2 (.v 0) (.c 26) (.c 0)) (tC (.f 2 (.v 0) (.c 27) (.c 0)) (tC (.f 2 (.v 0) (.c 28) (.c 0)) (tC (.f 2 (.v 0) (.c 29) (.c 0)) (tC (.f 2 (.v 0) (.c 30) (.c 0)) (tC (.f 2 (.v 0) (.c 31) (.c 0)) (.c 0))))))))))))))))))))))))))))))))) Q0)) (.c 0)) (.br (tl Q2 (.c 1073741824)) (.br (tl (.c (-4611686018427387904)) Q3) (.back [Q2, Q3]) (.bad 303)) (.bad 303)) (.exit 0)) (.exit 1)) (.br (te (.v 1003) (.c 0)) (.leaf [Q1]) (.leaf [Q1])))
def P (a : Int) : Prop :=
 ∃ I1000 : Int → Int → Nat → Prop, (∃ m, I1000 0 31 m) ∧ ∀ y0 y1 : Int, ∀ m0, ((0 ≤ y0 ∧ y0 ≤ 1073741824) ∧ ((-4611686018427387904) ≤ y1 ∧ y1 ≤ 31) ∧ True) → I1000 y0 y1 m0 → (Pb (PL 0 y1) (Pb (Pe (W6 (rdZ (kZ (bitZ a 0) (kZ (bitZ a 1) (kZ (bitZ a 2) (kZ (bitZ a 3) (kZ (bitZ a 4) (kZ (bitZ a 5) (kZ (bitZ a 6) (kZ (bitZ a 7) (kZ (bitZ a 8) (kZ (bitZ a 9) (kZ (bitZ a 10) (kZ (bitZ a 11) (kZ (bitZ a 12) (kZ (bitZ a 13) (kZ (bitZ a 14) (kZ (bitZ a 15) (kZ (bitZ a 16) (kZ (bitZ a 17) (kZ (bitZ a 18) (kZ (bitZ a 19) (kZ (bitZ a 20) (kZ (bitZ a 21) (kZ (bitZ a 22) (kZ (bitZ a 23) (kZ (bitZ a 24) (kZ (bitZ a 25) (kZ (bitZ a 26) (kZ (bitZ a 27) (kZ (bitZ a 28) (kZ (bitZ a 29) (kZ (bitZ a 30) (kZ (bitZ a 31) 0)))))))))))))))))))))))))))))))) y1)) 0) (Pm (PL (y0 + 1) 1073741824) (Pm (PL
 (-4611686018427387904) (y1 - 1)) (∃ m', m' < m0 ∧ I1000 (y0 + 1) (y1 - 1) m'))) (Pb (Pe (0 : Int) 0) ((y0 : Int) = (aluV 24 a 0) ∧ True) ((y0 : Int) = (aluV 24 a 0) ∧ True))) (Pb (Pe (1 : Int) 0) ((y0 : Int) = (aluV 24 a 0) ∧ True) ((y0 : Int) = (aluV 24 a 0) ∧ True)))
theorem bits_rdC (x : Int) (k : Int) (h0 : 0 ≤ k) (h : k < 32) : rdZ (qQq (bitZ x 0) (qQq (bitZ x 1) (qQq (bitZ x 2) (qQq (bitZ x 3) (qQq (bitZ x 4) (qQq (bitZ x 5) (qQq (bitZ x 6) (qQq (bitZ x 7) (qQq (bitZ x 8) (qQq (bitZ x 9) (qQq (bitZ x 10) (qQq (bitZ x 11) (qQq (bitZ x 12) (qQq (bitZ x 13) (qQq (bitZ x 14) (qQq (bitZ x 15) (qQq (bitZ x 16) (qQq (bitZ x 17) (qQq (bitZ x 18) (qQq (bitZ x 19) (qQq (bitZ x 20) (qQq (bitZ x 21) (qQq (bitZ x 22) (qQq (bitZ x 23) (qQq (bitZ x 24) (qQq (bitZ x 25) (qQq (bitZ x 26) (qQq (bitZ x 27) (qQq (bitZ x 28) (qQq (bitZ x 29) (qQq (bitZ x 30) (qQq (bitZ x 31) 0)))))))))))))))))))))))))))))))) k = bitZ x k := by
 have e : (qQq (bitZ x 0) (qQq (bitZ x 1) (qQq (bitZ x 2) (qQq (bitZ x 3) (qQq (bitZ x 4) (qQq (bitZ x 5) (qQq (bitZ x 6) (qQq (bitZ x 7) (qQq (bitZ x 8) (qQq (bitZ x 9) (qQq (bitZ x 10) (qQq (bitZ x 11) (qQq (bitZ x 12) (qQq (bitZ x 13) (qQq (bitZ x 14) (qQq (bitZ x 15) (qQq (bitZ x 16) (qQq (bitZ x 17) (qQq (bitZ x 18) (qQq (bitZ x 19) (qQq (bitZ x 20) (qQq (bitZ x 21) (qQq (bitZ x 22) (qQq (bitZ x 23) (qQq (bitZ x 24) (qQq (bitZ x 25) (qQq (bitZ x 26) (qQq (bitZ x 27) (qQq (bitZ x 28) (qQq (bitZ x 29) (qQq (bitZ x 30) (qQq (bitZ x 31) 0)))))))))))))))))))))))))))))))) = chn ((List.range 32).map fun i : Nat => bitZ x i) := rfl
 rw [e, show k = ((k.toNat : Nat) : Int) by omega, qJz]
 have hr : k.toNat < 32 := by omega
 simp only [List.getD_eq_getElem?_getD, List.getElem?_map, List.getElem?_range hr, Option.map_some, Option.getD_some, Int.toNat_natCast]
theorem bitLen_is (i : Nat) (X : Nat) (h1 : 2 ^ i ≤ X) (h2 : X < 2 ^ (i + 1)) (hi : i ≤ 31) : Lib.bitLen X = i + 1 := by
 induction i generalizing X with
 | zero => have : X = 1 := by omega
           subst this; decide
 | succ i ih =>
  have hp : 2 ^ (i + 1) = 2 ^ i * 2 := Nat.pow_succ ..
  have hp2 : 2 ^ (i + 1 + 1) = 2 ^ (i + 1) * 2 := Nat.pow_succ ..
  have h64 : X < 2 ^ 64 := Nat.lt_of_lt_of_le h2 (Nat.pow_le_pow_right (by decide) (by omega))
  rw [Lib.bitLen_half X (by have := Nat.two_pow_pos i; omega) h64, ih (X / 2) (by omega) (by omega) (by omega)]
  omega
theorem alu24 {x n : Int} (x1 : -2147483648 ≤ x) (x2 : x ≤ 2147483647) : aluV 24 x 0 = 32 - (Lib.bitLen (x % 4294967296).toNat : Int) := by
 rw [qJq (qKk (by decide) (by decide) (by decide) (by decide)) x1 x2 (by decide) (by decide)]
 unfold aluX
 simp only [Int.reduceEq, if_false, if_true]
 rw [wu32, show x % 4294967296 % 4294967296 = x % 4294967296 by omega]
set_option maxRecDepth 100000 in
theorem holds (p0 : Int) (l_p0 : -2147483648 ≤ p0) (u_p0 : p0 ≤ 2147483647) : P p0 := by
 delta P Pb Pm PL Pe W6 kZ
 simp only [nrm, nro, Int.reduceEq, Int.reduceNeg, reduceIte]
 have hX : (p0 % 4294967296).toNat < 2 ^ 32 := by have : (2 : Nat) ^ 32 = 4294967296 := by decide
                                                  omega
 rw [alu24 (n := 0) l_p0 u_p0]
 have hb : ∀ i : Int, bitZ p0 i = (((p0 % 4294967296).toNat / 2 ^ i.toNat % 2 : Nat) : Int) := by
  intro i
  unfold bitZ
  push_cast
  rw [Int.toNat_of_nonneg (by omega)]
 generalize (p0 % 4294967296).toNat = X at *
 refine ⟨fun n i m => -1 ≤ i ∧ n = 31 - i ∧ X < 2 ^ (i + 1).toNat ∧ m = (i + 1).toNat, ⟨_, by omega, by omega, hX, rfl⟩, fun n i m hB hI => ?_⟩
 obtain ⟨h1, rfl, h2, rfl⟩ := hI
 refine ⟨fun h3 => ?_, fun h3 => ?_⟩
 ·rw [bits_rdC p0 i (by omega) (by omega), hb]
  have e : (i + 1).toNat = i.toNat + 1 := by omega
  rw [e] at h2
  have hp : 2 ^ (i.toNat + 1) = 2 ^ i.toNat * 2 := Nat.pow_succ ..
  have hq := Nat.two_pow_pos i.toNat
  have hm : X / 2 ^ i.toNat < 2 := Nat.div_lt_of_lt_mul (by omega)
  have hw : X / 2 ^ i.toNat % 2 = X / 2 ^ i.toNat := Nat.mod_eq_of_lt hm
  rw [hw, w64 (by omega) (by omega)]
  refine ⟨fun h4 => ⟨by omega, by omega, _, ?_, by omega, by omega, ?_, rfl⟩, fun h4 => ?_⟩
  ·omega
  ·rw [show (i - 1 + 1).toNat = i.toNat by omega]
   have h5 : X / 2 ^ i.toNat = 0 := by omega
   rcases Nat.lt_or_ge X (2 ^ i.toNat) with g | g
   ·exact g
   ·have := Nat.div_pos g hq; omega
  ·have h5 : 2 ^ i.toNat ≤ X := by
    rcases Nat.lt_or_ge X (2 ^ i.toNat) with g | g
    ·rw [Nat.div_eq_of_lt g] at h4; exact absurd rfl h4
    ·exact g
   have := bitLen_is i.toNat X h5 h2 (by omega)
   omega
 ·have e : i = -1 := by omega
  subst e
  have : X = 0 := by simpa using h2
  subst this
  decide
theorem plain (i v ro p) : statR 2 rc tree ⟨i, fN, v, ro, p⟩ = P (i 0) := by kernel_rfl
theorem ran : ranR us (fun _ _ => .auto) rc 2 tree = true := by kernel_rfl
theorem fineT : fineR 2 rc tree = true := by kernel_rfl
theorem ok : RcOk (cxOf 2) rc := okR us_ok ran fineT okb fun i v ro p hρ hcap hpre => by rw [plain]; have q := hρ.hi; exact holds _ (q 0 _ rfl).1 (q 0 _ rfl).2
end CRClz
end Go.Proofs.YtfkdlidcogpncaaGreatDoor
