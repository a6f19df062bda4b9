/-
  What astrolaberef02.Bits answers, as numbers of what it is handed: its run by the engine, and the plain statement behind it. No condition.
-/
import Derived.Test.YtbfgkimoobkpmaaGreatDoorGab
import Derived.Test.YtbfgkimoobkpmaaGreatDoorCRPlain
import Derived.Test.YtbfgkimoobkpmaaGreatDoorGmD
namespace Go.Proofs.YtbfgkimoobkpmaaGreatDoor.CRBits
open Go.Eng Go.RowKit
set_option linter.unusedVariables false
set_option linter.unusedSimpArgs false
set_option maxRecDepth 100000
def rc : Rc := ⟨127, [none], [.int .i32], [], .agg 32, [.int .i64 (.f 2 (.v 0) (.c 0) (.c 0)), .int .i64 (.f 2 (.v 0) (.c 1) (.c 0)), .int .i64 (.f 2 (.v 0) (.c 2) (.c 0)), .int .i64 (.f 2 (.v 0) (.c 3) (.c 0)), .int .i64 (.f 2 (.v 0) (.c 4) (.c 0)), .int .i64 (.f 2 (.v 0) (.c 5) (.c 0)), .int .i64 (.f 2 (.v 0) (.c 6) (.c 0)), .int .i64 (.f 2 (.v 0) (.c 7) (.c 0)), .int .i64 (.f 2 (.v 0) (.c 8) (.c 0)), .int .i64 (.f 2 (.v 0) (.c 9) (.c 0)), .int .i64 (.f 2 (.v 0) (.c 10) (.c 0)), .int .i64 (.f 2 (.v 0) (.c 11) (.c 0)), .int .i64 (.f 2 (.v 0) (.c 12) (.c 0)), .int .i64 (.f 2 (.v 0) (.c 13) (.c 0)), .int .i64 (.f 2 (.v 0) (.c 14) (.c 0)), .int .i64 (.f 2 (.v 0) (.c 15) (.c 0)), .int .i64 (.f 2 (.v 0) (.c 16) (.c 0)), .int .i64 (.f 2 (.v 0) (.c 17) (.c 0)), .int .i64 (.f 2 (.v 0) (.c 18) (.c 0)), .int .i64 (.f 2 (.v 0) (.c 19) (.c 0)), .int .i64 (.f 2 (.v 0) (.c 20) (.c 0)), .int .i64 (.f 2 (.v 0) (.c 21) (.c 0)), .int .i64 (.f 2 (.v 0) (.c 22) (.c 0)), .int .i64 (.f 2 (.v 0) (.c 23) (.c 0)), .int .i64 (.f 2 (.v 0) (.c 24) (.c 0)), .int .i64 (.f 2 (.v 0) (.c 25) (.c 0)), .int .i64 (.f 2 (.v 0) (.c 26) (.c 0)), .int .i64 (.f 2 (.v 0) (.c 27) (.c 0)), .int .i64 (.f 2 (.v 0) (.c 28) (.c 0)), .int .i64 (.f 2 (.v 0) (.c 29) (.c 0)), .int .i64 (.f 2 (.v 0) (.c 30) (.c 0)), .int .i64 (.f 2 (.v 0) (.c 31) (.c 0))]⟩
theorem okb : rc.ok = true := by kernel_rfl
noncomputable def us : SMs := fun Γ ins n => smH (cxG n Γ ins) [] (smR (cxG n Γ ins) [CRPlain.rc])
theorem us_ok : SMsOk us := fun Γ ins n => smH_ok (tabsG n Γ ins) (rhs_nil _) (smR_ok (tabsG n Γ ins) (rcs_cons CRPlain.okb (rc_n CRPlain.ok) (rcs_nil _)))
def q0 : E := (.b .quo .i64 (.w .u32 (.v 0)) (.c 2))
def q1 : E := (.b .quo .i64 q0 (.c 2))
def q2 : E := (.b .quo .i64 q1 (.c 2))
def q3 : E := (.b .quo .i64 q2 (.c 2))
def q4 : E := (.b .quo .i64 q3 (.c 2))
def q5 : E := (.b .quo .i64 q4 (.c 2))
def q6 : E := (.b .quo .i64 q5 (.c 2))
def q7 : E := (.b .quo .i64 q6 (.c 2))
def q8 : E := (.b .quo .i64 q7 (.c 2))
def q9 : E := (.b .quo .i64 q8 (.c 2))
def q10 : E := (.b .quo .i64 q9 (.c 2))
def q11 : E := (.b .quo .i64 q10 (.c 2))
def q12 : E := (.b .quo .i64 q11 (.c 2))
def q13 : E := (.b .quo .i64 q12 (.c 2))
def q14 : E := (.b .quo .i64 q13 (.c 2))
def q15 : E := (.b .quo .i64 q14 (.c 2))
def q16 : E := (.b .quo .i64 q15 (.c 2))
def q17 : E := (.b .quo .i64 q16 (.c 2))
def q18 : E := (.b .quo .i64 q17 (.c 2))
def q19 : E := (.b .quo .i64 q18 (.c 2))
def q20 : E := (.b .quo .i64 q19 (.c 2))
def q21 : E := (.b .quo .i64 q20 (.c 2))
def q22 : E := (.b .quo .i64 q21 (.c 2))
def q23 : E := (.b .quo .i64 q22 (.c 2))
def q24 : E := (.b .quo .i64 q23 (.c 2))
def q25 : E := (.b .quo .i64 q24 (.c 2))
def q26 : E := (.b .quo .i64 q25 (.c 2))
def q27 : E := (.b .quo .i64 q26 (.c 2))
def q28 : E := (.b .quo .i64 q27 (.c 2))
def q29 : E := (.b .quo .i64 q28 (.c 2))
def tree : TT (List E) :=
 (.leaf [(.b .rem .i64 (.w .u32 (.v 0)) (.c 2)), (.b .rem .i64 q0 (.c 2)), (.b .rem .i64 q1 (.c 2)), (.b .rem .i64 q2 (.c 2)), (.b .rem .i64 q3 (.c 2)), (.b .rem .i64 q4 (.c 2)), (.b .rem .i64 q5 (.c 2)), (.b .rem .i64 q6 (.c 2)), (.b .rem .i64 q7 (.c 2)), (.b .rem .i64 q8 (.c 2)), (.b .rem .i64 q9 (.c 2)), (.b .rem .i64 q10 (.c 2)), (.b .rem .i64 q11 (.c 2)), (.b .rem .i64 q12 (.c 2)), (.b .rem .i64 q13 (.c 2)), (.b .rem .i64 q14 (.c 2)), (.b .rem .i64 q15 (.c 2)), (.b .rem .i64 q16 (.c 2)), (.b .rem .i64 q17 (.c 2)), (.b .rem .i64 q18 (.c 2)), (.b .rem .i64 q19 (.c 2)), (.b .rem .i64 q20 (.c 2)), (.b .rem .i64 q21 (.c 2)), (.b .rem .i64 q22 (.c 2)), (.b .rem .i64 q23 (.c 2)), (.b .rem .i64 q24 (.c 2)), (.b .rem .i64 q25 (.c 2)), (.b .rem .i64 q26 (.c 2)), (.b .rem .i64 q27 (.c 2)), (.b
 .rem .i64 q28 (.c 2)), (.b .rem .i64 q29 (.c 2)), (.b .rem .i64 (.b .quo .i64 q29 (.c 2)) (.c 2))])

noncomputable def sq0 (a : Int) : Int := (BO.ev .quo .i64 (BO.ev .quo .i64 (BO.ev .quo .i64 (BO.ev .quo .i64 (BO.ev .quo .i64 (BO.ev .quo .i64 (BO.ev .quo .i64 (BO.ev .quo .i64 (BO.ev .quo .i64 (BO.ev .quo .i64 (BO.ev .quo .i64 (BO.ev .quo .i64 (BO.ev .quo .i64 (BO.ev .quo .i64 (BO.ev .quo .i64 (BO.ev .quo .i64 (U3 a) 2) 2) 2) 2) 2) 2) 2) 2) 2) 2) 2) 2) 2) 2) 2) 2)
noncomputable def sq1 (a : Int) : Int := (BO.ev .quo .i64 (BO.ev .quo .i64 (BO.ev .quo .i64 (BO.ev .quo .i64 (BO.ev .quo .i64 (BO.ev .quo .i64 (BO.ev .quo .i64 (BO.ev .quo .i64 (sq0 a) 2) 2) 2) 2) 2) 2) 2) 2)
noncomputable def sq2 (a : Int) : Int := (BO.ev .quo .i64 (BO.ev .quo .i64 (BO.ev .quo .i64 (BO.ev .quo .i64 (BO.ev .quo .i64 (BO.ev .quo .i64 (BO.ev .quo .i64 (BO.ev .quo .i64 (U3 a) 2) 2) 2) 2) 2) 2) 2) 2)
noncomputable def sq3 (a : Int) : Int := (BO.ev .quo .i64 (BO.ev .quo .i64 (BO.ev .quo .i64 (BO.ev .quo .i64 (sq2 a) 2) 2) 2) 2)
noncomputable def sq4 (a : Int) : Int := (BO.ev .quo .i64 (BO.ev .quo .i64 (BO.ev .quo .i64 (BO.ev .quo .i64 (sq1 a) 2) 2) 2) 2)
noncomputable def sq5 (a : Int) : Int := (BO.ev .quo .i64 (BO.ev .quo .i64 (BO.ev .quo .i64 (BO.ev .quo .i64 (sq0 a) 2) 2) 2) 2)
noncomputable def sq6 (a : Int) : Int := (BO.ev .quo .i64 (BO.ev .quo .i64 (BO.ev .quo .i64 (BO.ev .quo .i64 (U3 a) 2) 2) 2) 2)
def P (a : Int) : Prop :=
 (((BO.ev .rem .i64 (U3 a) 2) : Int) = (bitZ a 0) ∧ ((BO.ev .rem .i64 (BO.ev .quo .i64 (U3 a) 2) 2) : Int) = (bitZ a 1) ∧ ((BO.ev .rem .i64 (BO.ev .quo .i64 (BO.ev .quo .i64 (U3 a) 2) 2) 2) : Int) = (bitZ a 2) ∧ ((BO.ev .rem .i64 (BO.ev .quo .i64 (BO.ev .quo .i64 (BO.ev .quo .i64 (U3 a) 2) 2) 2) 2) : Int) = (bitZ a 3) ∧ ((BO.ev .rem .i64 (sq6 a) 2) : Int) = (bitZ a 4) ∧ ((BO.ev .rem .i64 (BO.ev .quo .i64 (sq6 a) 2) 2) : Int) = (bitZ a 5) ∧ ((BO.ev .rem .i64 (BO.ev .quo .i64 (BO.ev .quo .i64 (sq6 a) 2) 2) 2) : Int) = (bitZ a 6) ∧ ((BO.ev .rem .i64 (BO.ev .quo .i64 (BO.ev .quo .i64 (BO.ev .quo .i64 (sq6 a) 2) 2) 2) 2) : Int) = (bitZ a 7) ∧ ((BO.ev .rem .i64 (sq2 a) 2) : Int) = (bitZ a 8) ∧ ((BO.ev .rem .i64 (BO.ev .quo .i64 (sq2 a) 2) 2) : Int) = (bitZ a 9) ∧ ((BO.ev .rem .i64 (BO.ev .quo
 .i64 (BO.ev .quo .i64 (sq2 a) 2) 2) 2) : Int) = (bitZ a 10) ∧ ((BO.ev .rem .i64 (BO.ev .quo .i64 (BO.ev .quo .i64 (BO.ev .quo .i64 (sq2 a) 2) 2) 2) 2) : Int) = (bitZ a 11) ∧ ((BO.ev .rem .i64 (sq3 a) 2) : Int) = (bitZ a 12) ∧ ((BO.ev .rem .i64 (BO.ev .quo .i64 (sq3 a) 2) 2) : Int) = (bitZ a 13) ∧ ((BO.ev .rem .i64 (BO.ev .quo .i64 (BO.ev .quo .i64 (sq3 a) 2) 2) 2) : Int) = (bitZ a 14) ∧ ((BO.ev .rem .i64 (BO.ev .quo .i64 (BO.ev .quo .i64 (BO.ev .quo .i64 (sq3 a) 2) 2) 2) 2) : Int) = (bitZ a 15) ∧ ((BO.ev .rem .i64 (sq0 a) 2) : Int) = (bitZ a 16) ∧ ((BO.ev .rem .i64 (BO.ev .quo .i64 (sq0 a) 2) 2) : Int) = (bitZ a 17) ∧ ((BO.ev .rem .i64 (BO.ev .quo .i64 (BO.ev .quo .i64 (sq0 a) 2) 2) 2) : Int) = (bitZ a 18) ∧ ((BO.ev .rem .i64 (BO.ev .quo .i64 (BO.ev .quo .i64 (BO.ev .quo .i64 (sq0 a) 2)
 2) 2) 2) : Int) = (bitZ a 19) ∧ ((BO.ev .rem .i64 (sq5 a) 2) : Int) = (bitZ a 20) ∧ ((BO.ev .rem .i64 (BO.ev .quo .i64 (sq5 a) 2) 2) : Int) = (bitZ a 21) ∧ ((BO.ev .rem .i64 (BO.ev .quo .i64 (BO.ev .quo .i64 (sq5 a) 2) 2) 2) : Int) = (bitZ a 22) ∧ ((BO.ev .rem .i64 (BO.ev .quo .i64 (BO.ev .quo .i64 (BO.ev .quo .i64 (sq5 a) 2) 2) 2) 2) : Int) = (bitZ a 23) ∧ ((BO.ev .rem .i64 (sq1 a) 2) : Int) = (bitZ a 24) ∧ ((BO.ev .rem .i64 (BO.ev .quo .i64 (sq1 a) 2) 2) : Int) = (bitZ a 25) ∧ ((BO.ev .rem .i64 (BO.ev .quo .i64 (BO.ev .quo .i64 (sq1 a) 2) 2) 2) : Int) = (bitZ a 26) ∧ ((BO.ev .rem .i64 (BO.ev .quo .i64 (BO.ev .quo .i64 (BO.ev .quo .i64 (sq1 a) 2) 2) 2) 2) : Int) = (bitZ a 27) ∧ ((BO.ev .rem .i64 (sq4 a) 2) : Int) = (bitZ a 28) ∧ ((BO.ev .rem .i64 (BO.ev .quo .i64 (sq4 a) 2) 2) : Int) =
 (bitZ a 29) ∧ ((BO.ev .rem .i64 (BO.ev .quo .i64 (BO.ev .quo .i64 (sq4 a) 2) 2) 2) : Int) = (bitZ a 30) ∧ ((BO.ev .rem .i64 (BO.ev .quo .i64 (BO.ev .quo .i64 (BO.ev .quo .i64 (sq4 a) 2) 2) 2) 2) : Int) = (bitZ a 31) ∧ True)

def qk (y : Int) : Nat → Int
  | 0 => y
  | k + 1 => BO.ev .quo .i64 (qk y k) 2
theorem qk_eq {y : Int} (h0 : 0 ≤ y) (h1 : y ≤ 4294967295) : ∀ k, qk y k = y / 2 ^ k
  | 0 => by rw [qk]; simp
  | k + 1 => by
    have hp : (0 : Int) < 2 ^ k := Int.pow_pos (by decide)
    have hk : 0 ≤ y / 2 ^ k := Int.ediv_nonneg h0 (by omega)
    have hk2 : y / 2 ^ k ≤ y := Int.ediv_le_self _ h0
    rw [qk, qk_eq h0 h1 k, quo_pos hk (by omega) (by decide), Int.ediv_ediv_of_nonneg (by omega), Int.pow_succ]
theorem bk {x : Int} (k : Nat) : BO.ev .rem .i64 (qk (IntKind.wrap .u32 x) k) 2 = bitZ x k := by
  have h0 : 0 ≤ IntKind.wrap .u32 x := by rw [wu32]; omega
  have h1 : IntKind.wrap .u32 x ≤ 4294967295 := by rw [wu32]; omega
  have hp : (0 : Int) < 2 ^ k := Int.pow_pos (by decide)
  rw [qk_eq h0 h1, rem_pos (Int.ediv_nonneg h0 (by omega)), wu32]; rfl
theorem holds (p0 : Int) (l_p0 : -2147483648 ≤ p0) (u_p0 : p0 ≤ 2147483647) : P p0 := by
  delta P sq0 sq1 sq2 sq3 sq4 sq5 sq6 U3
  exact ⟨bk 0, bk 1, bk 2, bk 3, bk 4, bk 5, bk 6, bk 7, bk 8, bk 9, bk 10, bk 11, bk 12, bk 13, bk 14, bk 15, bk 16, bk 17, bk 18, bk 19, bk 20, bk 21, bk 22, bk 23, bk 24, bk 25, bk 26, bk 27, bk 28, bk 29, bk 30, bk 31, trivial⟩

theorem plain (i v ro p) : statR 2 rc tree ⟨i, fN, v, ro, p⟩ = P (i 0) := by kernel_rfl
theorem ran : ranR us (fun f _ => if [127].contains f then .unroll 40 else .auto) rc 2 tree = true := by kernel_rfl
theorem fineT : fineR 2 rc tree = true := by kernel_rfl
theorem ok : RcOk (cxOf 2) rc := okR us_ok ran fineT okb fun i v ro p hρ hcap hpre => by rw [plain]; exact holds (i 0) (hρ.hi 0 _ rfl).1 (hρ.hi 0 _ rfl).2
end Go.Proofs.YtbfgkimoobkpmaaGreatDoor.CRBits
