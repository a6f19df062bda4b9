/-
  What astrolaberef07.Do answers, as numbers of what it is handed: its run by the engine, and the plain statement behind it. No condition.
-/
import Derived.Test.YtbfgkimoobkpmaaGreatDoorGab
import Derived.Test.YtbfgkimoobkpmaaGreatDoorCRLow
import Derived.Test.YtbfgkimoobkpmaaGreatDoorCRPlain
import Derived.Test.YtbfgkimoobkpmaaGreatDoorCRShl
import Derived.Test.YtbfgkimoobkpmaaGreatDoorCRShr
import Derived.Test.YtbfgkimoobkpmaaGreatDoorCRSar
import Derived.Test.YtbfgkimoobkpmaaGreatDoorCRRol
import Derived.Test.YtbfgkimoobkpmaaGreatDoorCRClz
import Derived.Test.YtbfgkimoobkpmaaGreatDoorCREach
import Derived.Test.YtbfgkimoobkpmaaGreatDoorCRMulq
import Derived.Test.YtbfgkimoobkpmaaGreatDoorCRMulr
import Derived.Test.YtbfgkimoobkpmaaGreatDoorCRQuot
import Derived.Test.YtbfgkimoobkpmaaGreatDoorCROne
import Derived.Test.YtbfgkimoobkpmaaGreatDoorGmD
namespace Go.Proofs.YtbfgkimoobkpmaaGreatDoor.CRDo
open Go.Eng Go.RowKit
set_option linter.unusedVariables false
set_option linter.unusedSimpArgs false
set_option maxRecDepth 100000
def rc : Rc := ⟨33, [none, none, none], [.int .i64, .int .i32, .int .i32], [], .tup [none, none], [.int .i32 (.f 63 (.v 0) (.v 1) (.v 2)), .bool (.f 64 (.v 0) (.v 1) (.v 2))]⟩
theorem okb : rc.ok = true := by kernel_rfl
noncomputable def us : SMs := fun Γ ins n => smH (cxG n Γ ins) [] (smR (cxG n Γ ins) [CRLow.rc, CRPlain.rc, CRShl.rc, CRShr.rc, CRSar.rc, CRRol.rc, CRClz.rc, CREach.rc, CRMulq.rc, CRMulr.rc, CRQuot.rc, CROne.rc])
theorem us_ok : SMsOk us := fun Γ ins n => smH_ok (tabsG n Γ ins) (rhs_nil _) (smR_ok (tabsG n Γ ins) (rcs_cons CRLow.okb (rc_n CRLow.ok) (rcs_cons CRPlain.okb (rc_n CRPlain.ok) (rcs_cons CRShl.okb (rc_n CRShl.ok) (rcs_cons CRShr.okb (rc_n CRShr.ok) (rcs_cons CRSar.okb (rc_n CRSar.ok) (rcs_cons CRRol.okb (rc_n CRRol.ok) (rcs_cons CRClz.okb (rc_n CRClz.ok) (rcs_cons CREach.okb (rc_n CREach.ok) (rcs_cons CRMulq.okb (rc_n CRMulq.ok) (rcs_cons CRMulr.okb (rc_n CRMulr.ok) (rcs_cons CRQuot.okb (rc_n CRQuot.ok) (rcs_cons CROne.okb (rc_n CROne.ok) (rcs_nil _))))))))))))))
def q0 : E := (te (.v 0) (.c 23))
def q1 : E := (.ite (te (.v 0) (.c 29)) (.c 29) (.c 30))
def q2 : E := (.ite (te (.v 0) (.c 28)) (.c 28) q1)
def q3 : E := (.ite (te (.v 0) (.c 27)) (.c 27) q2)
def q4 : E := (.ite (te (.v 0) (.c 26)) (.c 26) q3)
def q5 : E := (.ite (te (.v 0) (.c 25)) (.c 25) q4)
def q6 : E := (.ite (te (.v 0) (.c 24)) (.c 24) q5)
def q7 : E := (.f 63 q6 (.v 1) (.c 0))
def q8 : E := (.cl 1000 (-2147483648) 2147483647)
def q9 : E := (tp (.v 1) (.v 2))
def q10 : E := (t3 q9)
def q11 : E := (.b .psub .i64 (.v 1) (.v 2))
def q12 : E := (t3 q11)
def q13 : E := (tk q9 (.c (-2147483648)))
def q14 : E := (tk (.c 2147483647) q9)
def q15 : E := (tk q11 (.c (-2147483648)))
def q16 : E := (tk (.c 2147483647) q11)
def q17 : E := (.b .psub .i64 (.v 0) (.c 5))
def q18 : E := (t6 q17)
def q19 : E := (te q18 (.c 0))
def q20 : E := (te q18 (.c 1))
def q21 : E := (te q18 (.c 2))
def q22 : E := (.ite q21 (.c 7) (.c 8))
def q23 : E := (.ite q20 (.c 6) q22)
def q24 : E := (.ite q19 (.c 5) q23)
def q25 : E := (.f 63 q24 (.v 1) (.v 2))
def q26 : E := (.f 63 (.c 10) (.v 1) (.v 2))
def q27 : E := (.f 63 (.c 11) (.v 1) (.v 2))
def q28 : E := (.f 63 (.c 12) (.v 1) (.v 2))
def q29 : E := (tk (.v 1) (.v 2))
def q30 : E := (tk (.w .u32 (.v 1)) (.w .u32 (.v 2)))
def q31 : E := (.b .pmul .i64 (.v 1) (.v 2))
def q32 : E := (t3 q31)
def q33 : E := (.b .rem .i64 q31 (.c 4294967296))
def q34 : E := (tk q33 (.c 0))
def q35 : E := (tp q33 (.c 4294967296))
def q36 : E := (.b .psub .i64 q31 q35)
def q37 : E := (.b .quo .i64 q36 (.c 4294967296))
def q38 : E := (t3 q37)
def q39 : E := (.b .psub .i64 q31 q33)
def q40 : E := (.b .quo .i64 q39 (.c 4294967296))
def q41 : E := (t3 q40)
def q42 : E := (.f 63 (.c 20) (.v 1) (.v 2))
def q43 : E := (.f 63 (.c 21) (.v 1) (.v 2))
def q44 : E := (te q0 (.c 0))
def q45 : E := (.ite q44 (.c 22) (.c 23))
def q46 : E := (.f 63 q45 (.v 1) (.v 2))
def tree : TT (List E) :=
 (.br (tl (.c 1) (.v 0)) (.br (.nt (tl (.v 0) (.c 30))) (.leaf [(.c 0), (.c 0)]) (.br (te (.v 2) (.c 0)) (.br (te (.v 0) (.c 22)) (.leaf [(.c 0), (.c 0)]) (.br q0 (.leaf [(.c 0), (.c 0)]) (.br (tl (.c 24) (.v 0)) (.new 1000 q7 (.leaf [q8, (.c 1)])) (.br (te (.v 0) (.c 1)) (.leaf [q10, (.c 1)]) (.br (te (.v 0) (.c 2)) (.leaf [q12, (.c 1)]) (.br (te (.v 0) (.c 3)) (.br q13 (.leaf [(.c (-2147483648)), (.c 1)]) (.br q14 (.leaf [(.c 2147483647), (.c 1)]) (.leaf [q10, (.c 1)]))) (.br (te (.v 0) (.c 4)) (.br q15 (.leaf [(.c (-2147483648)), (.c 1)]) (.br q16 (.leaf [(.c 2147483647), (.c 1)]) (.leaf [q12, (.c 1)]))) (.br (te (.v 0) (.c 5)) (.new 1000 q25 (.leaf [q8, (.c 1)])) (.br (te (.v 0) (.c 6)) (.new 1000 q25 (.leaf [q8, (.c 1)])) (.br (te (.v 0) (.c 7)) (.new 1000 q25 (.leaf [q8, (.c 1)]))
 (.br (te (.v 0) (.c 8)) (.new 1000 q25 (.leaf [q8, (.c 1)])) (.br (te (.v 0) (.c 9)) (.leaf [(.f 63 (.c 9) (.v 1) (.v 2)), (.c 1)]) (.br (te (.v 0) (.c 10)) (.leaf [q26, (.c 1)]) (.br (te (.v 0) (.c 11)) (.leaf [q27, (.c 1)]) (.br (te (.v 0) (.c 12)) (.leaf [q28, (.c 1)]) (.br (te (.v 0) (.c 13)) (.br q29 (.leaf [(.c 1), (.c 1)]) (.leaf [(.c 0), (.c 1)])) (.br (te (.v 0) (.c 14)) (.br q30 (.leaf [(.c 1), (.c 1)]) (.leaf [(.c 0), (.c 1)])) (.br (te (.v 0) (.c 15)) (.br (te (.v 1) (.v 2)) (.leaf [(.c 1), (.c 1)]) (.leaf [(.c 0), (.c 1)])) (.br (te (.v 0) (.c 16)) (.br q29 (.leaf [(.v 1), (.c 1)]) (.leaf [(.v 2), (.c 1)])) (.br (te (.v 0) (.c 17)) (.br q29 (.leaf [(.v 2), (.c 1)]) (.leaf [(.v 1), (.c 1)])) (.br (te (.v 0) (.c 18)) (.leaf [q32, (.c 1)]) (.br (te (.v 0) (.c 19)) (.br q34
 (.leaf [q38, (.c 1)]) (.leaf [q41, (.c 1)])) (.br (te (.v 0) (.c 20)) (.leaf [q42, (.c 1)]) (.br (te (.v 0) (.c 21)) (.leaf [q43, (.c 1)]) (.br (.v 2) (.new 1000 q46 (.leaf [q8, (.c 1)])) (.bad 200)))))))))))))))))))))))))) (.br (tl (.c 24) (.v 0)) (.new 1000 q7 (.leaf [q8, (.c 1)])) (.br (te (.v 0) (.c 1)) (.leaf [q10, (.c 1)]) (.br (te (.v 0) (.c 2)) (.leaf [q12, (.c 1)]) (.br (te (.v 0) (.c 3)) (.br q13 (.leaf [(.c (-2147483648)), (.c 1)]) (.br q14 (.leaf [(.c 2147483647), (.c 1)]) (.leaf [q10, (.c 1)]))) (.br (te (.v 0) (.c 4)) (.br q15 (.leaf [(.c (-2147483648)), (.c 1)]) (.br q16 (.leaf [(.c 2147483647), (.c 1)]) (.leaf [q12, (.c 1)]))) (.br (te (.v 0) (.c 5)) (.new 1000 q25 (.leaf [q8, (.c 1)])) (.br (te (.v 0) (.c 6)) (.new 1000 q25 (.leaf [q8, (.c 1)])) (.br (te (.v 0) (.c 7))
 (.new 1000 q25 (.leaf [q8, (.c 1)])) (.br (te (.v 0) (.c 8)) (.new 1000 q25 (.leaf [q8, (.c 1)])) (.br (te (.v 0) (.c 9)) (.leaf [(.f 63 (.c 9) (.v 1) (.v 2)), (.c 1)]) (.br (te (.v 0) (.c 10)) (.leaf [q26, (.c 1)]) (.br (te (.v 0) (.c 11)) (.leaf [q27, (.c 1)]) (.br (te (.v 0) (.c 12)) (.leaf [q28, (.c 1)]) (.br (te (.v 0) (.c 13)) (.br q29 (.leaf [(.c 1), (.c 1)]) (.leaf [(.c 0), (.c 1)])) (.br (te (.v 0) (.c 14)) (.br q30 (.leaf [(.c 1), (.c 1)]) (.leaf [(.c 0), (.c 1)])) (.br (te (.v 0) (.c 15)) (.br (te (.v 1) (.v 2)) (.leaf [(.c 1), (.c 1)]) (.leaf [(.c 0), (.c 1)])) (.br (te (.v 0) (.c 16)) (.br q29 (.leaf [(.v 1), (.c 1)]) (.leaf [(.v 2), (.c 1)])) (.br (te (.v 0) (.c 17)) (.br q29 (.leaf [(.v 2), (.c 1)]) (.leaf [(.v 1), (.c 1)])) (.br (te (.v 0) (.c 18)) (.leaf [q32, (.c 1)])
 (.br (te (.v 0) (.c 19)) (.br q34 (.leaf [q38, (.c 1)]) (.leaf [q41, (.c 1)])) (.br (te (.v 0) (.c 20)) (.leaf [q42, (.c 1)]) (.br (te (.v 0) (.c 21)) (.leaf [q43, (.c 1)]) (.br (.v 2) (.new 1000 q46 (.leaf [q8, (.c 1)])) (.bad 200)))))))))))))))))))))))))) (.leaf [(.c 0), (.c 0)]))

noncomputable def sq0 (a b c : Int) : Int := (aluV (iteZ (Pe (W6 (a - 5)) 0) 5 (iteZ (Pe (W6 (a - 5)) 1) 6 (iteZ (Pe (W6 (a - 5)) 2) 7 8))) b c)
def sL0 (a b c z0 : Int) : Prop := (z0 : Int) = (aluV a b c) ∧ ((1 : Int) ≠ 0 ↔ ((aluK a b c) : Int) ≠ 0) ∧ True
def sq1 (a b c : Int) : Prop := (Pb (PL 24 a) (Pn (aluV (iteZ (Pe a 24) 24 (iteZ (Pe a 25) 25 (iteZ (Pe a 26) 26 (iteZ (Pe a 27) 27 (iteZ (Pe a 28) 28 (iteZ (Pe a 29) 29 30)))))) b 0) (-2147483648) 2147483647 fun y0 => ((y0 : Int) = (aluV a b c) ∧ ((1 : Int) ≠ 0 ↔ ((aluK a b c) : Int) ≠ 0) ∧ True)) (Pb (Pe a 1) (((W3 (b + c)) : Int) = (aluV a b c) ∧ ((1 : Int) ≠ 0 ↔ ((aluK a b c) : Int) ≠ 0) ∧ True) (Pb (Pe a 2) (((W3 (b - c)) : Int) = (aluV a b c) ∧ ((1 : Int) ≠ 0 ↔ ((aluK a b c) : Int) ≠ 0) ∧ True) (Pb (Pe a 3) (Pb (Pl (b + c) (-2147483648)) (((-2147483648) : Int) = (aluV a b c) ∧ ((1 : Int) ≠ 0 ↔ ((aluK a b c) : Int) ≠ 0) ∧ True) (Pb (Pl 2147483647 (b + c)) ((2147483647 : Int) = (aluV a b c) ∧ ((1 : Int) ≠ 0 ↔ ((aluK a b c) : Int) ≠ 0) ∧ True) (((W3 (b + c)) : Int) = (aluV a b c) ∧ ((1
 : Int) ≠ 0 ↔ ((aluK a b c) : Int) ≠ 0) ∧ True))) (Pb (Pe a 4) (Pb (Pl (b - c) (-2147483648)) (((-2147483648) : Int) = (aluV a b c) ∧ ((1 : Int) ≠ 0 ↔ ((aluK a b c) : Int) ≠ 0) ∧ True) (Pb (Pl 2147483647 (b - c)) ((2147483647 : Int) = (aluV a b c) ∧ ((1 : Int) ≠ 0 ↔ ((aluK a b c) : Int) ≠ 0) ∧ True) (((W3 (b - c)) : Int) = (aluV a b c) ∧ ((1 : Int) ≠ 0 ↔ ((aluK a b c) : Int) ≠ 0) ∧ True))) (Pb (Pe a 5) (Pn (sq0 a b c) (-2147483648) 2147483647 fun y0 => ((y0 : Int) = (aluV a b c) ∧ ((1 : Int) ≠ 0 ↔ ((aluK a b c) : Int) ≠ 0) ∧ True)) (Pb (Pe a 6) (Pn (sq0 a b c) (-2147483648) 2147483647 fun y0 => ((y0 : Int) = (aluV a b c) ∧ ((1 : Int) ≠ 0 ↔ ((aluK a b c) : Int) ≠ 0) ∧ True)) (Pb (Pe a 7) (Pn (sq0 a b c) (-2147483648) 2147483647 fun y0 => ((y0 : Int) = (aluV a b c) ∧ ((1 : Int) ≠ 0 ↔ ((aluK
 a b c) : Int) ≠ 0) ∧ True)) (Pb (Pe a 8) (Pn (sq0 a b c) (-2147483648) 2147483647 fun y0 => ((y0 : Int) = (aluV a b c) ∧ ((1 : Int) ≠ 0 ↔ ((aluK a b c) : Int) ≠ 0) ∧ True)) (Pb (Pe a 9) (((aluV 9 b c) : Int) = (aluV a b c) ∧ ((1 : Int) ≠ 0 ↔ ((aluK a b c) : Int) ≠ 0) ∧ True) (Pb (Pe a 10) (((aluV 10 b c) : Int) = (aluV a b c) ∧ ((1 : Int) ≠ 0 ↔ ((aluK a b c) : Int) ≠ 0) ∧ True) (Pb (Pe a 11) (((aluV 11 b c) : Int) = (aluV a b c) ∧ ((1 : Int) ≠ 0 ↔ ((aluK a b c) : Int) ≠ 0) ∧ True) (Pb (Pe a 12) (((aluV 12 b c) : Int) = (aluV a b c) ∧ ((1 : Int) ≠ 0 ↔ ((aluK a b c) : Int) ≠ 0) ∧ True) (Pb (Pe a 13) (Pb (Pl b c) ((1 : Int) = (aluV a b c) ∧ ((1 : Int) ≠ 0 ↔ ((aluK a b c) : Int) ≠ 0) ∧ True) ((0 : Int) = (aluV a b c) ∧ ((1 : Int) ≠ 0 ↔ ((aluK a b c) : Int) ≠ 0) ∧ True)) (Pb (Pe a 14) (Pb (Pl
 (U3 b) (U3 c)) ((1 : Int) = (aluV a b c) ∧ ((1 : Int) ≠ 0 ↔ ((aluK a b c) : Int) ≠ 0) ∧ True) ((0 : Int) = (aluV a b c) ∧ ((1 : Int) ≠ 0 ↔ ((aluK a b c) : Int) ≠ 0) ∧ True)) (Pb (Pe a 15) (Pb (Pe b c) ((1 : Int) = (aluV a b c) ∧ ((1 : Int) ≠ 0 ↔ ((aluK a b c) : Int) ≠ 0) ∧ True) ((0 : Int) = (aluV a b c) ∧ ((1 : Int) ≠ 0 ↔ ((aluK a b c) : Int) ≠ 0) ∧ True)) (Pb (Pe a 16) (Pb (Pl b c) ((b : Int) = (aluV a b c) ∧ ((1 : Int) ≠ 0 ↔ ((aluK a b c) : Int) ≠ 0) ∧ True) ((c : Int) = (aluV a b c) ∧ ((1 : Int) ≠ 0 ↔ ((aluK a b c) : Int) ≠ 0) ∧ True)) (Pb (Pe a 17) (Pb (Pl b c) ((c : Int) = (aluV a b c) ∧ ((1 : Int) ≠ 0 ↔ ((aluK a b c) : Int) ≠ 0) ∧ True) ((b : Int) = (aluV a b c) ∧ ((1 : Int) ≠ 0 ↔ ((aluK a b c) : Int) ≠ 0) ∧ True)) (Pb (Pe a 18) (((W3 (b * c)) : Int) = (aluV a b c) ∧ ((1 : Int) ≠
 0 ↔ ((aluK a b c) : Int) ≠ 0) ∧ True) (Pb (Pe a 19) (Pb (Pl (BO.ev .rem .i64 (b * c) 4294967296) 0) (sL0 a b c (W3 (BO.ev .quo .i64 ((b * c) - ((BO.ev .rem .i64 (b * c) 4294967296) + 4294967296)) 4294967296))) (sL0 a b c (W3 (BO.ev .quo .i64 ((b * c) - (BO.ev .rem .i64 (b * c) 4294967296)) 4294967296)))) (Pb (Pe a 20) (((aluV 20 b c) : Int) = (aluV a b c) ∧ ((1 : Int) ≠ 0 ↔ ((aluK a b c) : Int) ≠ 0) ∧ True) (Pb (Pe a 21) (((aluV 21 b c) : Int) = (aluV a b c) ∧ ((1 : Int) ≠ 0 ↔ ((aluK a b c) : Int) ≠ 0) ∧ True) (Pm c (Pn (aluV (iteZ (Pe (Pe a 23) 0) 22 23) b c) (-2147483648) 2147483647 fun y0 => ((y0 : Int) = (aluV a b c) ∧ ((1 : Int) ≠ 0 ↔ ((aluK a b c) : Int) ≠ 0) ∧ True)))))))))))))))))))))))))
def P (a b c : Int) : Prop :=
 (Pb (PL 1 a) (Pb (Pe (PL a 30) 0) ((0 : Int) = (aluV a b c) ∧ ((0 : Int) ≠ 0 ↔ ((aluK a b c) : Int) ≠ 0) ∧ True) (Pb (Pe c 0) (Pb (Pe a 22) ((0 : Int) = (aluV a b c) ∧ ((0 : Int) ≠ 0 ↔ ((aluK a b c) : Int) ≠ 0) ∧ True) (Pb (Pe a 23) ((0 : Int) = (aluV a b c) ∧ ((0 : Int) ≠ 0 ↔ ((aluK a b c) : Int) ≠ 0) ∧ True) (sq1 a b c))) (sq1 a b c))) ((0 : Int) = (aluV a b c) ∧ ((0 : Int) ≠ 0 ↔ ((aluK a b c) : Int) ≠ 0) ∧ True))

theorem satD (m : Int) : BO.ev .min .i64 (BO.ev .max .i64 m (-2147483648)) 2147483647 = if m < -2147483648 then -2147483648 else if 2147483647 < m then 2147483647 else m := by
  simp only [BO.ev]
  repeat' split
  all_goals omega
theorem wi16D (x : Int) : IntKind.wrap .i16 x = (x + 32768) % 65536 - 32768 := by
  simp [IntKind.wrap, IntKind.bits, IntKind.signed] <;> (try split) <;> omega
theorem tmD (x : Int) : BO.ev .rem .i64 x 65536 = if 0 ≤ x then x % 65536 else -((-x) % 65536) := by
  show x.tmod 65536 = _
  split
  · exact Int.tmod_eq_emod_of_nonneg (by assumption)
  · rename_i h
    rw [← Int.neg_neg x, Int.neg_tmod, Int.tmod_eq_emod_of_nonneg (by omega), Int.neg_neg]
theorem tmE (x : Int) : BO.ev .rem .i64 x 4294967296 = if 0 ≤ x then x % 4294967296 else -((-x) % 4294967296) := by
  show x.tmod 4294967296 = _
  split
  · exact Int.tmod_eq_emod_of_nonneg (by assumption)
  · rename_i h
    rw [← Int.neg_neg x, Int.neg_tmod, Int.tmod_eq_emod_of_nonneg (by omega), Int.neg_neg]
theorem tdE {x : Int} (h1 : -9223372036854775808 ≤ x) (h2 : x ≤ 9223372036854775807) : BO.ev .quo .i64 x 4294967296 = if 0 ≤ x then x / 4294967296 else -((-x) / 4294967296) := by
  show IntKind.wrap .i64 (x.tdiv 4294967296) = _
  have e : x.tdiv 4294967296 = if 0 ≤ x then x / 4294967296 else -((-x) / 4294967296) := by
    split
    · exact Int.tdiv_eq_ediv_of_nonneg (by assumption)
    · rename_i h
      rw [← Int.neg_neg x, Int.neg_tdiv, Int.tdiv_eq_ediv_of_nonneg (by omega), Int.neg_neg]
  rw [e, w64 (by split <;> omega) (by split <;> omega)]
section
variable {a b : Int}
theorem ax1 : aluX 1 a b = IntKind.wrap .i32 (a + b) := rfl
theorem ax2 : aluX 2 a b = IntKind.wrap .i32 (a - b) := rfl
theorem ax3 : aluX 3 a b = if a + b < -2147483648 then -2147483648 else if 2147483647 < a + b then 2147483647 else a + b := by rw [← satD]; rfl
theorem ax4 : aluX 4 a b = if a - b < -2147483648 then -2147483648 else if 2147483647 < a - b then 2147483647 else a - b := by rw [← satD]; rfl
theorem ax13 : aluX 13 a b = if a < b then 1 else 0 := rfl
theorem ax14 : aluX 14 a b = if IntKind.wrap .u32 a < IntKind.wrap .u32 b then 1 else 0 := rfl
theorem ax15 : aluX 15 a b = if a = b then 1 else 0 := rfl
theorem ax16 : aluX 16 a b = if b < a then b else a := rfl
theorem ax17 : aluX 17 a b = if b > a then b else a := rfl
theorem ax18 : aluX 18 a b = IntKind.wrap .i32 (a * b) := rfl
theorem ax19 : aluX 19 a b = a * b / 4294967296 := shr_ev .i64 (a * b) 32
theorem ax22 : aluX 22 a b = IntKind.wrap .i32 (IntKind.wrap .i64 (a.tdiv b)) := rfl
theorem ax23 : aluX 23 a b = IntKind.wrap .i32 (a - IntKind.wrap .i64 (IntKind.wrap .i64 (a.tdiv b) * b)) := rfl
theorem ax25 : aluX 25 a b = if 2147483647 < 0 - a then 2147483647 else 0 - a := rfl
theorem ax26 : aluX 26 a b = if (if 2147483647 < 0 - a then 2147483647 else 0 - a) > a then (if 2147483647 < 0 - a then 2147483647 else 0 - a) else a := rfl
theorem ax27 : aluX 27 a b = if a = 0 then 0 else -1 := rfl
theorem ax28 : aluX 28 a b = a / 2147483648 := shr_ev .i32 a 31
theorem ax29 : aluX 29 a b = (a + 32768) % 65536 - 32768 := wi16D a
theorem ax30 : aluX 30 a b = aluX 11 a 16 := by
  show BO.ev .shr .i32 a 16 = BO.ev .shr .i32 a (BO.ev .and .i32 16 31)
  rw [and31]; rfl
end
theorem aluV_op {p a b c : Int} (h : p = c) : aluV c a b = aluV p a b := by rw [h]
theorem aluV_24 {a b : Int} {k : Int} (h1 : 24 ≤ k) (h2 : k ≤ 30) (a1 : -2147483648 ≤ a) (a2 : a ≤ 2147483647) (b1 : -2147483648 ≤ b) (b2 : b ≤ 2147483647) : aluV k a 0 = aluV k a b := by
  rw [aluV_of (aluP_9 (by omega) h2 (by omega) (by omega)) a1 a2 (by decide) (by decide), aluV_of (aluP_9 (by omega) h2 (by omega) (by omega)) a1 a2 b1 b2]
  unfold aluX
  simp only [if_neg (show ¬ k = 1 by omega), if_neg (show ¬ k = 2 by omega), if_neg (show ¬ k = 3 by omega), if_neg (show ¬ k = 4 by omega), if_neg (show ¬ k = 5 by omega), if_neg (show ¬ k = 6 by omega), if_neg (show ¬ k = 7 by omega), if_neg (show ¬ k = 8 by omega), if_neg (show ¬ k = 9 by omega), if_neg (show ¬ k = 10 by omega), if_neg (show ¬ k = 11 by omega), if_neg (show ¬ k = 12 by omega), if_neg (show ¬ k = 13 by omega), if_neg (show ¬ k = 14 by omega), if_neg (show ¬ k = 15 by omega), if_neg (show ¬ k = 16 by omega), if_neg (show ¬ k = 17 by omega), if_neg (show ¬ k = 18 by omega), if_neg (show ¬ k = 19 by omega), if_neg (show ¬ k = 20 by omega), if_neg (show ¬ k = 21 by omega), if_neg (show ¬ k = 22 by omega), if_neg (show ¬ k = 23 by omega)]
theorem one_ix {p : Int} (h1 : 24 ≤ p) (h2 : p ≤ 30) : p = (if p = 24 then 24 else if p = 25 then 25 else if p = 26 then 26 else if p = 27 then 27 else if p = 28 then 28 else if p = 29 then 29 else 30) := by
  repeat' split
  all_goals omega
set_option maxHeartbeats 8000000 in
theorem holds (p0 p1 p2 : Int) (l_p0 : -9223372036854775808 ≤ p0) (u_p0 : p0 ≤ 9223372036854775807) (l_p1 : -2147483648 ≤ p1) (u_p1 : p1 ≤ 2147483647) (l_p2 : -2147483648 ≤ p2) (u_p2 : p2 ≤ 2147483647) : P p0 p1 p2 := by
  delta P sq0 sq1 sL0 Pb Pm Pn PL Pl Pe W6 W3 U3
  simp only [b01_eq, decide_eq_true_eq, decide_eq_false_iff_not, beq_iff_eq, beq_eq_false_iff_ne, bne_iff_ne, bne_eq_false_iff_eq, Int.not_le, Int.not_lt, true_and, and_true, iteZ_ne, ne_eq, Bool.not_eq_false, Bool.not_eq_true, not_true_eq_false, not_false_eq_true, Decidable.not_not, forall_const, false_implies, true_iff, iff_true, false_iff, iff_false, Int.reduceEq, Int.reduceNeg, eq_self, if_true, if_false, reduceIte]
  have hv : ∀ x, aluP p0 p2 → x = aluX p0 p1 p2 → (x = aluV p0 p1 p2 ∧ ¬ aluK p0 p1 p2 = 0) := fun x h e => ⟨by rw [aluV_of h l_p1 u_p1 l_p2 u_p2, e], aluK_ne.2 h⟩
  have hs : ∀ x, aluP p0 p2 → x = aluV p0 p1 p2 → (x = aluV p0 p1 p2 ∧ ¬ aluK p0 p1 p2 = 0) := fun x h e => ⟨e, aluK_ne.2 h⟩
  have hn : ¬ aluP p0 p2 → ((0 : Int) = aluV p0 p1 p2 ∧ aluK p0 p1 p2 = 0) := fun h => ⟨(aluV_no h).symm, by unfold aluK; rw [if_neg h]⟩
  have hm := mul_in l_p1 u_p1 l_p2 u_p2
  have h1 : 24 ≤ p0 → p0 ≤ 30 → (aluV (if p0 = 24 then 24 else if p0 = 25 then 25 else if p0 = 26 then 26 else if p0 = 27 then 27 else if p0 = 28 then 28 else if p0 = 29 then 29 else 30) p1 0 = aluV p0 p1 p2 ∧ ¬ aluK p0 p1 p2 = 0) := fun a b =>
    hs _ (by unfold aluP; omega) ((aluV_op (one_ix a b)).trans (aluV_24 a b l_p1 u_p1 l_p2 u_p2))
  have hh : ∀ q : Int, -4611686018427387904 ≤ q → q ≤ 4611686018427387904 → (BO.ev .rem .i64 q 4294967296 < 0 → IntKind.wrap .i32 (BO.ev .quo .i64 (q - (BO.ev .rem .i64 q 4294967296 + 4294967296)) 4294967296) = q / 4294967296) ∧ (0 ≤ BO.ev .rem .i64 q 4294967296 → IntKind.wrap .i32 (BO.ev .quo .i64 (q - BO.ev .rem .i64 q 4294967296) 4294967296) = q / 4294967296) := by
    intro q q1 q2
    have r0 := tmE q
    constructor
    · intro h
      rw [tdE (by rw [r0] at h ⊢; split at h <;> omega) (by rw [r0] at h ⊢; split at h <;> omega), r0]
      rw [r0] at h
      split at h <;> split <;> (first | (rw [wi32 (by omega) (by omega)]; omega) | omega)
    · intro h
      rw [tdE (by rw [r0] at h ⊢; split at h <;> omega) (by rw [r0] at h ⊢; split at h <;> omega), r0]
      rw [r0] at h
      split at h <;> split <;> (first | (rw [wi32 (by omega) (by omega)]; omega) | omega)
  have hq := hh (p1 * p2) hm.1 hm.2
  have w5 : 5 ≤ p0 → p0 ≤ 8 → IntKind.wrap .i64 (p0 - 5) = p0 - 5 := fun a b => w64 (by omega) (by omega)
  repeat' (first | refine ⟨fun _ => ?_, fun _ => ?_⟩ | exact hn (by unfold aluP; omega) | exact h1 (by omega) (by omega) | exact hs _ (by unfold aluP; omega) (aluV_op (by omega)) | (refine hs _ (by unfold aluP; omega) (aluV_op ?_); rw [w5 (by omega) (by omega)]; (repeat' split) <;> omega) | (refine hv _ (by unfold aluP; omega) ?_) | rintro _ rfl _)
  all_goals (try (have hk : p0 = 22 ∨ p0 = 23 ∨ ¬ (p0 = 22 ∨ p0 = 23) := by omega))
  all_goals (try subst_vars)
  all_goals first | (rw [ax1]; done) | (rw [ax2]; done) | (rw [ax18]; done) | skip
  all_goals first | (refine Eq.trans (hq.1 ?_) ax19.symm; assumption) | (refine Eq.trans (hq.2 ?_) ax19.symm; assumption) | skip
  all_goals first | rw [ax3] | rw [ax4] | rw [ax13] | rw [ax14] | rw [ax15] | rw [ax16] | rw [ax17] | skip
  all_goals first | omega | (rw [if_pos (by assumption)]; done) | (rw [if_neg (by omega), if_pos (by assumption)]; done) | (rw [if_neg (by omega), if_neg (by omega), wi32 (by omega) (by omega)]; done) | (rw [if_neg (by omega)]; done) | skip

theorem plain (i v ro p) : statR 2 rc tree ⟨i, fN, v, ro, p⟩ = P (i 0) (i 1) (i 2) := by kernel_rfl
theorem ran : ranR us (fun _ _ => .auto) rc 2 tree = true := by kernel_rfl
theorem fineT : fineR 2 rc tree = true := by kernel_rfl
theorem ok : RcOk (cxOf 2) rc := okR us_ok ran fineT okb fun i v ro p hρ hcap hpre => by rw [plain]; exact holds (i 0) (i 1) (i 2) (hρ.hi 0 _ rfl).1 (hρ.hi 0 _ rfl).2 (hρ.hi 1 _ rfl).1 (hρ.hi 1 _ rfl).2 (hρ.hi 2 _ rfl).1 (hρ.hi 2 _ rfl).2
end Go.Proofs.YtbfgkimoobkpmaaGreatDoor.CRDo
