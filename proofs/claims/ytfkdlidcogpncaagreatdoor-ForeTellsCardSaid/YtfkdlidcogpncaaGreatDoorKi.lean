/-
  What functions of the program answer, as numbers of what they are handed: their runs by the engine, the plain statements behind them. No condition.
-/
import Derived.Test.YtfkdlidcogpncaaGreatDoorKd
import Derived.Test.YtfkdlidcogpncaaGreatDoorKe
import Derived.Test.YtfkdlidcogpncaaGreatDoorKf
import Derived.Test.YtfkdlidcogpncaaGreatDoorKg
import Derived.Test.YtfkdlidcogpncaaGreatDoorKh
import Derived.Test.YtfkdlidcogpncaaGreatDoorGab
import Derived.Test.YtfkdlidcogpncaaGreatDoorGmD
import Derived.Test.YtfkdlidcogpncaaGreatDoorGmM
set_option linter.unusedVariables false
set_option linter.unusedSimpArgs false
set_option maxRecDepth 100000
namespace Go.Proofs.YtfkdlidcogpncaaGreatDoor
open Go.Eng Go.RowKit
namespace CRDo
def rc : Rc := ⟨38, [none, none, none], [.int .i64, .int .i32, .int .i32], [], .tup [none, none], [.int .i32 (.f 63 (.v 0) (.v 1) (.v 2)), .bool (.f 64 (.v 0) (.v 1) (.v 2))]⟩
theorem okb : rc.ok = true := by kernel_rfl
noncomputable def us : SMs := fun Γ ins n => smH (cxG n Γ ins) [] (smR (cxG n Γ ins) [CRLow.rc, CRPlain.rc, CRShl.rc, CRShr.rc, CRSar.rc, CRRol.rc, CRClz.rc, CREach.rc, CRMulq.rc, CRMulr.rc, CRQuot.rc, CROne.rc])
theorem us_ok : SMsOk us := fun Γ ins n => qQp (tabsG n Γ ins) (qQa _) (qQn (tabsG n Γ ins) (qQk CRLow.okb (rc_n CRLow.ok) (qQk CRPlain.okb (rc_n CRPlain.ok) (qQk CRShl.okb (rc_n CRShl.ok) (qQk CRShr.okb (rc_n CRShr.ok) (qQk CRSar.okb (rc_n CRSar.ok) (qQk CRRol.okb (rc_n CRRol.ok) (qQk CRClz.okb (rc_n CRClz.ok) (qQk CREach.okb (rc_n CREach.ok) (qQk CRMulq.okb (rc_n CRMulq.ok) (qQk CRMulr.okb (rc_n CRMulr.ok) (qQk CRQuot.okb (rc_n CRQuot.ok) (qQk CROne.okb (rc_n CROne.ok) (qQb _))))))))))))))
def Q0 : E := (te (.v 0) (.c 23))
def Q1 : E := (.ite (te (.v 0) (.c 29)) (.c 29) (.c 30))
def Q2 : E := (.ite (te (.v 0) (.c 28)) (.c 28) Q1)
def Q3 : E := (.ite (te (.v 0) (.c 27)) (.c 27) Q2)
def Q4 : E := (.ite (te (.v 0) (.c 26)) (.c 26) Q3)
def Q5 : E := (.ite (te (.v 0) (.c 25)) (.c 25) Q4)
def Q6 : E := (.ite (te (.v 0) (.c 24)) (.c 24) Q5)
def Q7 : E := (.f 63 Q6 (.v 1) (.c 0))
def Q8 : E := (.cl 1000 (-2147483648) 2147483647)
def Q9 : E := (tp (.v 1) (.v 2))
def Q10 : E := (t3 Q9)
def Q11 : E := (.b .psub .i64 (.v 1) (.v 2))
def Q12 : E := (t3 Q11)
def Q13 : E := (tk Q9 (.c (-2147483648)))
def Q14 : E := (tk (.c 2147483647) Q9)
def Q15 : E := (tk Q11 (.c (-2147483648)))
def Q16 : E := (tk (.c 2147483647) Q11)
def Q17 : E := (.b .psub .i64 (.v 0) (.c 5))
def Q18 : E := (t6 Q17)
def Q19 : E := (te Q18 (.c 0))
def Q20 : E := (te Q18 (.c 1))
def Q21 : E := (te Q18 (.c 2))
def Q22 : E := (.ite Q21 (.c 7) (.c 8))
def Q23 : E := (.ite Q20 (.c 6) Q22)
def Q24 : E := (.ite Q19 (.c 5) Q23)
def Q25 : E := (.f 63 Q24 (.v 1) (.v 2))
def Q26 : E := (.f 63 (.c 10) (.v 1) (.v 2))
def Q27 : E := (.f 63 (.c 11) (.v 1) (.v 2))
def Q28 : E := (.f 63 (.c 12) (.v 1) (.v 2))
def Q29 : E := (tk (.v 1) (.v 2))
def Q30 : E := (tk (.w .u32 (.v 1)) (.w .u32 (.v 2)))
def Q31 : E := (.b .pmul .i64 (.v 1) (.v 2))
def Q32 : E := (t3 Q31)
def Q33 : E := (.b .rem .i64 Q31 (.c 4294967296))
def Q34 : E := (tk Q33 (.c 0))
def Q35 : E := (tp Q33 (.c 4294967296))
def Q36 : E := (.b .psub .i64 Q31 Q35)
def Q37 : E := (.b .quo .i64 Q36 (.c 4294967296))
def Q38 : E := (t3 Q37)
def Q39 : E := (.b .psub .i64 Q31 Q33)
def Q40 : E := (.b .quo .i64 Q39 (.c 4294967296))
def Q41 : E := (t3 Q40)
def Q42 : E := (.f 63 (.c 20) (.v 1) (.v 2))
def Q43 : E := (.f 63 (.c 21) (.v 1) (.v 2))
def Q44 : E := (te Q0 (.c 0))
def Q45 : E := (.ite Q44 (.c 22) (.c 23))
def Q46 : E := (.f 63 Q45 (.v 1) (.v 2))
def tree : TT (List E) :=
 (.br (tl (.c 1) (.v 0)) (.br (.nt (tl (.v 0) (.c 30))) (.leaf [(.c 0), (.c 0)]) (.br (te (.v 2) (.c 0)) (.br (te (.v 0) (.c 22)) (.leaf [(.c 0), (.c 0)]) (.br Q0 (.leaf [(.c 0), (.c 0)]) (.br (tl (.c 24) (.v 0)) (.new 1000 Q7 (.leaf [Q8, (.c 1)])) (.br (te (.v 0) (.c 1)) (.leaf [Q10, (.c 1)]) (.br (te (.v 0) (.c 2)) (.leaf [Q12, (.c 1)]) (.br (te (.v 0) (.c 3)) (.br Q13 (.leaf [(.c (-2147483648)), (.c 1)]) (.br Q14 (.leaf [(.c 2147483647), (.c 1)]) (.leaf [Q10, (.c 1)]))) (.br (te (.v 0) (.c 4)) (.br Q15 (.leaf [(.c (-2147483648)), (.c 1)]) (.br Q16 (.leaf [(.c 2147483647), (.c 1)]) (.leaf [Q12, (.c 1)]))) (.br (te (.v 0) (.c 5)) (.new 1000 Q25 (.leaf [Q8, (.c 1)])) (.br (te (.v 0) (.c 6)) (.new 1000 Q25 (.leaf [Q8, (.c 1)])) (.br (te (.v 0) (.c 7)) (.new 1000 Q25 (.leaf [Q8, (.c 1)]))
 (.br (te (.v 0) (.c 8)) (.new 1000 Q25 (.leaf [Q8, (.c 1)])) (.br (te (.v 0) (.c 9)) (.leaf [(.f 63 (.c 9) (.v 1) (.v 2)), (.c 1)]) (.br (te (.v 0) (.c 10)) (.leaf [Q26, (.c 1)]) (.br (te (.v 0) (.c 11)) (.leaf [Q27, (.c 1)]) (.br (te (.v 0) (.c 12)) (.leaf [Q28, (.c 1)]) (.br (te (.v 0) (.c 13)) (.br Q29 (.leaf [(.c 1), (.c 1)]) (.leaf [(.c 0), (.c 1)])) (.br (te (.v 0) (.c 14)) (.br Q30 (.leaf [(.c 1), (.c 1)]) (.leaf [(.c 0), (.c 1)])) (.br (te (.v 0) (.c 15)) (.br (te (.v 1) (.v 2)) (.leaf [(.c 1), (.c 1)]) (.leaf [(.c 0), (.c 1)])) (.br (te (.v 0) (.c 16)) (.br Q29 (.leaf [(.v 1), (.c 1)]) (.leaf [(.v 2), (.c 1)])) (.br (te (.v 0) (.c 17)) (.br Q29 (.leaf [(.v 2), (.c 1)]) (.leaf [(.v 1), (.c 1)])) (.br (te (.v 0) (.c 18)) (.leaf [Q32, (.c 1)]) (.br (te (.v 0) (.c 19)) (.br Q34
 (.leaf [Q38, (.c 1)]) (.leaf [Q41, (.c 1)])) (.br (te (.v 0) (.c 20)) (.leaf [Q42, (.c 1)]) (.br (te (.v 0) (.c 21)) (.leaf [Q43, (.c 1)]) (.br (.v 2) (.new 1000 Q46 (.leaf [Q8, (.c 1)])) (.bad 200)))))))))))))))))))))))))) (.br (tl (.c 24) (.v 0)) (.new 1000 Q7 (.leaf [Q8, (.c 1)])) (.br (te (.v 0) (.c 1)) (.leaf [Q10, (.c 1)]) (.br (te (.v 0) (.c 2)) (.leaf [Q12, (.c 1)]) (.br (te (.v 0) (.c 3)) (.br Q13 (.leaf [(.c (-2147483648)), (.c 1)]) (.br Q14 (.leaf [(.c 2147483647), (.c 1)]) (.leaf [Q10, (.c 1)]))) (.br (te (.v 0) (.c 4)) (.br Q15 (.leaf [(.c (-2147483648)), (.c 1)]) (.br Q16 (.leaf [(.c 2147483647), (.c 1)]) (.leaf [Q12, (.c 1)]))) (.br (te (.v 0) (.c 5)) (.new 1000 Q25 (.leaf [Q8, (.c 1)])) (.br (te (.v 0) (.c 6)) (.new 1000 Q25 (.leaf [Q8, (.c 1)])) (.br (te (.v 0) (.c 7))
 (.new 1000 Q25 (.leaf [Q8, (.c 1)])) (.br (te (.v 0) (.c 8)) (.new 1000 Q25 (.leaf [Q8, (.c 1)])) (.br (te (.v 0) (.c 9)) (.leaf [(.f 63 (.c 9) (.v 1) (.v 2)), (.c 1)]) (.br (te (.v 0) (.c 10)) (.leaf [Q26, (.c 1)]) (.br (te (.v 0) (.c 11)) (.leaf [Q27, (.c 1)]) (.br (te (.v 0) (.c 12)) (.leaf [Q28, (.c 1)]) (.br (te (.v 0) (.c 13)) (.br Q29 (.leaf [(.c 1), (.c 1)]) (.leaf [(.c 0), (.c 1)])) (.br (te (.v 0) (.c 14)) (.br Q30 (.leaf [(.c 1), (.c 1)]) (.leaf [(.c 0), (.c 1)])) (.br (te (.v 0) (.c 15)) (.br (te (.v 1) (.v 2)) (.leaf [(.c 1), (.c 1)]) (.leaf [(.c 0), (.c 1)])) (.br (te (.v 0) (.c 16)) (.br Q29 (.leaf [(.v 1), (.c 1)]) (.leaf [(.v 2), (.c 1)])) (.br (te (.v 0) (.c 17)) (.br Q29 (.leaf [(.v 2), (.c 1)]) (.leaf [(.v 1), (.c 1)])) (.br (te (.v 0) (.c 18)) (.leaf [Q32, (.c 1)])
 (.br (te (.v 0) (.c 19)) (.br Q34 (.leaf [Q38, (.c 1)]) (.leaf [Q41, (.c 1)])) (.br (te (.v 0) (.c 20)) (.leaf [Q42, (.c 1)]) (.br (te (.v 0) (.c 21)) (.leaf [Q43, (.c 1)]) (.br (.v 2) (.new 1000 Q46 (.leaf [Q8, (.c 1)])) (.bad 200)))))))))))))))))))))))))) (.leaf [(.c 0), (.c 0)]))
noncomputable def sq0 (a b c : Int) : Int := (aluV (iteZ (Pe (W6 (a - 5)) 0) 5 (iteZ (Pe (W6 (a - 5)) 1) 6 (iteZ (Pe (W6 (a - 5)) 2) 7 8))) b c)
def sL0 (a b c z0 : Int) : Prop := (z0 : Int) = (aluV a b c) ∧ ((1 : Int) ≠ 0 ↔ ((aluK a b c) : Int) ≠ 0) ∧ True
def sq1 (a b c : Int) : Prop := (Pb (PL 24 a) (Pn (aluV (iteZ (Pe a 24) 24 (iteZ (Pe a 25) 25 (iteZ (Pe a 26) 26 (iteZ (Pe a 27) 27 (iteZ (Pe a 28) 28 (iteZ (Pe a 29) 29 30)))))) b 0) (-2147483648) 2147483647 fun y0 => ((y0 : Int) = (aluV a b c) ∧ ((1 : Int) ≠ 0 ↔ ((aluK a b c) : Int) ≠ 0) ∧ True)) (Pb (Pe a 1) (((W3 (b + c)) : Int) = (aluV a b c) ∧ ((1 : Int) ≠ 0 ↔ ((aluK a b c) : Int) ≠ 0) ∧ True) (Pb (Pe a 2) (((W3 (b - c)) : Int) = (aluV a b c) ∧ ((1 : Int) ≠ 0 ↔ ((aluK a b c) : Int) ≠ 0) ∧ True) (Pb (Pe a 3) (Pb (Pl (b + c) (-2147483648)) (((-2147483648) : Int) = (aluV a b c) ∧ ((1 : Int) ≠ 0 ↔ ((aluK a b c) : Int) ≠ 0) ∧ True) (Pb (Pl 2147483647 (b + c)) ((2147483647 : Int) = (aluV a b c) ∧ ((1 : Int) ≠ 0 ↔ ((aluK a b c) : Int) ≠ 0) ∧ True) (((W3 (b + c)) : Int) = (aluV a b c) ∧ ((1
 : Int) ≠ 0 ↔ ((aluK a b c) : Int) ≠ 0) ∧ True))) (Pb (Pe a 4) (Pb (Pl (b - c) (-2147483648)) (((-2147483648) : Int) = (aluV a b c) ∧ ((1 : Int) ≠ 0 ↔ ((aluK a b c) : Int) ≠ 0) ∧ True) (Pb (Pl 2147483647 (b - c)) ((2147483647 : Int) = (aluV a b c) ∧ ((1 : Int) ≠ 0 ↔ ((aluK a b c) : Int) ≠ 0) ∧ True) (((W3 (b - c)) : Int) = (aluV a b c) ∧ ((1 : Int) ≠ 0 ↔ ((aluK a b c) : Int) ≠ 0) ∧ True))) (Pb (Pe a 5) (Pn (sq0 a b c) (-2147483648) 2147483647 fun y0 => ((y0 : Int) = (aluV a b c) ∧ ((1 : Int) ≠ 0 ↔ ((aluK a b c) : Int) ≠ 0) ∧ True)) (Pb (Pe a 6) (Pn (sq0 a b c) (-2147483648) 2147483647 fun y0 => ((y0 : Int) = (aluV a b c) ∧ ((1 : Int) ≠ 0 ↔ ((aluK a b c) : Int) ≠ 0) ∧ True)) (Pb (Pe a 7) (Pn (sq0 a b c) (-2147483648) 2147483647 fun y0 => ((y0 : Int) = (aluV a b c) ∧ ((1 : Int) ≠ 0 ↔ ((aluK
 a b c) : Int) ≠ 0) ∧ True)) (Pb (Pe a 8) (Pn (sq0 a b c) (-2147483648) 2147483647 fun y0 => ((y0 : Int) = (aluV a b c) ∧ ((1 : Int) ≠ 0 ↔ ((aluK a b c) : Int) ≠ 0) ∧ True)) (Pb (Pe a 9) (((aluV 9 b c) : Int) = (aluV a b c) ∧ ((1 : Int) ≠ 0 ↔ ((aluK a b c) : Int) ≠ 0) ∧ True) (Pb (Pe a 10) (((aluV 10 b c) : Int) = (aluV a b c) ∧ ((1 : Int) ≠ 0 ↔ ((aluK a b c) : Int) ≠ 0) ∧ True) (Pb (Pe a 11) (((aluV 11 b c) : Int) = (aluV a b c) ∧ ((1 : Int) ≠ 0 ↔ ((aluK a b c) : Int) ≠ 0) ∧ True) (Pb (Pe a 12) (((aluV 12 b c) : Int) = (aluV a b c) ∧ ((1 : Int) ≠ 0 ↔ ((aluK a b c) : Int) ≠ 0) ∧ True) (Pb (Pe a 13) (Pb (Pl b c) ((1 : Int) = (aluV a b c) ∧ ((1 : Int) ≠ 0 ↔ ((aluK a b c) : Int) ≠ 0) ∧ True) ((0 : Int) = (aluV a b c) ∧ ((1 : Int) ≠ 0 ↔ ((aluK a b c) : Int) ≠ 0) ∧ True)) (Pb (Pe a 14) (Pb (Pl
 (U3 b) (U3 c)) ((1 : Int) = (aluV a b c) ∧ ((1 : Int) ≠ 0 ↔ ((aluK a b c) : Int) ≠ 0) ∧ True) ((0 : Int) = (aluV a b c) ∧ ((1 : Int) ≠ 0 ↔ ((aluK a b c) : Int) ≠ 0) ∧ True)) (Pb (Pe a 15) (Pb (Pe b c) ((1 : Int) = (aluV a b c) ∧ ((1 : Int) ≠ 0 ↔ ((aluK a b c) : Int) ≠ 0) ∧ True) ((0 : Int) = (aluV a b c) ∧ ((1 : Int) ≠ 0 ↔ ((aluK a b c) : Int) ≠ 0) ∧ True)) (Pb (Pe a 16) (Pb (Pl b c) ((b : Int) = (aluV a b c) ∧ ((1 : Int) ≠ 0 ↔ ((aluK a b c) : Int) ≠ 0) ∧ True) ((c : Int) = (aluV a b c) ∧ ((1 : Int) ≠ 0 ↔ ((aluK a b c) : Int) ≠ 0) ∧ True)) (Pb (Pe a 17) (Pb (Pl b c) ((c : Int) = (aluV a b c) ∧ ((1 : Int) ≠ 0 ↔ ((aluK a b c) : Int) ≠ 0) ∧ True) ((b : Int) = (aluV a b c) ∧ ((1 : Int) ≠ 0 ↔ ((aluK a b c) : Int) ≠ 0) ∧ True)) (Pb (Pe a 18) (((W3 (b * c)) : Int) = (aluV a b c) ∧ ((1 : Int) ≠
 0 ↔ ((aluK a b c) : Int) ≠ 0) ∧ True) (Pb (Pe a 19) (Pb (Pl (BO.ev .rem .i64 (b * c) 4294967296) 0) (sL0 a b c (W3 (BO.ev .quo .i64 ((b * c) - ((BO.ev .rem .i64 (b * c) 4294967296) + 4294967296)) 4294967296))) (sL0 a b c (W3 (BO.ev .quo .i64 ((b * c) - (BO.ev .rem .i64 (b * c) 4294967296)) 4294967296)))) (Pb (Pe a 20) (((aluV 20 b c) : Int) = (aluV a b c) ∧ ((1 : Int) ≠ 0 ↔ ((aluK a b c) : Int) ≠ 0) ∧ True) (Pb (Pe a 21) (((aluV 21 b c) : Int) = (aluV a b c) ∧ ((1 : Int) ≠ 0 ↔ ((aluK a b c) : Int) ≠ 0) ∧ True) (Pm c (Pn (aluV (iteZ (Pe (Pe a 23) 0) 22 23) b c) (-2147483648) 2147483647 fun y0 => ((y0 : Int) = (aluV a b c) ∧ ((1 : Int) ≠ 0 ↔ ((aluK a b c) : Int) ≠ 0) ∧ True)))))))))))))))))))))))))
def P (a b c : Int) : Prop :=
 (Pb (PL 1 a) (Pb (Pe (PL a 30) 0) ((0 : Int) = (aluV a b c) ∧ ((0 : Int) ≠ 0 ↔ ((aluK a b c) : Int) ≠ 0) ∧ True) (Pb (Pe c 0) (Pb (Pe a 22) ((0 : Int) = (aluV a b c) ∧ ((0 : Int) ≠ 0 ↔ ((aluK a b c) : Int) ≠ 0) ∧ True) (Pb (Pe a 23) ((0 : Int) = (aluV a b c) ∧ ((0 : Int) ≠ 0 ↔ ((aluK a b c) : Int) ≠ 0) ∧ True) (sq1 a b c))) (sq1 a b c))) ((0 : Int) = (aluV a b c) ∧ ((0 : Int) ≠ 0 ↔ ((aluK a b c) : Int) ≠ 0) ∧ True))
theorem satD (m : Int) : BO.ev .min .i64 (BO.ev .max .i64 m (-2147483648)) 2147483647 = if m < -2147483648 then -2147483648 else if 2147483647 < m then 2147483647 else m := by
 simp only [BO.ev]
 repeat' split
 all_goals omega
theorem wi16D (x : Int) : IntKind.wrap .i16 x = (x + 32768) % 65536 - 32768 := by
 simp [IntKind.wrap, IntKind.bits, IntKind.signed] <;> (try split) <;> omega
theorem tmD (x : Int) : BO.ev .rem .i64 x 65536 = if 0 ≤ x then x % 65536 else -((-x) % 65536) := by
 show x.tmod 65536 = _
 split
 ·exact Int.tmod_eq_emod_of_nonneg (by assumption)
 ·rename_i h
  rw [← Int.neg_neg x, Int.neg_tmod, Int.tmod_eq_emod_of_nonneg (by omega), Int.neg_neg]
theorem tmE (x : Int) : BO.ev .rem .i64 x 4294967296 = if 0 ≤ x then x % 4294967296 else -((-x) % 4294967296) := by
 show x.tmod 4294967296 = _
 split
 ·exact Int.tmod_eq_emod_of_nonneg (by assumption)
 ·rename_i h
  rw [← Int.neg_neg x, Int.neg_tmod, Int.tmod_eq_emod_of_nonneg (by omega), Int.neg_neg]
theorem tdE {x : Int} (h1 : -9223372036854775808 ≤ x) (h2 : x ≤ 9223372036854775807) : BO.ev .quo .i64 x 4294967296 = if 0 ≤ x then x / 4294967296 else -((-x) / 4294967296) := by
 show IntKind.wrap .i64 (x.tdiv 4294967296) = _
 have e : x.tdiv 4294967296 = if 0 ≤ x then x / 4294967296 else -((-x) / 4294967296) := by
  split
  ·exact Int.tdiv_eq_ediv_of_nonneg (by assumption)
  ·rename_i h
   rw [← Int.neg_neg x, Int.neg_tdiv, Int.tdiv_eq_ediv_of_nonneg (by omega), Int.neg_neg]
 rw [e, w64 (by split <;> omega) (by split <;> omega)]
section
variable {a b : Int}
theorem ax1 : aluX 1 a b = IntKind.wrap .i32 (a + b) := rfl
theorem ax2 : aluX 2 a b = IntKind.wrap .i32 (a - b) := rfl
theorem ax3 : aluX 3 a b = if a + b < -2147483648 then -2147483648 else if 2147483647 < a + b then 2147483647 else a + b := by rw [← satD]; rfl
theorem ax4 : aluX 4 a b = if a - b < -2147483648 then -2147483648 else if 2147483647 < a - b then 2147483647 else a - b := by rw [← satD]; rfl
theorem ax13 : aluX 13 a b = if a < b then 1 else 0 := rfl
theorem ax14 : aluX 14 a b = if IntKind.wrap .u32 a < IntKind.wrap .u32 b then 1 else 0 := rfl
theorem ax15 : aluX 15 a b = if a = b then 1 else 0 := rfl
theorem ax16 : aluX 16 a b = if b < a then b else a := rfl
theorem ax17 : aluX 17 a b = if b > a then b else a := rfl
theorem ax18 : aluX 18 a b = IntKind.wrap .i32 (a * b) := rfl
theorem ax19 : aluX 19 a b = a * b / 4294967296 := qXg .i64 (a * b) 32
theorem ax22 : aluX 22 a b = IntKind.wrap .i32 (IntKind.wrap .i64 (a.tdiv b)) := rfl
theorem ax23 : aluX 23 a b = IntKind.wrap .i32 (a - IntKind.wrap .i64 (IntKind.wrap .i64 (a.tdiv b) * b)) := rfl
theorem ax25 : aluX 25 a b = if 2147483647 < 0 - a then 2147483647 else 0 - a := rfl
theorem ax26 : aluX 26 a b = if (if 2147483647 < 0 - a then 2147483647 else 0 - a) > a then (if 2147483647 < 0 - a then 2147483647 else 0 - a) else a := rfl
theorem ax27 : aluX 27 a b = if a = 0 then 0 else -1 := rfl
theorem ax28 : aluX 28 a b = a / 2147483648 := qXg .i32 a 31
theorem ax29 : aluX 29 a b = (a + 32768) % 65536 - 32768 := wi16D a
theorem ax30 : aluX 30 a b = aluX 11 a 16 := by
 show BO.ev .shr .i32 a 16 = BO.ev .shr .i32 a (BO.ev .and .i32 16 31)
 rw [and31]; rfl
end
theorem aluV_op {p a b c : Int} (h : p = c) : aluV c a b = aluV p a b := by rw [h]
theorem aluV_24 {a b : Int} {k : Int} (h1 : 24 ≤ k) (h2 : k ≤ 30) (a1 : -2147483648 ≤ a) (a2 : a ≤ 2147483647) (b1 : -2147483648 ≤ b) (b2 : b ≤ 2147483647) : aluV k a 0 = aluV k a b := by
 rw [qJq (qKk (by omega) h2 (by omega) (by omega)) a1 a2 (by decide) (by decide), qJq (qKk (by omega) h2 (by omega) (by omega)) a1 a2 b1 b2]
 unfold aluX
 simp only [if_neg (show ¬ k = 1 by omega), if_neg (show ¬ k = 2 by omega), if_neg (show ¬ k = 3 by omega), if_neg (show ¬ k = 4 by omega), if_neg (show ¬ k = 5 by omega), if_neg (show ¬ k = 6 by omega), if_neg (show ¬ k = 7 by omega), if_neg (show ¬ k = 8 by omega), if_neg (show ¬ k = 9 by omega), if_neg (show ¬ k = 10 by omega), if_neg (show ¬ k = 11 by omega), if_neg (show ¬ k = 12 by omega), if_neg (show ¬ k = 13 by omega), if_neg (show ¬ k = 14 by omega), if_neg (show ¬ k = 15 by omega), if_neg (show ¬ k = 16 by omega), if_neg (show ¬ k = 17 by omega), if_neg (show ¬ k = 18 by omega), if_neg (show ¬ k = 19 by omega), if_neg (show ¬ k = 20 by omega), if_neg (show ¬ k = 21 by omega), if_neg (show ¬ k = 22 by omega), if_neg (show ¬ k = 23 by omega)]
theorem one_ix {p : Int} (h1 : 24 ≤ p) (h2 : p ≤ 30) : p = (if p = 24 then 24 else if p = 25 then 25 else if p = 26 then 26 else if p = 27 then 27 else if p = 28 then 28 else if p = 29 then 29 else 30) := by
 repeat' split
 all_goals omega
set_option maxHeartbeats 8000000 in
theorem holds (p0 p1 p2 : Int) (l_p0 : -9223372036854775808 ≤ p0) (u_p0 : p0 ≤ 9223372036854775807) (l_p1 : -2147483648 ≤ p1) (u_p1 : p1 ≤ 2147483647) (l_p2 : -2147483648 ≤ p2) (u_p2 : p2 ≤ 2147483647) : P p0 p1 p2 := by
 delta P sq0 sq1 sL0 Pb Pm Pn PL Pl Pe W6 W3 U3
 simp only [nrm, Int.reduceEq, Int.reduceNeg, reduceIte]
 have hv : ∀ x, aluP p0 p2 → x = aluX p0 p1 p2 → (x = aluV p0 p1 p2 ∧ ¬ aluK p0 p1 p2 = 0) := fun x h e => ⟨by rw [qJq h l_p1 u_p1 l_p2 u_p2, e], aluK_ne.2 h⟩
 have hs : ∀ x, aluP p0 p2 → x = aluV p0 p1 p2 → (x = aluV p0 p1 p2 ∧ ¬ aluK p0 p1 p2 = 0) := fun x h e => ⟨e, aluK_ne.2 h⟩
 have hn : ¬ aluP p0 p2 → ((0 : Int) = aluV p0 p1 p2 ∧ aluK p0 p1 p2 = 0) := fun h => ⟨(aluV_no h).symm, by unfold aluK; rw [if_neg h]⟩
 have hm := mul_in l_p1 u_p1 l_p2 u_p2
 have h1 : 24 ≤ p0 → p0 ≤ 30 → (aluV (if p0 = 24 then 24 else if p0 = 25 then 25 else if p0 = 26 then 26 else if p0 = 27 then 27 else if p0 = 28 then 28 else if p0 = 29 then 29 else 30) p1 0 = aluV p0 p1 p2 ∧ ¬ aluK p0 p1 p2 = 0) := fun a b =>
  hs _ (by unfold aluP; omega) ((aluV_op (one_ix a b)).trans (aluV_24 a b l_p1 u_p1 l_p2 u_p2))
 have hh : ∀ q : Int, -4611686018427387904 ≤ q → q ≤ 4611686018427387904 → (BO.ev .rem .i64 q 4294967296 < 0 → IntKind.wrap .i32 (BO.ev .quo .i64 (q - (BO.ev .rem .i64 q 4294967296 + 4294967296)) 4294967296) = q / 4294967296) ∧ (0 ≤ BO.ev .rem .i64 q 4294967296 → IntKind.wrap .i32 (BO.ev .quo .i64 (q - BO.ev .rem .i64 q 4294967296) 4294967296) = q / 4294967296) := by
  intro q q1 q2
  have r0 := tmE q
  constructor
  ·intro h
   rw [tdE (by rw [r0] at h ⊢; split at h <;> omega) (by rw [r0] at h ⊢; split at h <;> omega), r0]
   rw [r0] at h
   split at h <;> split <;> (first | (rw [wi32 (by omega) (by omega)]; omega) | omega)
  ·intro h
   rw [tdE (by rw [r0] at h ⊢; split at h <;> omega) (by rw [r0] at h ⊢; split at h <;> omega), r0]
   rw [r0] at h
   split at h <;> split <;> (first | (rw [wi32 (by omega) (by omega)]; omega) | omega)
 have hq := hh (p1 * p2) hm.1 hm.2
 have w5 : 5 ≤ p0 → p0 ≤ 8 → IntKind.wrap .i64 (p0 - 5) = p0 - 5 := fun a b => w64 (by omega) (by omega)
 repeat' (first | refine ⟨fun _ => ?_, fun _ => ?_⟩ | exact hn (by unfold aluP; omega) | exact h1 (by omega) (by omega) | exact hs _ (by unfold aluP; omega) (aluV_op (by omega)) | (refine hs _ (by unfold aluP; omega) (aluV_op ?_); rw [w5 (by omega) (by omega)]; (repeat' split) <;> omega) | (refine hv _ (by unfold aluP; omega) ?_) | rintro _ rfl _)
 all_goals (try (have hk : p0 = 22 ∨ p0 = 23 ∨ ¬ (p0 = 22 ∨ p0 = 23) := by omega))
 all_goals (try subst_vars)
 all_goals first | (rw [ax1]; done) | (rw [ax2]; done) | (rw [ax18]; done) | skip
 all_goals first | (refine Eq.trans (hq.1 ?_) ax19.symm; assumption) | (refine Eq.trans (hq.2 ?_) ax19.symm; assumption) | skip
 all_goals first | rw [ax3] | rw [ax4] | rw [ax13] | rw [ax14] | rw [ax15] | rw [ax16] | rw [ax17] | skip
 all_goals first | omega | (rw [if_pos (by assumption)]; done) | (rw [if_neg (by omega), if_pos (by assumption)]; done) | (rw [if_neg (by omega), if_neg (by omega), wi32 (by omega) (by omega)]; done) | (rw [if_neg (by omega)]; done) | skip
theorem plain (i v ro p) : statR 2 rc tree ⟨i, fN, v, ro, p⟩ = P (i 0) (i 1) (i 2) := by kernel_rfl
theorem ran : ranR us (fun _ _ => .auto) rc 2 tree = true := by kernel_rfl
theorem fineT : fineR 2 rc tree = true := by kernel_rfl
theorem ok : RcOk (cxOf 2) rc := okR us_ok ran fineT okb fun i v ro p hρ hcap hpre => by rw [plain]; have q := hρ.hi; exact holds _ _ _ (q 0 _ rfl).1 (q 0 _ rfl).2 (q 1 _ rfl).1 (q 1 _ rfl).2 (q 2 _ rfl).1 (q 2 _ rfl).2
end CRDo
namespace CRFSet
def rk : Rk := ⟨35, [(0, 31), (-2147483648, 2147483647), (-9223372036854775808, 9223372036854775807), (0, 0), (0, 999999), (0, 2048), (0, 2048), (0, 16384), (0, 1000000), (0, 1000000), (0, 1000000), (0, 1000000)], 28, [.ptr 0 0, .int .i64 (.v 0), .int .i32 (.v 1), .bool (.v 12)], [.cells (([.sl (.inp 0) 1 (.c 0) (.v 7) (some (.v 23)), .sl (.inp 1) 1 (.c 0) (.v 8) (some (.v 24)), .sl (.inp 2) 1 (.c 0) (.v 9) (some (.v 25)), .sl (.inp 3) 1 (.c 0) (.v 10) (some (.v 26)), .sl (.inp 4) 1 (.c 0) (.v 11) (some (.v 27))] : List SV) ++ bk32 (.v 13) ++ bkB (.v 14) ++ ([.sl (.own 1) 1 (.c 0) (.v 5) none, .sl (.own 2) 1 (.c 0) (.v 6) none, .sl (.own 3) 3 (.c 0) (.v 4) none, .int .i64 (.v 3), .int .i64 (.v 2)] : List SV)) 59 none, .arr [.int .i32] 21 (.v 15) (.v 5), .arr [.bool] 4 (.v 16) (.v 6), .arr [.int .i64, .int .i64, .int .i64] 40 (.v 17) (.v 4)], [], .tup [], [.cells (([.sl (.inp 0) 1 (.c 0) (.v 7) (some (.v 23)), .sl (.inp 1) 1 (.c 0) (.v 8) (some (.v 24)), .sl (.inp 2) 1 (.c 0) (.v 9) (some (.v 25)), .sl (.inp 3) 1 (.c 0) (.v 10) (some (.v 26)), .sl (.inp 4) 1 (.c 0) (.v 11) (some (.v 27))] : List SV) ++ bk32 (.v 1000000) ++ bkB (.v 1000001) ++ ([.sl (.own 1) 1 (.c 0) (.v 5) none, .sl (.own 2) 1 (.c 0) (.v 6) none, .sl (.own 3) 3 (.c 0) (.v 4) none, .int .i64 (.v 3), .int .i64 (.v 2)] : List SV)) 59 none, .arr [.int .i32] 21 (.v 15) (.v 5), .arr [.bool] 4 (.v 16) (.v 6), .arr [.int .i64, .int .i64, .int .i64] 40 (.v 17) (.v 4)], [.code [.int .i32] (.f 98 (.v 13) (.v 0) (qQv [(.v 1), (.v 12)])) (.c 32), .code [.bool] (.f 99 (.v 14) (.v 0) (.v 12)) (.c 32)], [⟨[.int .u32], (.v 18), (.v 7), (.v 23), none⟩, ⟨[.int .i32], (.v 19), (.v 8), (.v 24), none⟩, ⟨[.bool], (.v 20), (.v 9), (.v 25), none⟩, ⟨[.int .i64], (.v 21), (.v 10), (.v 26), none⟩, ⟨[.int .i64], (.v 22), (.v 11), (.v 27), none⟩]⟩
theorem okk : rk.ok = true := by kernel_rfl
theorem okh : rk.rh.ok = true := by kernel_rfl
noncomputable def us : SMs := fun Γ ins n => smH (cxG n Γ ins) [] (smR (cxG n Γ ins) [])
theorem us_ok : SMsOk us := fun Γ ins n => qQp (tabsG n Γ ins) (qQa _) (qQn (tabsG n Γ ins) (qQb _))
def tree : TT (List E) :=
(.br (.b .eq .i64 (.v 0) (.c 0))
 (.leaf [(.v 13), (.v 14)])
 (.br (.nt (.v 12))
 (.leaf [(.f 14 (.f 14 (.v 13) (.v 0) (.v 1)) (.v 0) (.c 0)), (.f 14 (.v 14) (.v 0) (.v 12))])
 (.leaf [(.f 14 (.v 13) (.v 0) (.v 1)), (.f 14 (.v 14) (.v 0) (.v 12))])))
def P (i x pc st nm nr nh nK nD nS nI nO k rx rk rm hv mq cK cD cS cI cO rK rD rS rI rO : Int) : Prop :=
 (((qQz (i == 0)) ≠ 0 →
  qQw [.int .i32] rx (rsxZ rx i (qQq x (qQq k 0))) 32 ∧ qQw [.bool] rk (rskZ rk i k) 32 ∧ True) ∧ ((qQz (i == 0)) = 0 →
  (((qQz (k == 0)) ≠ 0 →
   qQw [.int .i32] (updZ (updZ rx i x) i 0) (rsxZ rx i (qQq x (qQq k 0))) 32 ∧ qQw [.bool] (updZ rk i k) (rskZ rk i k) 32 ∧ True) ∧ ((qQz (k == 0)) = 0 →
   qQw [.int .i32] (updZ rx i x) (rsxZ rx i (qQq x (qQq k 0))) 32 ∧ qQw [.bool] (updZ rk i k) (rskZ rk i k) 32 ∧ True))))
theorem holds (i x pc st nm nr nh nK nD nS nI nO k rx rk rm hv mq cK cD cS cI cO rK rD rS rI rO : Int) (l_i : 0 ≤ i) (u_i : i ≤ 31) (l_x : -2147483648 ≤ x) (u_x : x ≤ 2147483647) (l_pc : -9223372036854775808 ≤ pc) (u_pc : pc ≤ 9223372036854775807) (l_st : 0 ≤ st) (u_st : st ≤ 0) (l_nm : 0 ≤ nm) (u_nm : nm ≤ 999999) (l_nr : 0 ≤ nr) (u_nr : nr ≤ 2048) (l_nh : 0 ≤ nh) (u_nh : nh ≤ 2048) (l_nK : 0 ≤ nK) (u_nK : nK ≤ 16384) (l_nD : 0 ≤ nD) (u_nD : nD ≤ 1000000) (l_nS : 0 ≤ nS) (u_nS : nS ≤ 1000000) (l_nI : 0 ≤ nI) (u_nI : nI ≤ 1000000) (l_nO : 0 ≤ nO) (u_nO : nO ≤ 1000000) : P i x pc st nm nr nh nK nD nS nI nO k rx rk rm hv mq cK cD cS cI cO rK rD rS rI rO := by
 unfold P
 simp only [nrm, nro, Int.reduceEq, Int.reduceNeg, reduceIte]
 simp only [rsx_ev]
 unfold rsxV rskZ
 refine ⟨fun h => ?_, fun h => ⟨fun g => ?_, fun g => ?_⟩⟩
 ·rw [if_pos h, if_pos h]; exact ⟨qQx _ _ _, qQx _ _ _⟩
 ·rw [if_neg h, if_neg h, if_neg (by omega)]
  refine ⟨rowEq_one fun j _ => ?_, qQx _ _ _⟩
  rw [qZk, qZk, qZk]
  split <;> rfl
 ·rw [if_neg h, if_neg h, if_pos g]; exact ⟨qQx _ _ _, qQx _ _ _⟩
theorem plain (i v ro p) : statH 2 rk tree ⟨i, fN, v, ro, p⟩ = P (i 0) (i 1) (i 2) (i 3) (i 4) (i 5) (i 6) (i 7) (i 8) (i 9) (i 10) (i 11) (i 12) (i 13) (i 14) (i 15) (i 16) (i 17) (i 18) (i 19) (i 20) (i 21) (i 22) (i 23) (i 24) (i 25) (i 26) (i 27) := by kernel_rfl
theorem ran : ranH us (fun _ _ => .auto) rk 2 tree = true := by kernel_rfl
theorem fineT : fineH 2 rk tree = true := by kernel_rfl
theorem ok : RhOk (cxOf 2) rk.rh := okH us_ok ran fineT (by kernel_rfl) okk fun i v ro p hρ hpre => by rw [plain]; have q := hρ.hi; exact holds _ _ _ _ _ _ _ _ _ _ _ _ _ _ _ _ _ _ _ _ _ _ _ _ _ _ _ _ (q 0 _ rfl).1 (q 0 _ rfl).2 (q 1 _ rfl).1 (q 1 _ rfl).2 (q 2 _ rfl).1 (q 2 _ rfl).2 (q 3 _ rfl).1 (q 3 _ rfl).2 (q 4 _ rfl).1 (q 4 _ rfl).2 (q 5 _ rfl).1 (q 5 _ rfl).2 (q 6 _ rfl).1 (q 6 _ rfl).2 (q 7 _ rfl).1 (q 7 _ rfl).2 (q 8 _ rfl).1 (q 8 _ rfl).2 (q 9 _ rfl).1 (q 9 _ rfl).2 (q 10 _ rfl).1 (q 10 _ rfl).2 (q 11 _ rfl).1 (q 11 _ rfl).2
end CRFSet
namespace CRBitN
def rc : Rc := ⟨108, [none], [.int .i64], [], .one, [.int .i64 (.ite (.b .lt .i64 (.v 0) (.c 0)) (.c 0) (.f 3 (.v 0) (.c 0) (.c 0)))]⟩
theorem okb : rc.ok = true := by kernel_rfl
noncomputable def us : SMs := fun Γ ins n => smH (cxG n Γ ins) [] (smR (cxG n Γ ins) [])
theorem us_ok : SMsOk us := fun Γ ins n => qQp (tabsG n Γ ins) (qQa _) (qQn (tabsG n Γ ins) (qQb _))
def tree : TT (List E) :=
(.loop ⟨1000, [some (-9223372036854775808, 9223372036854775807), some (0, 4611686018427387904)], [(.v 0), (.c 0)], 1003⟩
 (.br (.b .lt .i64 (.c 0) (.cl 1000 (-9223372036854775808) 9223372036854775807))
 (.br (.b .le .i64 (.b .padd .i64 (.cl 1001 0 4611686018427387904) (.c 1)) (.c 4611686018427387904))
 (.back [(.b .quo .i64 (.cl 1000 (-9223372036854775808) 9223372036854775807) (.c 2)), (.b .padd .i64 (.cl 1001 0 4611686018427387904) (.c 1))])
 (.bad 303))
 (.exit 0))
 (.leaf [(.cl 1001 0 4611686018427387904)]))
def P (p0 : Int) : Prop :=
 ∃ I1000 : Int → Int → Nat → Prop, (∃ m, I1000 p0 0 m) ∧
 ∀ y1000 y1001 : Int, ∀ m1000, (((-9223372036854775808) ≤ y1000 ∧ y1000 ≤ 9223372036854775807) ∧ (0 ≤ y1001 ∧ y1001 ≤ 4611686018427387904) ∧ True) → I1000 y1000 y1001 m1000 →
  (((qQz (decide (0 < y1000))) ≠ 0 →
   (((qQz (decide ((y1001 + 1) ≤ 4611686018427387904))) ≠ 0 →
    ∃ m', m' < m1000 ∧ I1000 (BO.ev .quo .i64 y1000 2) (y1001 + 1) m') ∧ ((qQz (decide ((y1001 + 1) ≤ 4611686018427387904))) = 0 →
    False))) ∧ ((qQz (decide (0 < y1000))) = 0 →
   (y1001 : Int) = (iteZ (qQz (decide (p0 < 0))) 0 (qZm p0)) ∧ True))
theorem bl_half {x : Int} (h : 0 < x) (h2 : x ≤ 9223372036854775807) : qZm x = 1 + qZm (x / 2) := by
 unfold qZm
 rw [Int.emod_eq_of_lt (by omega) (by omega), Int.emod_eq_of_lt (by omega) (by omega), Lib.bitLen_half x.toNat (by omega) (by omega), show (x / 2).toNat = x.toNat / 2 by omega]
 push_cast; rfl
theorem bl_zero : qZm 0 = 0 := by decide
theorem holds (p0 : Int) (l_p0 : -9223372036854775808 ≤ p0) (u_p0 : p0 ≤ 9223372036854775807) : P p0 := by
 unfold P
 simp only [nrm, nro, Int.reduceEq, Int.reduceNeg, reduceIte]
 refine ⟨fun x k m => (if p0 < 0 then 0 else qZm p0) = k + (if x < 0 then 0 else qZm x) ∧ (x ≤ 0 ∨ k ≤ 64) ∧ k + (if x ≤ 0 then 0 else qZm x) ≤ 64 ∧ m = x.toNat, ⟨_, by omega, by omega, ?_, rfl⟩, fun x k m hb hI => ?_⟩
 ·split
  ·omega
  ·have := bitLenB 64 (p0 % 18446744073709551616).toNat (by omega) (by omega)
   unfold qZm; omega
 obtain ⟨h1, h2, h3, rfl⟩ := hI
 have hq : 0 < x → BO.ev .quo .i64 x 2 = x / 2 := fun h => quo_pos (by omega) (by omega) (by decide)
 refine ⟨fun hx => ?_, fun hx => ?_⟩
 ·rw [hq hx]
  have hh := bl_half hx (by omega)
  rw [if_neg (show ¬ x < 0 by omega)] at h1
  rw [if_neg (show ¬ x ≤ 0 by omega)] at h3
  have hz := (show 0 ≤ qZm (x / 2) by unfold qZm; omega)
  refine ⟨by omega, _, ?_, ?_, by omega, ?_, rfl⟩
  ·omega
  ·rw [if_neg (show ¬ x / 2 < 0 by omega)]; omega
  ·split
   ·omega
   ·omega
 ·have : (if x < 0 then 0 else qZm x) = 0 := by
   by_cases h : x < 0
   ·rw [if_pos h]
   ·rw [if_neg h, show x = 0 by omega, bl_zero]
  omega
theorem plain (i v ro p) : statR 2 rc tree ⟨i, fN, v, ro, p⟩ = P (i 0) := by kernel_rfl
theorem ran : ranR us (fun _ _ => .auto) rc 2 tree = true := by kernel_rfl
theorem fineT : fineR 2 rc tree = true := by kernel_rfl
theorem ok : RcOk (cxOf 2) rc := okR us_ok ran fineT okb fun i v ro p hρ hcap hpre => by rw [plain]; have q := hρ.hi; exact holds _ (q 0 _ rfl).1 (q 0 _ rfl).2
end CRBitN
namespace CRCost6
def rc : Rc := ⟨110, [none], [.int .i64], [], .one, [.int .i64 (.f 66 (.v 0) (.c 0) (.c 0))]⟩
theorem okb : rc.ok = true := by kernel_rfl
noncomputable def us : SMs := fun Γ ins n => smH (cxG n Γ ins) [] (smR (cxG n Γ ins) [])
theorem us_ok : SMsOk us := fun Γ ins n => qQp (tabsG n Γ ins) (qQa _) (qQn (tabsG n Γ ins) (qQb _))
def Q0 : E := (.b .psub .i64 (.v 0) (.c 1))
def Q1 : E := (t6 Q0)
def Q2 : E := (tC (.c 100) (.c 0))
def Q3 : E := (tC (.c 115) (.c 0))
def Q4 : E := (tC (.c 98) Q3)
def Q5 : E := (tC (.c 114) (.c 0))
def Q6 : E := (tC (.c 111) Q5)
def Q7 : E := (tC (.c 108) (.c 0))
def Q8 : E := (tC (.c 116) (.c 0))
def Q9 : E := (tC (.c 108) Q8)
def Q10 : E := (tC (.c 113) (.c 0))
def Q11 : E := (tC (.c 101) Q10)
def Q12 : E := (tC (.c 110) (.c 0))
def Q13 : E := (tC (.c 104) (.c 0))
def Q14 : E := (tC (.c 105) (.c 0))
def Q15 : E := (tC (.c 119) (.c 0))
def Q16 : E := (tC (.c 112) (.c 0))
def tree : TT (List E) :=
 (.br (tk (.v 0) (.c 1)) (.leaf [(.c 0)]) (.br (tk (.c 43) (.v 0)) (.leaf [(.c 0)]) (.br (tl (.c 0) Q1) (.br (tk Q1 (.c 43)) (.br (.f 20 (tR (tC (tC (.c 3) (tC (tC (.c 97) (tC (.c 100) Q2)) (.c 0))) (tC (tC (.c 3) (tC (tC (.c 115) (tC (.c 117) (tC (.c 98) (.c 0)))) (.c 0))) (tC (tC (.c 4) (tC (tC (.c 97) (tC (.c 100) (tC (.c 100) Q3))) (.c 0))) (tC (tC (.c 4) (tC (tC (.c 115) (tC (.c 117) Q4)) (.c 0))) (tC (tC (.c 3) (tC (tC (.c 97) (tC (.c 110) Q2)) (.c 0))) (tC (tC (.c 2) (tC Q6 (.c 0))) (tC (tC (.c 3) (tC (tC (.c 120) Q6) (.c 0))) (tC (tC (.c 3) (tC (tC (.c 98) (tC (.c 105) (tC (.c 99) (.c 0)))) (.c 0))) (tC (tC (.c 3) (tC (tC (.c 115) (tC (.c 104) Q7)) (.c 0))) (tC (tC (.c 3) (tC (tC (.c 115) (tC (.c 104) Q5)) (.c 0))) (tC (tC (.c 3) (tC (tC (.c 115) (tC (.c 97) Q5)) (.c 0))) (tC (tC
 (.c 3) (tC (tC (.c 114) (tC (.c 111) Q7)) (.c 0))) (tC (tC (.c 3) (tC (tC (.c 115) Q9) (.c 0))) (tC (tC (.c 4) (tC (tC (.c 115) (tC (.c 108) (tC (.c 116) (tC (.c 117) (.c 0))))) (.c 0))) (tC (tC (.c 3) (tC (tC (.c 115) Q11) (.c 0))) (tC (tC (.c 3) (tC (tC (.c 109) (tC (.c 105) Q12)) (.c 0))) (tC (tC (.c 3) (tC (tC (.c 109) (tC (.c 97) (tC (.c 120) (.c 0)))) (.c 0))) (tC (tC (.c 3) (tC (tC (.c 109) (tC (.c 117) Q7)) (.c 0))) (tC (tC (.c 4) (tC (tC (.c 109) (tC (.c 117) (tC (.c 108) Q13))) (.c 0))) (tC (tC (.c 4) (tC (tC (.c 109) (tC (.c 117) (tC (.c 108) Q10))) (.c 0))) (tC (tC (.c 4) (tC (tC (.c 109) (tC (.c 117) (tC (.c 108) Q5))) (.c 0))) (tC (tC (.c 3) (tC (tC (.c 100) (tC (.c 105) (tC (.c 118) (.c 0)))) (.c 0))) (tC (tC (.c 3) (tC (tC (.c 114) (tC (.c 101) (tC (.c 109) (.c 0)))) (.c
 0))) (tC (tC (.c 3) (tC (tC (.c 99) (tC (.c 108) (tC (.c 122) (.c 0)))) (.c 0))) (tC (tC (.c 3) (tC (tC (.c 110) (tC (.c 101) (tC (.c 103) (.c 0)))) (.c 0))) (tC (tC (.c 3) (tC (tC (.c 97) Q4) (.c 0))) (tC (tC (.c 4) (tC (tC (.c 109) (tC (.c 97) (tC (.c 115) (tC (.c 107) (.c 0))))) (.c 0))) (tC (tC (.c 4) (tC (tC (.c 115) (tC (.c 105) (tC (.c 103) Q12))) (.c 0))) (tC (tC (.c 4) (tC (tC (.c 104) (tC (.c 97) (tC (.c 108) (tC (.c 102) (.c 0))))) (.c 0))) (tC (tC (.c 4) (tC (tC (.c 104) (tC (.c 105) (tC (.c 103) Q13))) (.c 0))) (tC (tC (.c 4) (tC (tC (.c 97) (tC (.c 100) (tC (.c 100) Q14))) (.c 0))) (tC (tC (.c 3) (tC (tC (.c 111) (tC (.c 114) Q14)) (.c 0))) (tC (tC (.c 3) (tC (tC (.c 108) (tC (.c 117) Q14)) (.c 0))) (tC (tC (.c 2) (tC (tC (.c 108) Q15) (.c 0))) (tC (tC (.c 2) (tC (tC (.c
 115) Q15) (.c 0))) (tC (tC (.c 3) (tC (tC (.c 98) Q11) (.c 0))) (tC (tC (.c 3) (tC (tC (.c 98) (tC (.c 110) (tC (.c 101) (.c 0)))) (.c 0))) (tC (tC (.c 3) (tC (tC (.c 98) Q9) (.c 0))) (tC (tC (.c 4) (tC (tC (.c 106) (tC (.c 117) (tC (.c 109) Q16))) (.c 0))) (tC (tC (.c 3) (tC (tC (.c 106) (tC (.c 97) Q7)) (.c 0))) (tC (tC (.c 2) (tC (tC (.c 106) Q5) (.c 0))) (tC (tC (.c 3) (tC (tC (.c 110) (tC (.c 111) Q16)) (.c 0))) (tC (tC (.c 4) (tC (tC (.c 104) (tC (.c 97) Q9)) (.c 0))) (.c 0)))))))))))))))))))))))))))))))))))))))))))) Q1) (tC (.c 0) (tC (.c 0) (.c 0))) (.c 0)) (.leaf [(.c 0)]) (.br (te (.c 18) (.v 0)) (.leaf [(.c 3)]) (.br (te (.c 19) (.v 0)) (.leaf [(.c 3)]) (.br (te (.c 20) (.v 0)) (.leaf [(.c 3)]) (.br (te (.c 21) (.v 0)) (.leaf [(.c 3)]) (.br (te (.c 39) (.v 0)) (.leaf [(.c 3)])
 (.br (te (.c 40) (.v 0)) (.leaf [(.c 3)]) (.br (te (.c 41) (.v 0)) (.leaf [(.c 3)]) (.br (te (.c 22) (.v 0)) (.leaf [(.c 2)]) (.br (te (.c 23) (.v 0)) (.leaf [(.c 2)]) (.br (te (.c 34) (.v 0)) (.leaf [(.c 2)]) (.br (te (.c 35) (.v 0)) (.leaf [(.c 2)]) (.leaf [(.c 1)]))))))))))))) (.bad 200)) (.bad 200))))
def P (a : Int) : Prop :=
 (Pb (Pl a 1) ((0 : Int) = (opCo a) ∧ True) (Pb (Pl 43 a) ((0 : Int) = (opCo a) ∧ True) (Pm (PL 0 (W6 (a - 1))) (Pm (Pl (W6 (a - 1)) 43) (Pb (seqZ (rdZ (kZ (kZ 3 (kZ (kZ 97 (kZ 100 (kZ 100 0))) 0)) (kZ (kZ 3 (kZ (kZ 115 (kZ 117 (kZ 98 0))) 0)) (kZ (kZ 4 (kZ (kZ 97 (kZ 100 (kZ 100 (kZ 115 0)))) 0)) (kZ (kZ 4 (kZ (kZ 115 (kZ 117 (kZ 98 (kZ 115 0)))) 0)) (kZ (kZ 3 (kZ (kZ 97 (kZ 110 (kZ 100 0))) 0)) (kZ (kZ 2 (kZ (kZ 111 (kZ 114 0)) 0)) (kZ (kZ 3 (kZ (kZ 120 (kZ 111 (kZ 114 0))) 0)) (kZ (kZ 3 (kZ (kZ 98 (kZ 105 (kZ 99 0))) 0)) (kZ (kZ 3 (kZ (kZ 115 (kZ 104 (kZ 108 0))) 0)) (kZ (kZ 3 (kZ (kZ 115 (kZ 104 (kZ 114 0))) 0)) (kZ (kZ 3 (kZ (kZ 115 (kZ 97 (kZ 114 0))) 0)) (kZ (kZ 3 (kZ (kZ 114 (kZ 111 (kZ 108 0))) 0)) (kZ (kZ 3 (kZ (kZ 115 (kZ 108 (kZ 116 0))) 0)) (kZ (kZ 4 (kZ (kZ 115 (kZ 108 (kZ
 116 (kZ 117 0)))) 0)) (kZ (kZ 3 (kZ (kZ 115 (kZ 101 (kZ 113 0))) 0)) (kZ (kZ 3 (kZ (kZ 109 (kZ 105 (kZ 110 0))) 0)) (kZ (kZ 3 (kZ (kZ 109 (kZ 97 (kZ 120 0))) 0)) (kZ (kZ 3 (kZ (kZ 109 (kZ 117 (kZ 108 0))) 0)) (kZ (kZ 4 (kZ (kZ 109 (kZ 117 (kZ 108 (kZ 104 0)))) 0)) (kZ (kZ 4 (kZ (kZ 109 (kZ 117 (kZ 108 (kZ 113 0)))) 0)) (kZ (kZ 4 (kZ (kZ 109 (kZ 117 (kZ 108 (kZ 114 0)))) 0)) (kZ (kZ 3 (kZ (kZ 100 (kZ 105 (kZ 118 0))) 0)) (kZ (kZ 3 (kZ (kZ 114 (kZ 101 (kZ 109 0))) 0)) (kZ (kZ 3 (kZ (kZ 99 (kZ 108 (kZ 122 0))) 0)) (kZ (kZ 3 (kZ (kZ 110 (kZ 101 (kZ 103 0))) 0)) (kZ (kZ 3 (kZ (kZ 97 (kZ 98 (kZ 115 0))) 0)) (kZ (kZ 4 (kZ (kZ 109 (kZ 97 (kZ 115 (kZ 107 0)))) 0)) (kZ (kZ 4 (kZ (kZ 115 (kZ 105 (kZ 103 (kZ 110 0)))) 0)) (kZ (kZ 4 (kZ (kZ 104 (kZ 97 (kZ 108 (kZ 102 0)))) 0)) (kZ (kZ 4 (kZ (kZ 104
 (kZ 105 (kZ 103 (kZ 104 0)))) 0)) (kZ (kZ 4 (kZ (kZ 97 (kZ 100 (kZ 100 (kZ 105 0)))) 0)) (kZ (kZ 3 (kZ (kZ 111 (kZ 114 (kZ 105 0))) 0)) (kZ (kZ 3 (kZ (kZ 108 (kZ 117 (kZ 105 0))) 0)) (kZ (kZ 2 (kZ (kZ 108 (kZ 119 0)) 0)) (kZ (kZ 2 (kZ (kZ 115 (kZ 119 0)) 0)) (kZ (kZ 3 (kZ (kZ 98 (kZ 101 (kZ 113 0))) 0)) (kZ (kZ 3 (kZ (kZ 98 (kZ 110 (kZ 101 0))) 0)) (kZ (kZ 3 (kZ (kZ 98 (kZ 108 (kZ 116 0))) 0)) (kZ (kZ 4 (kZ (kZ 106 (kZ 117 (kZ 109 (kZ 112 0)))) 0)) (kZ (kZ 3 (kZ (kZ 106 (kZ 97 (kZ 108 0))) 0)) (kZ (kZ 2 (kZ (kZ 106 (kZ 114 0)) 0)) (kZ (kZ 3 (kZ (kZ 110 (kZ 111 (kZ 112 0))) 0)) (kZ (kZ 4 (kZ (kZ 104 (kZ 97 (kZ 108 (kZ 116 0)))) 0)) 0))))))))))))))))))))))))))))))))))))))))))) (W6 (a - 1))) (kZ 0 (kZ 0 0))) ((0 : Int) = (opCo a) ∧ True) (Pb (Pe 18 a) ((3 : Int) = (opCo a) ∧ True) (Pb (Pe
 19 a) ((3 : Int) = (opCo a) ∧ True) (Pb (Pe 20 a) ((3 : Int) = (opCo a) ∧ True) (Pb (Pe 21 a) ((3 : Int) = (opCo a) ∧ True) (Pb (Pe 39 a) ((3 : Int) = (opCo a) ∧ True) (Pb (Pe 40 a) ((3 : Int) = (opCo a) ∧ True) (Pb (Pe 41 a) ((3 : Int) = (opCo a) ∧ True) (Pb (Pe 22 a) ((2 : Int) = (opCo a) ∧ True) (Pb (Pe 23 a) ((2 : Int) = (opCo a) ∧ True) (Pb (Pe 34 a) ((2 : Int) = (opCo a) ∧ True) (Pb (Pe 35 a) ((2 : Int) = (opCo a) ∧ True) ((1 : Int) = (opCo a) ∧ True)))))))))))))))))
def AllS : List Int → Prop
 | [] => True
 | x :: l => (∃ n y, x = qQq n y ∧ 1 ≤ n ∧ n ≤ 10) ∧ AllS l
theorem AllS.get : ∀ {l : List Int}, AllS l → ∀ k, k < l.length → ∃ n y, l.getD k 0 = qQq n y ∧ 1 ≤ n ∧ n ≤ 10
 | x :: l, h, 0, _ => h.1
 | x :: l, h, k + 1, hk => by
  have := h.2.get k (by simpa using hk)
  simpa using this
noncomputable def nmL : List Int := [(qQq 3 (qQq (qQq 97 (qQq 100 (qQq 100 0))) 0)), (qQq 3 (qQq (qQq 115 (qQq 117 (qQq 98 0))) 0)), (qQq 4 (qQq (qQq 97 (qQq 100 (qQq 100 (qQq 115 0)))) 0)), (qQq 4 (qQq (qQq 115 (qQq 117 (qQq 98 (qQq 115 0)))) 0)), (qQq 3 (qQq (qQq 97 (qQq 110 (qQq 100 0))) 0)), (qQq 2 (qQq (qQq 111 (qQq 114 0)) 0)), (qQq 3 (qQq (qQq 120 (qQq 111 (qQq 114 0))) 0)), (qQq 3 (qQq (qQq 98 (qQq 105 (qQq 99 0))) 0)), (qQq 3 (qQq (qQq 115 (qQq 104 (qQq 108 0))) 0)), (qQq 3 (qQq (qQq 115 (qQq 104 (qQq 114 0))) 0)), (qQq 3 (qQq (qQq 115 (qQq 97 (qQq 114 0))) 0)), (qQq 3 (qQq (qQq 114 (qQq 111 (qQq 108 0))) 0)), (qQq 3 (qQq (qQq 115 (qQq 108 (qQq 116 0))) 0)), (qQq 4 (qQq (qQq 115 (qQq 108 (qQq 116 (qQq 117 0)))) 0)), (qQq 3 (qQq (qQq 115 (qQq 101 (qQq 113 0))) 0)), (qQq 3 (qQq (qQq 109 (qQq 105 (qQq 110 0))) 0)), (qQq 3 (qQq (qQq 109 (qQq 97 (qQq 120 0))) 0)), (qQq 3 (qQq (qQq 109 (qQq 117 (qQq 108 0))) 0)), (qQq 4 (qQq (qQq 109 (qQq 117 (qQq 108 (qQq 104 0)))) 0)), (qQq 4 (qQq (qQq 109 (qQq 117 (qQq 108 (qQq 113 0)))) 0)), (qQq 4 (qQq (qQq 109 (qQq 117 (qQq 108 (qQq 114 0)))) 0)), (qQq 3 (qQq (qQq 100 (qQq 105 (qQq 118 0))) 0)), (qQq 3 (qQq (qQq 114 (qQq 101 (qQq 109 0))) 0)), (qQq 3 (qQq (qQq 99 (qQq 108 (qQq 122 0))) 0)), (qQq 3 (qQq (qQq 110 (qQq 101 (qQq 103 0))) 0)), (qQq 3 (qQq (qQq 97 (qQq 98 (qQq 115 0))) 0)), (qQq 4 (qQq (qQq 109 (qQq 97 (qQq 115 (qQq 107 0)))) 0)), (qQq 4 (qQq (qQq 115 (qQq 105 (qQq 103 (qQq 110 0)))) 0)), (qQq 4 (qQq (qQq 104 (qQq 97 (qQq 108 (qQq 102 0)))) 0)), (qQq 4 (qQq (qQq 104 (qQq 105 (qQq 103 (qQq 104 0)))) 0)), (qQq 4 (qQq (qQq 97 (qQq 100 (qQq 100 (qQq 105 0)))) 0)), (qQq 3 (qQq (qQq 111 (qQq 114 (qQq 105 0))) 0)), (qQq 3 (qQq (qQq 108 (qQq 117 (qQq 105 0))) 0)), (qQq 2 (qQq (qQq 108 (qQq 119 0)) 0)), (qQq 2 (qQq (qQq 115 (qQq 119 0)) 0)), (qQq 3 (qQq (qQq 98 (qQq 101 (qQq 113 0))) 0)), (qQq 3 (qQq (qQq 98 (qQq 110 (qQq 101 0))) 0)), (qQq 3 (qQq (qQq 98 (qQq 108 (qQq 116 0))) 0)), (qQq 4 (qQq (qQq 106 (qQq 117 (qQq 109 (qQq 112 0)))) 0)), (qQq 3 (qQq (qQq 106 (qQq 97 (qQq 108 0))) 0)), (qQq 2 (qQq (qQq 106 (qQq 114 0)) 0)), (qQq 3 (qQq (qQq 110 (qQq 111 (qQq 112 0))) 0)), (qQq 4 (qQq (qQq 104 (qQq 97 (qQq 108 (qQq 116 0)))) 0))]
theorem nm_all : AllS nmL := by
 unfold nmL
 repeat (first | trivial | refine ⟨⟨_, _, rfl, by decide, by decide⟩, ?_⟩)
theorem nm_no {k : Int} (h0 : 0 ≤ k) (h1 : k < 43) : ¬ seqZ (rdZ (chn nmL) k) (qQq 0 (qQq 0 0)) ≠ 0 := by
 rw [show k = ((k.toNat : Nat) : Int) by omega, qJz]
 obtain ⟨n, y, h, h2, h3⟩ := nm_all.get k.toNat (by show k.toNat < 43; omega)
 rw [h]
 intro hs
 have hz := (seq_empty _).1 hs
 rw [slen_cons] at hz
 rw [if_neg (by omega), if_neg (by unfold qKf; omega)] at hz
 omega
set_option maxRecDepth 100000 in
theorem holds (p0 : Int) (l_p0 : -9223372036854775808 ≤ p0) (u_p0 : p0 ≤ 9223372036854775807) : P p0 := by
 delta P Pb Pm PL Pl Pe W6 kZ
 have wk : 1 ≤ p0 → p0 ≤ 43 → IntKind.wrap .i64 (p0 - 1) = p0 - 1 := fun a b => w64 (by omega) (by omega)
 simp only [nrm, Int.reduceEq, Int.reduceNeg, reduceIte]
 have op : ∀ c, opCo p0 = c → c = opCo p0 := fun c h => h.symm
 refine ⟨fun h => ?_, fun h => ⟨fun h2 => ?_, fun h2 => ?_⟩⟩
 ·unfold opCo; rw [if_pos (by omega)]
 ·unfold opCo; rw [if_pos (by omega)]
 ·rw [wk (by omega) (by omega)]
  refine ⟨fun _ => ⟨fun _ => ⟨fun h3 => absurd h3 (nm_no (by omega) (by omega)), fun _ => ?_⟩, fun h => by omega⟩, fun h => by omega⟩
  unfold opCo
  rw [if_neg (by omega)]
  repeat' (first | refine ⟨fun _ => ?_, fun _ => ?_⟩ | fail)
  all_goals (repeat' split) <;> omega
theorem plain (i v ro p) : statR 2 rc tree ⟨i, fN, v, ro, p⟩ = P (i 0) := by kernel_rfl
theorem ran : ranR us (fun f _ => if [147].contains f then .unroll 400 else .auto) rc 2 tree = true := by kernel_rfl
theorem fineT : fineR 2 rc tree = true := by kernel_rfl
theorem ok : RcOk (cxOf 2) rc := okR us_ok ran fineT okb fun i v ro p hρ hcap hpre => by rw [plain]; have q := hρ.hi; exact holds _ (q 0 _ rfl).1 (q 0 _ rfl).2
end CRCost6
namespace CRCost7
def rc : Rc := ⟨61, [none, none], [.int .i64, .int .i32], [], .one, [.int .i64 (.f 65 (.v 0) (.v 1) (.c 0))]⟩
theorem okb : rc.ok = true := by kernel_rfl
noncomputable def us : SMs := fun Γ ins n => smH (cxG n Γ ins) [] (smR (cxG n Γ ins) [CRBitN.rc, CRCost6.rc])
theorem us_ok : SMsOk us := fun Γ ins n => qQp (tabsG n Γ ins) (qQa _) (qQn (tabsG n Γ ins) (qQk CRBitN.okb (rc_n CRBitN.ok) (qQk CRCost6.okb (rc_n CRCost6.ok) (qQb _))))
def tree : TT (List E) :=
(.br (.b .eq .i64 (.v 0) (.c 22))
 (.br (.b .lt .i64 (.v 1) (.c 0))
 (.new 1000 (.ite (.b .lt .i64 (.b .psub .i64 (.c 0) (.v 1)) (.c 0)) (.c 0) (.f 3 (.b .psub .i64 (.c 0) (.v 1)) (.c 0) (.c 0)))
 (.leaf [(.b .padd .i64 (.c 2) (.cl 1000 0 64))]))
 (.leaf [(.b .padd .i64 (.c 2) (.ite (.b .lt .i64 (.v 1) (.c 0)) (.c 0) (.f 3 (.v 1) (.c 0) (.c 0))))]))
 (.br (.b .eq .i64 (.v 0) (.c 23))
 (.br (.b .lt .i64 (.v 1) (.c 0))
 (.new 1000 (.ite (.b .lt .i64 (.b .psub .i64 (.c 0) (.v 1)) (.c 0)) (.c 0) (.f 3 (.b .psub .i64 (.c 0) (.v 1)) (.c 0) (.c 0)))
 (.leaf [(.b .padd .i64 (.c 2) (.cl 1000 0 64))]))
 (.leaf [(.b .padd .i64 (.c 2) (.ite (.b .lt .i64 (.v 1) (.c 0)) (.c 0) (.f 3 (.v 1) (.c 0) (.c 0))))]))
 (.leaf [(.f 66 (.v 0) (.c 0) (.c 0))])))
def P (p0 p1 : Int) : Prop :=
 (((qQz (p0 == 22)) ≠ 0 →
  (((qQz (decide (p1 < 0))) ≠ 0 →
   ∀ y1000 : Int, y1000 = (iteZ (qQz (decide ((0 - p1) < 0))) 0 (qZm (0 - p1))) → (0 ≤ y1000 ∧ y1000 ≤ 64) →
   ((2 + y1000) : Int) = (aluC p0 p1) ∧ True) ∧ ((qQz (decide (p1 < 0))) = 0 →
   ((2 + (iteZ (qQz (decide (p1 < 0))) 0 (qZm p1))) : Int) = (aluC p0 p1) ∧ True))) ∧ ((qQz (p0 == 22)) = 0 →
  (((qQz (p0 == 23)) ≠ 0 →
   (((qQz (decide (p1 < 0))) ≠ 0 →
    ∀ y1000 : Int, y1000 = (iteZ (qQz (decide ((0 - p1) < 0))) 0 (qZm (0 - p1))) → (0 ≤ y1000 ∧ y1000 ≤ 64) →
    ((2 + y1000) : Int) = (aluC p0 p1) ∧ True) ∧ ((qQz (decide (p1 < 0))) = 0 →
    ((2 + (iteZ (qQz (decide (p1 < 0))) 0 (qZm p1))) : Int) = (aluC p0 p1) ∧ True))) ∧ ((qQz (p0 == 23)) = 0 →
   ((opCo p0) : Int) = (aluC p0 p1) ∧ True))))
theorem aluL_pos {a : Int} (h : 0 ≤ a) (h2 : a ≤ 2147483647) : aluL a = qZm a := by
 unfold aluL qZm
 rw [if_neg (by omega), show IntKind.wrap .u64 a = a from qJt .u64 _ (show (0 : Int) ≤ _ by omega) (show _ ≤ (18446744073709551615 : Int) by omega)]
theorem aluL_neg {a : Int} (h : a < 0) (h2 : -2147483648 ≤ a) : aluL a = qZm (0 - a) := by
 unfold aluL qZm
 rw [if_pos (by omega), show IntKind.wrap .u64 (0 - a) = 0 - a from qJt .u64 _ (show (0 : Int) ≤ _ by omega) (show _ ≤ (18446744073709551615 : Int) by omega)]
theorem holds (p0 p1 : Int) (l_p0 : -9223372036854775808 ≤ p0) (u_p0 : p0 ≤ 9223372036854775807) (l_p1 : -2147483648 ≤ p1) (u_p1 : p1 ≤ 2147483647) : P p0 p1 := by
 unfold P
 have c2 : ∀ p, p = 22 ∨ p = 23 → aluC p p1 = 2 + aluL p1 := fun p h => by
  unfold aluC opCo
  rw [if_pos h, if_neg (by omega), if_neg (by omega), if_pos (by omega)]
 simp only [nrm, Int.reduceEq, Int.reduceNeg, reduceIte]
 refine ⟨fun h => ⟨fun g => ?_, fun g => ?_⟩, fun h => ⟨fun h2 => ⟨fun g => ?_, fun g => ?_⟩, fun h2 => ?_⟩⟩
 ·rintro _ rfl _
  rw [c2 p0 (.inl h), aluL_neg g l_p1, if_neg (by omega)]
 ·rw [c2 p0 (.inl h), aluL_pos g u_p1, if_neg (by omega)]
 ·rintro _ rfl _
  rw [c2 p0 (.inr h2), aluL_neg g l_p1, if_neg (by omega)]
 ·rw [c2 p0 (.inr h2), aluL_pos g u_p1, if_neg (by omega)]
 ·unfold aluC; rw [if_neg (by omega)]; omega
theorem plain (i v ro p) : statR 2 rc tree ⟨i, fN, v, ro, p⟩ = P (i 0) (i 1) := by kernel_rfl
theorem ran : ranR us (fun _ _ => .auto) rc 2 tree = true := by kernel_rfl
theorem fineT : fineR 2 rc tree = true := by kernel_rfl
theorem ok : RcOk (cxOf 2) rc := okR us_ok ran fineT okb fun i v ro p hρ hcap hpre => by rw [plain]; have q := hρ.hi; exact holds _ _ (q 0 _ rfl).1 (q 0 _ rfl).2 (q 1 _ rfl).1 (q 1 _ rfl).2
end CRCost7
end Go.Proofs.YtfkdlidcogpncaaGreatDoor
