/-
  What functions of the program answer, as numbers of what they are handed: their runs by the engine, the plain statements behind them. No condition.
-/
import Derived.Test.YtemcjakecoceaaaGreatDoorKd
import Derived.Test.YtemcjakecoceaaaGreatDoorGab
import Derived.Test.YtemcjakecoceaaaGreatDoorGmD
import Derived.Test.YtemcjakecoceaaaGreatDoorGmE
set_option linter.unusedVariables false
set_option linter.unusedSimpArgs false
set_option maxRecDepth 100000
namespace Go.Proofs.YtemcjakecoceaaaGreatDoor
open Go.Eng Go.RowKit
namespace CRDo
def rc : Rc := ⟨51, [none, none, none], [.int .i64, .int .i32, .int .i32], [], .tup [none, none], [.int .i32 (.f 63 (.v 0) (.v 1) (.v 2)), .bool (.f 64 (.v 0) (.v 1) (.v 2))]⟩
theorem okb : rc.ok = true := by kernel_rfl
noncomputable def us : SMs := fun Γ ins n => smH (cxG n Γ ins) [] (smR (cxG n Γ ins) [CRLow.rc, CRPlain.rc, CRShl.rc, CRShr.rc, CRSar.rc, CRRol.rc, CRClz.rc, CREach.rc, CRMulq.rc, CRMulr.rc, CRQuot.rc, CROne.rc])
theorem us_ok : SMsOk us := fun Γ ins n => smH_ok (tabsG n Γ ins) (rhs_nil _) (smR_ok (tabsG n Γ ins) (rcs_cons CRLow.okb (rc_n CRLow.ok) (rcs_cons CRPlain.okb (rc_n CRPlain.ok) (rcs_cons CRShl.okb (rc_n CRShl.ok) (rcs_cons CRShr.okb (rc_n CRShr.ok) (rcs_cons CRSar.okb (rc_n CRSar.ok) (rcs_cons CRRol.okb (rc_n CRRol.ok) (rcs_cons CRClz.okb (rc_n CRClz.ok) (rcs_cons CREach.okb (rc_n CREach.ok) (rcs_cons CRMulq.okb (rc_n CRMulq.ok) (rcs_cons CRMulr.okb (rc_n CRMulr.ok) (rcs_cons CRQuot.okb (rc_n CRQuot.ok) (rcs_cons CROne.okb (rc_n CROne.ok) (rcs_nil _))))))))))))))
def Q0 : E := (te (.v 0) (.c 23))
def Q1 : E := (.ite (te (.v 0) (.c 29)) (.c 29) (.c 30))
def Q2 : E := (.ite (te (.v 0) (.c 28)) (.c 28) Q1)
def Q3 : E := (.ite (te (.v 0) (.c 27)) (.c 27) Q2)
def Q4 : E := (.ite (te (.v 0) (.c 26)) (.c 26) Q3)
def Q5 : E := (.ite (te (.v 0) (.c 25)) (.c 25) Q4)
def Q6 : E := (.ite (te (.v 0) (.c 24)) (.c 24) Q5)
def Q7 : E := (.f 63 Q6 (.v 1) (.c 0))
def Q8 : E := (.cl 1000 (-2147483648) 2147483647)
def Q9 : E := (tp (.v 1) (.v 2))
def Q10 : E := (t3 Q9)
def Q11 : E := (.b .psub .i64 (.v 1) (.v 2))
def Q12 : E := (t3 Q11)
def Q13 : E := (tk Q9 (.c (-2147483648)))
def Q14 : E := (tk (.c 2147483647) Q9)
def Q15 : E := (tk Q11 (.c (-2147483648)))
def Q16 : E := (tk (.c 2147483647) Q11)
def Q17 : E := (.b .psub .i64 (.v 0) (.c 5))
def Q18 : E := (t6 Q17)
def Q19 : E := (te Q18 (.c 0))
def Q20 : E := (te Q18 (.c 1))
def Q21 : E := (te Q18 (.c 2))
def Q22 : E := (.ite Q21 (.c 7) (.c 8))
def Q23 : E := (.ite Q20 (.c 6) Q22)
def Q24 : E := (.ite Q19 (.c 5) Q23)
def Q25 : E := (.f 63 Q24 (.v 1) (.v 2))
def Q26 : E := (.f 63 (.c 10) (.v 1) (.v 2))
def Q27 : E := (.f 63 (.c 11) (.v 1) (.v 2))
def Q28 : E := (.f 63 (.c 12) (.v 1) (.v 2))
def Q29 : E := (tk (.v 1) (.v 2))
def Q30 : E := (tk (.w .u32 (.v 1)) (.w .u32 (.v 2)))
def Q31 : E := (.b .pmul .i64 (.v 1) (.v 2))
def Q32 : E := (t3 Q31)
def Q33 : E := (.b .rem .i64 Q31 (.c 4294967296))
def Q34 : E := (tk Q33 (.c 0))
def Q35 : E := (tp Q33 (.c 4294967296))
def Q36 : E := (.b .psub .i64 Q31 Q35)
def Q37 : E := (.b .quo .i64 Q36 (.c 4294967296))
def Q38 : E := (t3 Q37)
def Q39 : E := (.b .psub .i64 Q31 Q33)
def Q40 : E := (.b .quo .i64 Q39 (.c 4294967296))
def Q41 : E := (t3 Q40)
def Q42 : E := (.f 63 (.c 20) (.v 1) (.v 2))
def Q43 : E := (.f 63 (.c 21) (.v 1) (.v 2))
def Q44 : E := (te Q0 (.c 0))
def Q45 : E := (.ite Q44 (.c 22) (.c 23))
def Q46 : E := (.f 63 Q45 (.v 1) (.v 2))
def tree : TT (List E) :=
 (.br (tl (.c 1) (.v 0)) (.br (.nt (tl (.v 0) (.c 30))) (.leaf [(.c 0), (.c 0)]) (.br (te (.v 2) (.c 0)) (.br (te (.v 0) (.c 22)) (.leaf [(.c 0), (.c 0)]) (.br Q0 (.leaf [(.c 0), (.c 0)]) (.br (tl (.c 24) (.v 0)) (.new 1000 Q7 (.leaf [Q8, (.c 1)])) (.br (te (.v 0) (.c 1)) (.leaf [Q10, (.c 1)]) (.br (te (.v 0) (.c 2)) (.leaf [Q12, (.c 1)]) (.br (te (.v 0) (.c 3)) (.br Q13 (.leaf [(.c (-2147483648)), (.c 1)]) (.br Q14 (.leaf [(.c 2147483647), (.c 1)]) (.leaf [Q10, (.c 1)]))) (.br (te (.v 0) (.c 4)) (.br Q15 (.leaf [(.c (-2147483648)), (.c 1)]) (.br Q16 (.leaf [(.c 2147483647), (.c 1)]) (.leaf [Q12, (.c 1)]))) (.br (te (.v 0) (.c 5)) (.new 1000 Q25 (.leaf [Q8, (.c 1)])) (.br (te (.v 0) (.c 6)) (.new 1000 Q25 (.leaf [Q8, (.c 1)])) (.br (te (.v 0) (.c 7)) (.new 1000 Q25 (.leaf [Q8, (.c 1)]))
 (.br (te (.v 0) (.c 8)) (.new 1000 Q25 (.leaf [Q8, (.c 1)])) (.br (te (.v 0) (.c 9)) (.leaf [(.f 63 (.c 9) (.v 1) (.v 2)), (.c 1)]) (.br (te (.v 0) (.c 10)) (.leaf [Q26, (.c 1)]) (.br (te (.v 0) (.c 11)) (.leaf [Q27, (.c 1)]) (.br (te (.v 0) (.c 12)) (.leaf [Q28, (.c 1)]) (.br (te (.v 0) (.c 13)) (.br Q29 (.leaf [(.c 1), (.c 1)]) (.leaf [(.c 0), (.c 1)])) (.br (te (.v 0) (.c 14)) (.br Q30 (.leaf [(.c 1), (.c 1)]) (.leaf [(.c 0), (.c 1)])) (.br (te (.v 0) (.c 15)) (.br (te (.v 1) (.v 2)) (.leaf [(.c 1), (.c 1)]) (.leaf [(.c 0), (.c 1)])) (.br (te (.v 0) (.c 16)) (.br Q29 (.leaf [(.v 1), (.c 1)]) (.leaf [(.v 2), (.c 1)])) (.br (te (.v 0) (.c 17)) (.br Q29 (.leaf [(.v 2), (.c 1)]) (.leaf [(.v 1), (.c 1)])) (.br (te (.v 0) (.c 18)) (.leaf [Q32, (.c 1)]) (.br (te (.v 0) (.c 19)) (.br Q34
 (.leaf [Q38, (.c 1)]) (.leaf [Q41, (.c 1)])) (.br (te (.v 0) (.c 20)) (.leaf [Q42, (.c 1)]) (.br (te (.v 0) (.c 21)) (.leaf [Q43, (.c 1)]) (.br (.v 2) (.new 1000 Q46 (.leaf [Q8, (.c 1)])) (.bad 200)))))))))))))))))))))))))) (.br (tl (.c 24) (.v 0)) (.new 1000 Q7 (.leaf [Q8, (.c 1)])) (.br (te (.v 0) (.c 1)) (.leaf [Q10, (.c 1)]) (.br (te (.v 0) (.c 2)) (.leaf [Q12, (.c 1)]) (.br (te (.v 0) (.c 3)) (.br Q13 (.leaf [(.c (-2147483648)), (.c 1)]) (.br Q14 (.leaf [(.c 2147483647), (.c 1)]) (.leaf [Q10, (.c 1)]))) (.br (te (.v 0) (.c 4)) (.br Q15 (.leaf [(.c (-2147483648)), (.c 1)]) (.br Q16 (.leaf [(.c 2147483647), (.c 1)]) (.leaf [Q12, (.c 1)]))) (.br (te (.v 0) (.c 5)) (.new 1000 Q25 (.leaf [Q8, (.c 1)])) (.br (te (.v 0) (.c 6)) (.new 1000 Q25 (.leaf [Q8, (.c 1)])) (.br (te (.v 0) (.c 7))
 (.new 1000 Q25 (.leaf [Q8, (.c 1)])) (.br (te (.v 0) (.c 8)) (.new 1000 Q25 (.leaf [Q8, (.c 1)])) (.br (te (.v 0) (.c 9)) (.leaf [(.f 63 (.c 9) (.v 1) (.v 2)), (.c 1)]) (.br (te (.v 0) (.c 10)) (.leaf [Q26, (.c 1)]) (.br (te (.v 0) (.c 11)) (.leaf [Q27, (.c 1)]) (.br (te (.v 0) (.c 12)) (.leaf [Q28, (.c 1)]) (.br (te (.v 0) (.c 13)) (.br Q29 (.leaf [(.c 1), (.c 1)]) (.leaf [(.c 0), (.c 1)])) (.br (te (.v 0) (.c 14)) (.br Q30 (.leaf [(.c 1), (.c 1)]) (.leaf [(.c 0), (.c 1)])) (.br (te (.v 0) (.c 15)) (.br (te (.v 1) (.v 2)) (.leaf [(.c 1), (.c 1)]) (.leaf [(.c 0), (.c 1)])) (.br (te (.v 0) (.c 16)) (.br Q29 (.leaf [(.v 1), (.c 1)]) (.leaf [(.v 2), (.c 1)])) (.br (te (.v 0) (.c 17)) (.br Q29 (.leaf [(.v 2), (.c 1)]) (.leaf [(.v 1), (.c 1)])) (.br (te (.v 0) (.c 18)) (.leaf [Q32, (.c 1)])
 (.br (te (.v 0) (.c 19)) (.br Q34 (.leaf [Q38, (.c 1)]) (.leaf [Q41, (.c 1)])) (.br (te (.v 0) (.c 20)) (.leaf [Q42, (.c 1)]) (.br (te (.v 0) (.c 21)) (.leaf [Q43, (.c 1)]) (.br (.v 2) (.new 1000 Q46 (.leaf [Q8, (.c 1)])) (.bad 200)))))))))))))))))))))))))) (.leaf [(.c 0), (.c 0)]))
noncomputable def sq0 (a b c : Int) : Int := (aluV (iteZ (Pe (W6 (a - 5)) 0) 5 (iteZ (Pe (W6 (a - 5)) 1) 6 (iteZ (Pe (W6 (a - 5)) 2) 7 8))) b c)
def sL0 (a b c z0 : Int) : Prop := (z0 : Int) = (aluV a b c) ∧ ((1 : Int) ≠ 0 ↔ ((aluK a b c) : Int) ≠ 0) ∧ True
def sq1 (a b c : Int) : Prop := (Pb (PL 24 a) (Pn (aluV (iteZ (Pe a 24) 24 (iteZ (Pe a 25) 25 (iteZ (Pe a 26) 26 (iteZ (Pe a 27) 27 (iteZ (Pe a 28) 28 (iteZ (Pe a 29) 29 30)))))) b 0) (-2147483648) 2147483647 fun y0 => ((y0 : Int) = (aluV a b c) ∧ ((1 : Int) ≠ 0 ↔ ((aluK a b c) : Int) ≠ 0) ∧ True)) (Pb (Pe a 1) (((W3 (b + c)) : Int) = (aluV a b c) ∧ ((1 : Int) ≠ 0 ↔ ((aluK a b c) : Int) ≠ 0) ∧ True) (Pb (Pe a 2) (((W3 (b - c)) : Int) = (aluV a b c) ∧ ((1 : Int) ≠ 0 ↔ ((aluK a b c) : Int) ≠ 0) ∧ True) (Pb (Pe a 3) (Pb (Pl (b + c) (-2147483648)) (((-2147483648) : Int) = (aluV a b c) ∧ ((1 : Int) ≠ 0 ↔ ((aluK a b c) : Int) ≠ 0) ∧ True) (Pb (Pl 2147483647 (b + c)) ((2147483647 : Int) = (aluV a b c) ∧ ((1 : Int) ≠ 0 ↔ ((aluK a b c) : Int) ≠ 0) ∧ True) (((W3 (b + c)) : Int) = (aluV a b c) ∧ ((1
 : Int) ≠ 0 ↔ ((aluK a b c) : Int) ≠ 0) ∧ True))) (Pb (Pe a 4) (Pb (Pl (b - c) (-2147483648)) (((-2147483648) : Int) = (aluV a b c) ∧ ((1 : Int) ≠ 0 ↔ ((aluK a b c) : Int) ≠ 0) ∧ True) (Pb (Pl 2147483647 (b - c)) ((2147483647 : Int) = (aluV a b c) ∧ ((1 : Int) ≠ 0 ↔ ((aluK a b c) : Int) ≠ 0) ∧ True) (((W3 (b - c)) : Int) = (aluV a b c) ∧ ((1 : Int) ≠ 0 ↔ ((aluK a b c) : Int) ≠ 0) ∧ True))) (Pb (Pe a 5) (Pn (sq0 a b c) (-2147483648) 2147483647 fun y0 => ((y0 : Int) = (aluV a b c) ∧ ((1 : Int) ≠ 0 ↔ ((aluK a b c) : Int) ≠ 0) ∧ True)) (Pb (Pe a 6) (Pn (sq0 a b c) (-2147483648) 2147483647 fun y0 => ((y0 : Int) = (aluV a b c) ∧ ((1 : Int) ≠ 0 ↔ ((aluK a b c) : Int) ≠ 0) ∧ True)) (Pb (Pe a 7) (Pn (sq0 a b c) (-2147483648) 2147483647 fun y0 => ((y0 : Int) = (aluV a b c) ∧ ((1 : Int) ≠ 0 ↔ ((aluK
 a b c) : Int) ≠ 0) ∧ True)) (Pb (Pe a 8) (Pn (sq0 a b c) (-2147483648) 2147483647 fun y0 => ((y0 : Int) = (aluV a b c) ∧ ((1 : Int) ≠ 0 ↔ ((aluK a b c) : Int) ≠ 0) ∧ True)) (Pb (Pe a 9) (((aluV 9 b c) : Int) = (aluV a b c) ∧ ((1 : Int) ≠ 0 ↔ ((aluK a b c) : Int) ≠ 0) ∧ True) (Pb (Pe a 10) (((aluV 10 b c) : Int) = (aluV a b c) ∧ ((1 : Int) ≠ 0 ↔ ((aluK a b c) : Int) ≠ 0) ∧ True) (Pb (Pe a 11) (((aluV 11 b c) : Int) = (aluV a b c) ∧ ((1 : Int) ≠ 0 ↔ ((aluK a b c) : Int) ≠ 0) ∧ True) (Pb (Pe a 12) (((aluV 12 b c) : Int) = (aluV a b c) ∧ ((1 : Int) ≠ 0 ↔ ((aluK a b c) : Int) ≠ 0) ∧ True) (Pb (Pe a 13) (Pb (Pl b c) ((1 : Int) = (aluV a b c) ∧ ((1 : Int) ≠ 0 ↔ ((aluK a b c) : Int) ≠ 0) ∧ True) ((0 : Int) = (aluV a b c) ∧ ((1 : Int) ≠ 0 ↔ ((aluK a b c) : Int) ≠ 0) ∧ True)) (Pb (Pe a 14) (Pb (Pl
 (U3 b) (U3 c)) ((1 : Int) = (aluV a b c) ∧ ((1 : Int) ≠ 0 ↔ ((aluK a b c) : Int) ≠ 0) ∧ True) ((0 : Int) = (aluV a b c) ∧ ((1 : Int) ≠ 0 ↔ ((aluK a b c) : Int) ≠ 0) ∧ True)) (Pb (Pe a 15) (Pb (Pe b c) ((1 : Int) = (aluV a b c) ∧ ((1 : Int) ≠ 0 ↔ ((aluK a b c) : Int) ≠ 0) ∧ True) ((0 : Int) = (aluV a b c) ∧ ((1 : Int) ≠ 0 ↔ ((aluK a b c) : Int) ≠ 0) ∧ True)) (Pb (Pe a 16) (Pb (Pl b c) ((b : Int) = (aluV a b c) ∧ ((1 : Int) ≠ 0 ↔ ((aluK a b c) : Int) ≠ 0) ∧ True) ((c : Int) = (aluV a b c) ∧ ((1 : Int) ≠ 0 ↔ ((aluK a b c) : Int) ≠ 0) ∧ True)) (Pb (Pe a 17) (Pb (Pl b c) ((c : Int) = (aluV a b c) ∧ ((1 : Int) ≠ 0 ↔ ((aluK a b c) : Int) ≠ 0) ∧ True) ((b : Int) = (aluV a b c) ∧ ((1 : Int) ≠ 0 ↔ ((aluK a b c) : Int) ≠ 0) ∧ True)) (Pb (Pe a 18) (((W3 (b * c)) : Int) = (aluV a b c) ∧ ((1 : Int) ≠
 0 ↔ ((aluK a b c) : Int) ≠ 0) ∧ True) (Pb (Pe a 19) (Pb (Pl (BO.ev .rem .i64 (b * c) 4294967296) 0) (sL0 a b c (W3 (BO.ev .quo .i64 ((b * c) - ((BO.ev .rem .i64 (b * c) 4294967296) + 4294967296)) 4294967296))) (sL0 a b c (W3 (BO.ev .quo .i64 ((b * c) - (BO.ev .rem .i64 (b * c) 4294967296)) 4294967296)))) (Pb (Pe a 20) (((aluV 20 b c) : Int) = (aluV a b c) ∧ ((1 : Int) ≠ 0 ↔ ((aluK a b c) : Int) ≠ 0) ∧ True) (Pb (Pe a 21) (((aluV 21 b c) : Int) = (aluV a b c) ∧ ((1 : Int) ≠ 0 ↔ ((aluK a b c) : Int) ≠ 0) ∧ True) (Pm c (Pn (aluV (iteZ (Pe (Pe a 23) 0) 22 23) b c) (-2147483648) 2147483647 fun y0 => ((y0 : Int) = (aluV a b c) ∧ ((1 : Int) ≠ 0 ↔ ((aluK a b c) : Int) ≠ 0) ∧ True)))))))))))))))))))))))))
def P (a b c : Int) : Prop :=
 (Pb (PL 1 a) (Pb (Pe (PL a 30) 0) ((0 : Int) = (aluV a b c) ∧ ((0 : Int) ≠ 0 ↔ ((aluK a b c) : Int) ≠ 0) ∧ True) (Pb (Pe c 0) (Pb (Pe a 22) ((0 : Int) = (aluV a b c) ∧ ((0 : Int) ≠ 0 ↔ ((aluK a b c) : Int) ≠ 0) ∧ True) (Pb (Pe a 23) ((0 : Int) = (aluV a b c) ∧ ((0 : Int) ≠ 0 ↔ ((aluK a b c) : Int) ≠ 0) ∧ True) (sq1 a b c))) (sq1 a b c))) ((0 : Int) = (aluV a b c) ∧ ((0 : Int) ≠ 0 ↔ ((aluK a b c) : Int) ≠ 0) ∧ True))
theorem satD (m : Int) : BO.ev .min .i64 (BO.ev .max .i64 m (-2147483648)) 2147483647 = if m < -2147483648 then -2147483648 else if 2147483647 < m then 2147483647 else m := by
 simp only [BO.ev]
 repeat' split
 all_goals omega
theorem wi16D (x : Int) : IntKind.wrap .i16 x = (x + 32768) % 65536 - 32768 := by
 simp [IntKind.wrap, IntKind.bits, IntKind.signed] <;> (try split) <;> omega
theorem tmD (x : Int) : BO.ev .rem .i64 x 65536 = if 0 ≤ x then x % 65536 else -((-x) % 65536) := by
 show x.tmod 65536 = _
 split
 ·exact Int.tmod_eq_emod_of_nonneg (by assumption)
 ·rename_i h
  rw [← Int.neg_neg x, Int.neg_tmod, Int.tmod_eq_emod_of_nonneg (by omega), Int.neg_neg]
theorem tmE (x : Int) : BO.ev .rem .i64 x 4294967296 = if 0 ≤ x then x % 4294967296 else -((-x) % 4294967296) := by
 show x.tmod 4294967296 = _
 split
 ·exact Int.tmod_eq_emod_of_nonneg (by assumption)
 ·rename_i h
  rw [← Int.neg_neg x, Int.neg_tmod, Int.tmod_eq_emod_of_nonneg (by omega), Int.neg_neg]
theorem tdE {x : Int} (h1 : -9223372036854775808 ≤ x) (h2 : x ≤ 9223372036854775807) : BO.ev .quo .i64 x 4294967296 = if 0 ≤ x then x / 4294967296 else -((-x) / 4294967296) := by
 show IntKind.wrap .i64 (x.tdiv 4294967296) = _
 have e : x.tdiv 4294967296 = if 0 ≤ x then x / 4294967296 else -((-x) / 4294967296) := by
  split
  ·exact Int.tdiv_eq_ediv_of_nonneg (by assumption)
  ·rename_i h
   rw [← Int.neg_neg x, Int.neg_tdiv, Int.tdiv_eq_ediv_of_nonneg (by omega), Int.neg_neg]
 rw [e, w64 (by split <;> omega) (by split <;> omega)]
section
variable {a b : Int}
theorem ax1 : aluX 1 a b = IntKind.wrap .i32 (a + b) := rfl
theorem ax2 : aluX 2 a b = IntKind.wrap .i32 (a - b) := rfl
theorem ax3 : aluX 3 a b = if a + b < -2147483648 then -2147483648 else if 2147483647 < a + b then 2147483647 else a + b := by rw [← satD]; rfl
theorem ax4 : aluX 4 a b = if a - b < -2147483648 then -2147483648 else if 2147483647 < a - b then 2147483647 else a - b := by rw [← satD]; rfl
theorem ax13 : aluX 13 a b = if a < b then 1 else 0 := rfl
theorem ax14 : aluX 14 a b = if IntKind.wrap .u32 a < IntKind.wrap .u32 b then 1 else 0 := rfl
theorem ax15 : aluX 15 a b = if a = b then 1 else 0 := rfl
theorem ax16 : aluX 16 a b = if b < a then b else a := rfl
theorem ax17 : aluX 17 a b = if b > a then b else a := rfl
theorem ax18 : aluX 18 a b = IntKind.wrap .i32 (a * b) := rfl
theorem ax19 : aluX 19 a b = a * b / 4294967296 := shr_ev .i64 (a * b) 32
theorem ax22 : aluX 22 a b = IntKind.wrap .i32 (IntKind.wrap .i64 (a.tdiv b)) := rfl
theorem ax23 : aluX 23 a b = IntKind.wrap .i32 (a - IntKind.wrap .i64 (IntKind.wrap .i64 (a.tdiv b) * b)) := rfl
theorem ax25 : aluX 25 a b = if 2147483647 < 0 - a then 2147483647 else 0 - a := rfl
theorem ax26 : aluX 26 a b = if (if 2147483647 < 0 - a then 2147483647 else 0 - a) > a then (if 2147483647 < 0 - a then 2147483647 else 0 - a) else a := rfl
theorem ax27 : aluX 27 a b = if a = 0 then 0 else -1 := rfl
theorem ax28 : aluX 28 a b = a / 2147483648 := shr_ev .i32 a 31
theorem ax29 : aluX 29 a b = (a + 32768) % 65536 - 32768 := wi16D a
theorem ax30 : aluX 30 a b = aluX 11 a 16 := by
 show BO.ev .shr .i32 a 16 = BO.ev .shr .i32 a (BO.ev .and .i32 16 31)
 rw [and31]; rfl
end
theorem aluV_op {p a b c : Int} (h : p = c) : aluV c a b = aluV p a b := by rw [h]
theorem aluV_24 {a b : Int} {k : Int} (h1 : 24 ≤ k) (h2 : k ≤ 30) (a1 : -2147483648 ≤ a) (a2 : a ≤ 2147483647) (b1 : -2147483648 ≤ b) (b2 : b ≤ 2147483647) : aluV k a 0 = aluV k a b := by
 rw [aluV_of (aluP_9 (by omega) h2 (by omega) (by omega)) a1 a2 (by decide) (by decide), aluV_of (aluP_9 (by omega) h2 (by omega) (by omega)) a1 a2 b1 b2]
 unfold aluX
 simp only [if_neg (show ¬ k = 1 by omega), if_neg (show ¬ k = 2 by omega), if_neg (show ¬ k = 3 by omega), if_neg (show ¬ k = 4 by omega), if_neg (show ¬ k = 5 by omega), if_neg (show ¬ k = 6 by omega), if_neg (show ¬ k = 7 by omega), if_neg (show ¬ k = 8 by omega), if_neg (show ¬ k = 9 by omega), if_neg (show ¬ k = 10 by omega), if_neg (show ¬ k = 11 by omega), if_neg (show ¬ k = 12 by omega), if_neg (show ¬ k = 13 by omega), if_neg (show ¬ k = 14 by omega), if_neg (show ¬ k = 15 by omega), if_neg (show ¬ k = 16 by omega), if_neg (show ¬ k = 17 by omega), if_neg (show ¬ k = 18 by omega), if_neg (show ¬ k = 19 by omega), if_neg (show ¬ k = 20 by omega), if_neg (show ¬ k = 21 by omega), if_neg (show ¬ k = 22 by omega), if_neg (show ¬ k = 23 by omega)]
theorem one_ix {p : Int} (h1 : 24 ≤ p) (h2 : p ≤ 30) : p = (if p = 24 then 24 else if p = 25 then 25 else if p = 26 then 26 else if p = 27 then 27 else if p = 28 then 28 else if p = 29 then 29 else 30) := by
 repeat' split
 all_goals omega
set_option maxHeartbeats 8000000 in
theorem holds (p0 p1 p2 : Int) (l_p0 : -9223372036854775808 ≤ p0) (u_p0 : p0 ≤ 9223372036854775807) (l_p1 : -2147483648 ≤ p1) (u_p1 : p1 ≤ 2147483647) (l_p2 : -2147483648 ≤ p2) (u_p2 : p2 ≤ 2147483647) : P p0 p1 p2 := by
 delta P sq0 sq1 sL0 Pb Pm Pn PL Pl Pe W6 W3 U3
 simp only [nrm, Int.reduceEq, Int.reduceNeg, reduceIte]
 have hv : ∀ x, aluP p0 p2 → x = aluX p0 p1 p2 → (x = aluV p0 p1 p2 ∧ ¬ aluK p0 p1 p2 = 0) := fun x h e => ⟨by rw [aluV_of h l_p1 u_p1 l_p2 u_p2, e], aluK_ne.2 h⟩
 have hs : ∀ x, aluP p0 p2 → x = aluV p0 p1 p2 → (x = aluV p0 p1 p2 ∧ ¬ aluK p0 p1 p2 = 0) := fun x h e => ⟨e, aluK_ne.2 h⟩
 have hn : ¬ aluP p0 p2 → ((0 : Int) = aluV p0 p1 p2 ∧ aluK p0 p1 p2 = 0) := fun h => ⟨(aluV_no h).symm, by unfold aluK; rw [if_neg h]⟩
 have hm := mul_in l_p1 u_p1 l_p2 u_p2
 have h1 : 24 ≤ p0 → p0 ≤ 30 → (aluV (if p0 = 24 then 24 else if p0 = 25 then 25 else if p0 = 26 then 26 else if p0 = 27 then 27 else if p0 = 28 then 28 else if p0 = 29 then 29 else 30) p1 0 = aluV p0 p1 p2 ∧ ¬ aluK p0 p1 p2 = 0) := fun a b =>
  hs _ (by unfold aluP; omega) ((aluV_op (one_ix a b)).trans (aluV_24 a b l_p1 u_p1 l_p2 u_p2))
 have hh : ∀ q : Int, -4611686018427387904 ≤ q → q ≤ 4611686018427387904 → (BO.ev .rem .i64 q 4294967296 < 0 → IntKind.wrap .i32 (BO.ev .quo .i64 (q - (BO.ev .rem .i64 q 4294967296 + 4294967296)) 4294967296) = q / 4294967296) ∧ (0 ≤ BO.ev .rem .i64 q 4294967296 → IntKind.wrap .i32 (BO.ev .quo .i64 (q - BO.ev .rem .i64 q 4294967296) 4294967296) = q / 4294967296) := by
  intro q q1 q2
  have r0 := tmE q
  constructor
  ·intro h
   rw [tdE (by rw [r0] at h ⊢; split at h <;> omega) (by rw [r0] at h ⊢; split at h <;> omega), r0]
   rw [r0] at h
   split at h <;> split <;> (first | (rw [wi32 (by omega) (by omega)]; omega) | omega)
  ·intro h
   rw [tdE (by rw [r0] at h ⊢; split at h <;> omega) (by rw [r0] at h ⊢; split at h <;> omega), r0]
   rw [r0] at h
   split at h <;> split <;> (first | (rw [wi32 (by omega) (by omega)]; omega) | omega)
 have hq := hh (p1 * p2) hm.1 hm.2
 have w5 : 5 ≤ p0 → p0 ≤ 8 → IntKind.wrap .i64 (p0 - 5) = p0 - 5 := fun a b => w64 (by omega) (by omega)
 repeat' (first | refine ⟨fun _ => ?_, fun _ => ?_⟩ | exact hn (by unfold aluP; omega) | exact h1 (by omega) (by omega) | exact hs _ (by unfold aluP; omega) (aluV_op (by omega)) | (refine hs _ (by unfold aluP; omega) (aluV_op ?_); rw [w5 (by omega) (by omega)]; (repeat' split) <;> omega) | (refine hv _ (by unfold aluP; omega) ?_) | rintro _ rfl _)
 all_goals (try (have hk : p0 = 22 ∨ p0 = 23 ∨ ¬ (p0 = 22 ∨ p0 = 23) := by omega))
 all_goals (try subst_vars)
 all_goals first | (rw [ax1]; done) | (rw [ax2]; done) | (rw [ax18]; done) | skip
 all_goals first | (refine Eq.trans (hq.1 ?_) ax19.symm; assumption) | (refine Eq.trans (hq.2 ?_) ax19.symm; assumption) | skip
 all_goals first | rw [ax3] | rw [ax4] | rw [ax13] | rw [ax14] | rw [ax15] | rw [ax16] | rw [ax17] | skip
 all_goals first | omega | (rw [if_pos (by assumption)]; done) | (rw [if_neg (by omega), if_pos (by assumption)]; done) | (rw [if_neg (by omega), if_neg (by omega), wi32 (by omega) (by omega)]; done) | (rw [if_neg (by omega)]; done) | skip
theorem plain (i v ro p) : statR 2 rc tree ⟨i, fN, v, ro, p⟩ = P (i 0) (i 1) (i 2) := by kernel_rfl
theorem ran : ranR us (fun _ _ => .auto) rc 2 tree = true := by kernel_rfl
theorem fineT : fineR 2 rc tree = true := by kernel_rfl
theorem ok : RcOk (cxOf 2) rc := okR us_ok ran fineT okb fun i v ro p hρ hcap hpre => by rw [plain]; have q := hρ.hi; exact holds (i 0) (i 1) (i 2) (q 0 _ rfl).1 (q 0 _ rfl).2 (q 1 _ rfl).1 (q 1 _ rfl).2 (q 2 _ rfl).1 (q 2 _ rfl).2
end CRDo
namespace CRBitN
def rc : Rc := ⟨72, [none], [.int .i64], [], .one, [.int .i64 (.ite (.b .lt .i64 (.v 0) (.c 0)) (.c 0) (.f 3 (.v 0) (.c 0) (.c 0)))]⟩
theorem okb : rc.ok = true := by kernel_rfl
noncomputable def us : SMs := fun Γ ins n => smH (cxG n Γ ins) [] (smR (cxG n Γ ins) [])
theorem us_ok : SMsOk us := fun Γ ins n => smH_ok (tabsG n Γ ins) (rhs_nil _) (smR_ok (tabsG n Γ ins) (rcs_nil _))
def tree : TT (List E) :=
(.loop ⟨1000, [some (-9223372036854775808, 9223372036854775807), some (0, 4611686018427387904)], [(.v 0), (.c 0)], 1003⟩
 (.br (.b .lt .i64 (.c 0) (.cl 1000 (-9223372036854775808) 9223372036854775807))
 (.br (.b .le .i64 (.b .padd .i64 (.cl 1001 0 4611686018427387904) (.c 1)) (.c 4611686018427387904))
 (.back [(.b .quo .i64 (.cl 1000 (-9223372036854775808) 9223372036854775807) (.c 2)), (.b .padd .i64 (.cl 1001 0 4611686018427387904) (.c 1))])
 (.bad 303))
 (.exit 0))
 (.leaf [(.cl 1001 0 4611686018427387904)]))
def P (p0 : Int) : Prop :=
 ∃ I1000 : Int → Int → Nat → Prop, (∃ m, I1000 p0 0 m) ∧
 ∀ y1000 y1001 : Int, ∀ m1000, (((-9223372036854775808) ≤ y1000 ∧ y1000 ≤ 9223372036854775807) ∧ (0 ≤ y1001 ∧ y1001 ≤ 4611686018427387904) ∧ True) → I1000 y1000 y1001 m1000 →
  (((bool01 (decide (0 < y1000))) ≠ 0 →
   (((bool01 (decide ((y1001 + 1) ≤ 4611686018427387904))) ≠ 0 →
    ∃ m', m' < m1000 ∧ I1000 (BO.ev .quo .i64 y1000 2) (y1001 + 1) m') ∧ ((bool01 (decide ((y1001 + 1) ≤ 4611686018427387904))) = 0 →
    False))) ∧ ((bool01 (decide (0 < y1000))) = 0 →
   (y1001 : Int) = (iteZ (bool01 (decide (p0 < 0))) 0 (blen64 p0)) ∧ True))
theorem bl_half {x : Int} (h : 0 < x) (h2 : x ≤ 9223372036854775807) : blen64 x = 1 + blen64 (x / 2) := by
 unfold blen64
 rw [Int.emod_eq_of_lt (by omega) (by omega), Int.emod_eq_of_lt (by omega) (by omega), Lib.bitLen_half x.toNat (by omega) (by omega), show (x / 2).toNat = x.toNat / 2 by omega]
 push_cast; rfl
theorem bl_zero : blen64 0 = 0 := by decide
theorem holds (p0 : Int) (l_p0 : -9223372036854775808 ≤ p0) (u_p0 : p0 ≤ 9223372036854775807) : P p0 := by
 unfold P
 simp only [nrm, nro, Int.reduceEq, Int.reduceNeg, reduceIte]
 refine ⟨fun x k m => (if p0 < 0 then 0 else blen64 p0) = k + (if x < 0 then 0 else blen64 x) ∧ (x ≤ 0 ∨ k ≤ 64) ∧ k + (if x ≤ 0 then 0 else blen64 x) ≤ 64 ∧ m = x.toNat, ⟨_, by omega, by omega, ?_, rfl⟩, fun x k m hb hI => ?_⟩
 ·split
  ·omega
  ·have := bitLenB 64 (p0 % 18446744073709551616).toNat (by omega) (by omega)
   unfold blen64; omega
 obtain ⟨h1, h2, h3, rfl⟩ := hI
 have hq : 0 < x → BO.ev .quo .i64 x 2 = x / 2 := fun h => quo_pos (by omega) (by omega) (by decide)
 refine ⟨fun hx => ?_, fun hx => ?_⟩
 ·rw [hq hx]
  have hh := bl_half hx (by omega)
  rw [if_neg (show ¬ x < 0 by omega)] at h1
  rw [if_neg (show ¬ x ≤ 0 by omega)] at h3
  have hz := (show 0 ≤ blen64 (x / 2) by unfold blen64; omega)
  refine ⟨by omega, _, ?_, ?_, by omega, ?_, rfl⟩
  ·omega
  ·rw [if_neg (show ¬ x / 2 < 0 by omega)]; omega
  ·split
   ·omega
   ·omega
 ·have : (if x < 0 then 0 else blen64 x) = 0 := by
   by_cases h : x < 0
   ·rw [if_pos h]
   ·rw [if_neg h, show x = 0 by omega, bl_zero]
  omega
theorem plain (i v ro p) : statR 2 rc tree ⟨i, fN, v, ro, p⟩ = P (i 0) := by kernel_rfl
theorem ran : ranR us (fun _ _ => .auto) rc 2 tree = true := by kernel_rfl
theorem fineT : fineR 2 rc tree = true := by kernel_rfl
theorem ok : RcOk (cxOf 2) rc := okR us_ok ran fineT okb fun i v ro p hρ hcap hpre => by rw [plain]; have q := hρ.hi; exact holds (i 0) (q 0 _ rfl).1 (q 0 _ rfl).2
end CRBitN
namespace CRCost6
def rc : Rc := ⟨74, [none], [.int .i64], [], .one, [.int .i64 (.f 66 (.v 0) (.c 0) (.c 0))]⟩
theorem okb : rc.ok = true := by kernel_rfl
noncomputable def us : SMs := fun Γ ins n => smH (cxG n Γ ins) [] (smR (cxG n Γ ins) [])
theorem us_ok : SMsOk us := fun Γ ins n => smH_ok (tabsG n Γ ins) (rhs_nil _) (smR_ok (tabsG n Γ ins) (rcs_nil _))
def Q0 : E := (.b .psub .i64 (.v 0) (.c 1))
def Q1 : E := (t6 Q0)
def Q2 : E := (tC (.c 100) (.c 0))
def Q3 : E := (tC (.c 115) (.c 0))
def Q4 : E := (tC (.c 98) Q3)
def Q5 : E := (tC (.c 114) (.c 0))
def Q6 : E := (tC (.c 111) Q5)
def Q7 : E := (tC (.c 108) (.c 0))
def Q8 : E := (tC (.c 116) (.c 0))
def Q9 : E := (tC (.c 108) Q8)
def Q10 : E := (tC (.c 113) (.c 0))
def Q11 : E := (tC (.c 101) Q10)
def Q12 : E := (tC (.c 110) (.c 0))
def Q13 : E := (tC (.c 104) (.c 0))
def Q14 : E := (tC (.c 105) (.c 0))
def Q15 : E := (tC (.c 119) (.c 0))
def Q16 : E := (tC (.c 112) (.c 0))
def tree : TT (List E) :=
 (.br (tk (.v 0) (.c 1)) (.leaf [(.c 0)]) (.br (tk (.c 43) (.v 0)) (.leaf [(.c 0)]) (.br (tl (.c 0) Q1) (.br (tk Q1 (.c 43)) (.br (.f 20 (tR (tC (tC (.c 3) (tC (tC (.c 97) (tC (.c 100) Q2)) (.c 0))) (tC (tC (.c 3) (tC (tC (.c 115) (tC (.c 117) (tC (.c 98) (.c 0)))) (.c 0))) (tC (tC (.c 4) (tC (tC (.c 97) (tC (.c 100) (tC (.c 100) Q3))) (.c 0))) (tC (tC (.c 4) (tC (tC (.c 115) (tC (.c 117) Q4)) (.c 0))) (tC (tC (.c 3) (tC (tC (.c 97) (tC (.c 110) Q2)) (.c 0))) (tC (tC (.c 2) (tC Q6 (.c 0))) (tC (tC (.c 3) (tC (tC (.c 120) Q6) (.c 0))) (tC (tC (.c 3) (tC (tC (.c 98) (tC (.c 105) (tC (.c 99) (.c 0)))) (.c 0))) (tC (tC (.c 3) (tC (tC (.c 115) (tC (.c 104) Q7)) (.c 0))) (tC (tC (.c 3) (tC (tC (.c 115) (tC (.c 104) Q5)) (.c 0))) (tC (tC (.c 3) (tC (tC (.c 115) (tC (.c 97) Q5)) (.c 0))) (tC (tC
 (.c 3) (tC (tC (.c 114) (tC (.c 111) Q7)) (.c 0))) (tC (tC (.c 3) (tC (tC (.c 115) Q9) (.c 0))) (tC (tC (.c 4) (tC (tC (.c 115) (tC (.c 108) (tC (.c 116) (tC (.c 117) (.c 0))))) (.c 0))) (tC (tC (.c 3) (tC (tC (.c 115) Q11) (.c 0))) (tC (tC (.c 3) (tC (tC (.c 109) (tC (.c 105) Q12)) (.c 0))) (tC (tC (.c 3) (tC (tC (.c 109) (tC (.c 97) (tC (.c 120) (.c 0)))) (.c 0))) (tC (tC (.c 3) (tC (tC (.c 109) (tC (.c 117) Q7)) (.c 0))) (tC (tC (.c 4) (tC (tC (.c 109) (tC (.c 117) (tC (.c 108) Q13))) (.c 0))) (tC (tC (.c 4) (tC (tC (.c 109) (tC (.c 117) (tC (.c 108) Q10))) (.c 0))) (tC (tC (.c 4) (tC (tC (.c 109) (tC (.c 117) (tC (.c 108) Q5))) (.c 0))) (tC (tC (.c 3) (tC (tC (.c 100) (tC (.c 105) (tC (.c 118) (.c 0)))) (.c 0))) (tC (tC (.c 3) (tC (tC (.c 114) (tC (.c 101) (tC (.c 109) (.c 0)))) (.c
 0))) (tC (tC (.c 3) (tC (tC (.c 99) (tC (.c 108) (tC (.c 122) (.c 0)))) (.c 0))) (tC (tC (.c 3) (tC (tC (.c 110) (tC (.c 101) (tC (.c 103) (.c 0)))) (.c 0))) (tC (tC (.c 3) (tC (tC (.c 97) Q4) (.c 0))) (tC (tC (.c 4) (tC (tC (.c 109) (tC (.c 97) (tC (.c 115) (tC (.c 107) (.c 0))))) (.c 0))) (tC (tC (.c 4) (tC (tC (.c 115) (tC (.c 105) (tC (.c 103) Q12))) (.c 0))) (tC (tC (.c 4) (tC (tC (.c 104) (tC (.c 97) (tC (.c 108) (tC (.c 102) (.c 0))))) (.c 0))) (tC (tC (.c 4) (tC (tC (.c 104) (tC (.c 105) (tC (.c 103) Q13))) (.c 0))) (tC (tC (.c 4) (tC (tC (.c 97) (tC (.c 100) (tC (.c 100) Q14))) (.c 0))) (tC (tC (.c 3) (tC (tC (.c 111) (tC (.c 114) Q14)) (.c 0))) (tC (tC (.c 3) (tC (tC (.c 108) (tC (.c 117) Q14)) (.c 0))) (tC (tC (.c 2) (tC (tC (.c 108) Q15) (.c 0))) (tC (tC (.c 2) (tC (tC (.c
 115) Q15) (.c 0))) (tC (tC (.c 3) (tC (tC (.c 98) Q11) (.c 0))) (tC (tC (.c 3) (tC (tC (.c 98) (tC (.c 110) (tC (.c 101) (.c 0)))) (.c 0))) (tC (tC (.c 3) (tC (tC (.c 98) Q9) (.c 0))) (tC (tC (.c 4) (tC (tC (.c 106) (tC (.c 117) (tC (.c 109) Q16))) (.c 0))) (tC (tC (.c 3) (tC (tC (.c 106) (tC (.c 97) Q7)) (.c 0))) (tC (tC (.c 2) (tC (tC (.c 106) Q5) (.c 0))) (tC (tC (.c 3) (tC (tC (.c 110) (tC (.c 111) Q16)) (.c 0))) (tC (tC (.c 4) (tC (tC (.c 104) (tC (.c 97) Q9)) (.c 0))) (.c 0)))))))))))))))))))))))))))))))))))))))))))) Q1) (tC (.c 0) (tC (.c 0) (.c 0))) (.c 0)) (.leaf [(.c 0)]) (.br (te (.c 18) (.v 0)) (.leaf [(.c 3)]) (.br (te (.c 19) (.v 0)) (.leaf [(.c 3)]) (.br (te (.c 20) (.v 0)) (.leaf [(.c 3)]) (.br (te (.c 21) (.v 0)) (.leaf [(.c 3)]) (.br (te (.c 39) (.v 0)) (.leaf [(.c 3)])
 (.br (te (.c 40) (.v 0)) (.leaf [(.c 3)]) (.br (te (.c 41) (.v 0)) (.leaf [(.c 3)]) (.br (te (.c 22) (.v 0)) (.leaf [(.c 2)]) (.br (te (.c 23) (.v 0)) (.leaf [(.c 2)]) (.br (te (.c 34) (.v 0)) (.leaf [(.c 2)]) (.br (te (.c 35) (.v 0)) (.leaf [(.c 2)]) (.leaf [(.c 1)]))))))))))))) (.bad 200)) (.bad 200))))
def P (a : Int) : Prop :=
 (Pb (Pl a 1) ((0 : Int) = (opCo a) ∧ True) (Pb (Pl 43 a) ((0 : Int) = (opCo a) ∧ True) (Pm (PL 0 (W6 (a - 1))) (Pm (Pl (W6 (a - 1)) 43) (Pb (seqZ (rdZ (kZ (kZ 3 (kZ (kZ 97 (kZ 100 (kZ 100 0))) 0)) (kZ (kZ 3 (kZ (kZ 115 (kZ 117 (kZ 98 0))) 0)) (kZ (kZ 4 (kZ (kZ 97 (kZ 100 (kZ 100 (kZ 115 0)))) 0)) (kZ (kZ 4 (kZ (kZ 115 (kZ 117 (kZ 98 (kZ 115 0)))) 0)) (kZ (kZ 3 (kZ (kZ 97 (kZ 110 (kZ 100 0))) 0)) (kZ (kZ 2 (kZ (kZ 111 (kZ 114 0)) 0)) (kZ (kZ 3 (kZ (kZ 120 (kZ 111 (kZ 114 0))) 0)) (kZ (kZ 3 (kZ (kZ 98 (kZ 105 (kZ 99 0))) 0)) (kZ (kZ 3 (kZ (kZ 115 (kZ 104 (kZ 108 0))) 0)) (kZ (kZ 3 (kZ (kZ 115 (kZ 104 (kZ 114 0))) 0)) (kZ (kZ 3 (kZ (kZ 115 (kZ 97 (kZ 114 0))) 0)) (kZ (kZ 3 (kZ (kZ 114 (kZ 111 (kZ 108 0))) 0)) (kZ (kZ 3 (kZ (kZ 115 (kZ 108 (kZ 116 0))) 0)) (kZ (kZ 4 (kZ (kZ 115 (kZ 108 (kZ
 116 (kZ 117 0)))) 0)) (kZ (kZ 3 (kZ (kZ 115 (kZ 101 (kZ 113 0))) 0)) (kZ (kZ 3 (kZ (kZ 109 (kZ 105 (kZ 110 0))) 0)) (kZ (kZ 3 (kZ (kZ 109 (kZ 97 (kZ 120 0))) 0)) (kZ (kZ 3 (kZ (kZ 109 (kZ 117 (kZ 108 0))) 0)) (kZ (kZ 4 (kZ (kZ 109 (kZ 117 (kZ 108 (kZ 104 0)))) 0)) (kZ (kZ 4 (kZ (kZ 109 (kZ 117 (kZ 108 (kZ 113 0)))) 0)) (kZ (kZ 4 (kZ (kZ 109 (kZ 117 (kZ 108 (kZ 114 0)))) 0)) (kZ (kZ 3 (kZ (kZ 100 (kZ 105 (kZ 118 0))) 0)) (kZ (kZ 3 (kZ (kZ 114 (kZ 101 (kZ 109 0))) 0)) (kZ (kZ 3 (kZ (kZ 99 (kZ 108 (kZ 122 0))) 0)) (kZ (kZ 3 (kZ (kZ 110 (kZ 101 (kZ 103 0))) 0)) (kZ (kZ 3 (kZ (kZ 97 (kZ 98 (kZ 115 0))) 0)) (kZ (kZ 4 (kZ (kZ 109 (kZ 97 (kZ 115 (kZ 107 0)))) 0)) (kZ (kZ 4 (kZ (kZ 115 (kZ 105 (kZ 103 (kZ 110 0)))) 0)) (kZ (kZ 4 (kZ (kZ 104 (kZ 97 (kZ 108 (kZ 102 0)))) 0)) (kZ (kZ 4 (kZ (kZ 104
 (kZ 105 (kZ 103 (kZ 104 0)))) 0)) (kZ (kZ 4 (kZ (kZ 97 (kZ 100 (kZ 100 (kZ 105 0)))) 0)) (kZ (kZ 3 (kZ (kZ 111 (kZ 114 (kZ 105 0))) 0)) (kZ (kZ 3 (kZ (kZ 108 (kZ 117 (kZ 105 0))) 0)) (kZ (kZ 2 (kZ (kZ 108 (kZ 119 0)) 0)) (kZ (kZ 2 (kZ (kZ 115 (kZ 119 0)) 0)) (kZ (kZ 3 (kZ (kZ 98 (kZ 101 (kZ 113 0))) 0)) (kZ (kZ 3 (kZ (kZ 98 (kZ 110 (kZ 101 0))) 0)) (kZ (kZ 3 (kZ (kZ 98 (kZ 108 (kZ 116 0))) 0)) (kZ (kZ 4 (kZ (kZ 106 (kZ 117 (kZ 109 (kZ 112 0)))) 0)) (kZ (kZ 3 (kZ (kZ 106 (kZ 97 (kZ 108 0))) 0)) (kZ (kZ 2 (kZ (kZ 106 (kZ 114 0)) 0)) (kZ (kZ 3 (kZ (kZ 110 (kZ 111 (kZ 112 0))) 0)) (kZ (kZ 4 (kZ (kZ 104 (kZ 97 (kZ 108 (kZ 116 0)))) 0)) 0))))))))))))))))))))))))))))))))))))))))))) (W6 (a - 1))) (kZ 0 (kZ 0 0))) ((0 : Int) = (opCo a) ∧ True) (Pb (Pe 18 a) ((3 : Int) = (opCo a) ∧ True) (Pb (Pe
 19 a) ((3 : Int) = (opCo a) ∧ True) (Pb (Pe 20 a) ((3 : Int) = (opCo a) ∧ True) (Pb (Pe 21 a) ((3 : Int) = (opCo a) ∧ True) (Pb (Pe 39 a) ((3 : Int) = (opCo a) ∧ True) (Pb (Pe 40 a) ((3 : Int) = (opCo a) ∧ True) (Pb (Pe 41 a) ((3 : Int) = (opCo a) ∧ True) (Pb (Pe 22 a) ((2 : Int) = (opCo a) ∧ True) (Pb (Pe 23 a) ((2 : Int) = (opCo a) ∧ True) (Pb (Pe 34 a) ((2 : Int) = (opCo a) ∧ True) (Pb (Pe 35 a) ((2 : Int) = (opCo a) ∧ True) ((1 : Int) = (opCo a) ∧ True)))))))))))))))))
def AllS : List Int → Prop
 | [] => True
 | x :: l => (∃ n y, x = consZ n y ∧ 1 ≤ n ∧ n ≤ 10) ∧ AllS l
theorem AllS.get : ∀ {l : List Int}, AllS l → ∀ k, k < l.length → ∃ n y, l.getD k 0 = consZ n y ∧ 1 ≤ n ∧ n ≤ 10
 | x :: l, h, 0, _ => h.1
 | x :: l, h, k + 1, hk => by
  have := h.2.get k (by simpa using hk)
  simpa using this
noncomputable def nmL : List Int := [(consZ 3 (consZ (consZ 97 (consZ 100 (consZ 100 0))) 0)), (consZ 3 (consZ (consZ 115 (consZ 117 (consZ 98 0))) 0)), (consZ 4 (consZ (consZ 97 (consZ 100 (consZ 100 (consZ 115 0)))) 0)), (consZ 4 (consZ (consZ 115 (consZ 117 (consZ 98 (consZ 115 0)))) 0)), (consZ 3 (consZ (consZ 97 (consZ 110 (consZ 100 0))) 0)), (consZ 2 (consZ (consZ 111 (consZ 114 0)) 0)), (consZ 3 (consZ (consZ 120 (consZ 111 (consZ 114 0))) 0)), (consZ 3 (consZ (consZ 98 (consZ 105 (consZ 99 0))) 0)), (consZ 3 (consZ (consZ 115 (consZ 104 (consZ 108 0))) 0)), (consZ 3 (consZ (consZ 115 (consZ 104 (consZ 114 0))) 0)), (consZ 3 (consZ (consZ 115 (consZ 97 (consZ 114 0))) 0)), (consZ 3 (consZ (consZ 114 (consZ 111 (consZ 108 0))) 0)), (consZ 3 (consZ (consZ 115 (consZ 108 (consZ 116 0))) 0)), (consZ 4 (consZ (consZ 115 (consZ 108 (consZ 116 (consZ 117 0)))) 0)), (consZ 3 (consZ (consZ 115 (consZ 101 (consZ 113 0))) 0)), (consZ 3 (consZ (consZ 109 (consZ 105 (consZ 110 0))) 0)), (consZ 3 (consZ (consZ 109 (consZ 97 (consZ 120 0))) 0)), (consZ 3 (consZ (consZ 109 (consZ 117 (consZ 108 0))) 0)), (consZ 4 (consZ (consZ 109 (consZ 117 (consZ 108 (consZ 104 0)))) 0)), (consZ 4 (consZ (consZ 109 (consZ 117 (consZ 108 (consZ 113 0)))) 0)), (consZ 4 (consZ (consZ 109 (consZ 117 (consZ 108 (consZ 114 0)))) 0)), (consZ 3 (consZ (consZ 100 (consZ 105 (consZ 118 0))) 0)), (consZ 3 (consZ (consZ 114 (consZ 101 (consZ 109 0))) 0)), (consZ 3 (consZ (consZ 99 (consZ 108 (consZ 122 0))) 0)), (consZ 3 (consZ (consZ 110 (consZ 101 (consZ 103 0))) 0)), (consZ 3 (consZ (consZ 97 (consZ 98 (consZ 115 0))) 0)), (consZ 4 (consZ (consZ 109 (consZ 97 (consZ 115 (consZ 107 0)))) 0)), (consZ 4 (consZ (consZ 115 (consZ 105 (consZ 103 (consZ 110 0)))) 0)), (consZ 4 (consZ (consZ 104 (consZ 97 (consZ 108 (consZ 102 0)))) 0)), (consZ 4 (consZ (consZ 104 (consZ 105 (consZ 103 (consZ 104 0)))) 0)), (consZ 4 (consZ (consZ 97 (consZ 100 (consZ 100 (consZ 105 0)))) 0)), (consZ 3 (consZ (consZ 111 (consZ 114 (consZ 105 0))) 0)), (consZ 3 (consZ (consZ 108 (consZ 117 (consZ 105 0))) 0)), (consZ 2 (consZ (consZ 108 (consZ 119 0)) 0)), (consZ 2 (consZ (consZ 115 (consZ 119 0)) 0)), (consZ 3 (consZ (consZ 98 (consZ 101 (consZ 113 0))) 0)), (consZ 3 (consZ (consZ 98 (consZ 110 (consZ 101 0))) 0)), (consZ 3 (consZ (consZ 98 (consZ 108 (consZ 116 0))) 0)), (consZ 4 (consZ (consZ 106 (consZ 117 (consZ 109 (consZ 112 0)))) 0)), (consZ 3 (consZ (consZ 106 (consZ 97 (consZ 108 0))) 0)), (consZ 2 (consZ (consZ 106 (consZ 114 0)) 0)), (consZ 3 (consZ (consZ 110 (consZ 111 (consZ 112 0))) 0)), (consZ 4 (consZ (consZ 104 (consZ 97 (consZ 108 (consZ 116 0)))) 0))]
theorem nm_all : AllS nmL := ⟨⟨_, _, rfl, by decide, by decide⟩, ⟨⟨_, _, rfl, by decide, by decide⟩, ⟨⟨_, _, rfl, by decide, by decide⟩, ⟨⟨_, _, rfl, by decide, by decide⟩, ⟨⟨_, _, rfl, by decide, by decide⟩, ⟨⟨_, _, rfl, by decide, by decide⟩, ⟨⟨_, _, rfl, by decide, by decide⟩, ⟨⟨_, _, rfl, by decide, by decide⟩, ⟨⟨_, _, rfl, by decide, by decide⟩, ⟨⟨_, _, rfl, by decide, by decide⟩, ⟨⟨_, _, rfl, by decide, by decide⟩, ⟨⟨_, _, rfl, by decide, by decide⟩, ⟨⟨_, _, rfl, by decide, by decide⟩, ⟨⟨_, _, rfl, by decide, by decide⟩, ⟨⟨_, _, rfl, by decide, by decide⟩, ⟨⟨_, _, rfl, by decide, by decide⟩, ⟨⟨_, _, rfl, by decide, by decide⟩, ⟨⟨_, _, rfl, by decide, by decide⟩, ⟨⟨_, _, rfl, by decide, by decide⟩, ⟨⟨_, _, rfl, by decide, by decide⟩, ⟨⟨_, _, rfl, by decide, by decide⟩, ⟨⟨_, _, rfl, by decide, by decide⟩, ⟨⟨_, _, rfl, by decide, by decide⟩, ⟨⟨_, _, rfl, by decide, by decide⟩, ⟨⟨_, _, rfl, by decide, by decide⟩, ⟨⟨_, _, rfl, by decide, by decide⟩, ⟨⟨_, _, rfl, by decide, by decide⟩, ⟨⟨_, _, rfl, by decide, by decide⟩, ⟨⟨_, _, rfl, by decide, by decide⟩, ⟨⟨_, _, rfl, by decide, by decide⟩, ⟨⟨_, _, rfl, by decide, by decide⟩, ⟨⟨_, _, rfl, by decide, by decide⟩, ⟨⟨_, _, rfl, by decide, by decide⟩, ⟨⟨_, _, rfl, by decide, by decide⟩, ⟨⟨_, _, rfl, by decide, by decide⟩, ⟨⟨_, _, rfl, by decide, by decide⟩, ⟨⟨_, _, rfl, by decide, by decide⟩, ⟨⟨_, _, rfl, by decide, by decide⟩, ⟨⟨_, _, rfl, by decide, by decide⟩, ⟨⟨_, _, rfl, by decide, by decide⟩, ⟨⟨_, _, rfl, by decide, by decide⟩, ⟨⟨_, _, rfl, by decide, by decide⟩, ⟨⟨_, _, rfl, by decide, by decide⟩, trivial⟩⟩⟩⟩⟩⟩⟩⟩⟩⟩⟩⟩⟩⟩⟩⟩⟩⟩⟩⟩⟩⟩⟩⟩⟩⟩⟩⟩⟩⟩⟩⟩⟩⟩⟩⟩⟩⟩⟩⟩⟩⟩⟩
theorem nm_no {k : Int} (h0 : 0 ≤ k) (h1 : k < 43) : ¬ seqZ (rdZ (consZ (consZ 3 (consZ (consZ 97 (consZ 100 (consZ 100 0))) 0)) (consZ (consZ 3 (consZ (consZ 115 (consZ 117 (consZ 98 0))) 0)) (consZ (consZ 4 (consZ (consZ 97 (consZ 100 (consZ 100 (consZ 115 0)))) 0)) (consZ (consZ 4 (consZ (consZ 115 (consZ 117 (consZ 98 (consZ 115 0)))) 0)) (consZ (consZ 3 (consZ (consZ 97 (consZ 110 (consZ 100 0))) 0)) (consZ (consZ 2 (consZ (consZ 111 (consZ 114 0)) 0)) (consZ (consZ 3 (consZ (consZ 120 (consZ 111 (consZ 114 0))) 0)) (consZ (consZ 3 (consZ (consZ 98 (consZ 105 (consZ 99 0))) 0)) (consZ (consZ 3 (consZ (consZ 115 (consZ 104 (consZ 108 0))) 0)) (consZ (consZ 3 (consZ (consZ 115 (consZ 104 (consZ 114 0))) 0)) (consZ (consZ 3 (consZ (consZ 115 (consZ 97 (consZ 114 0))) 0)) (consZ (consZ 3 (consZ (consZ 114 (consZ 111 (consZ 108 0))) 0)) (consZ (consZ 3 (consZ (consZ 115 (consZ 108 (consZ 116 0))) 0)) (consZ (consZ 4 (consZ (consZ 115 (consZ 108 (consZ 116 (consZ 117 0)))) 0)) (consZ (consZ 3 (consZ (consZ 115 (consZ 101 (consZ 113 0))) 0)) (consZ (consZ 3 (consZ (consZ 109 (consZ 105 (consZ 110 0))) 0)) (consZ (consZ 3 (consZ (consZ 109 (consZ 97 (consZ 120 0))) 0)) (consZ (consZ 3 (consZ (consZ 109 (consZ 117 (consZ 108 0))) 0)) (consZ (consZ 4 (consZ (consZ 109 (consZ 117 (consZ 108 (consZ 104 0)))) 0)) (consZ (consZ 4 (consZ (consZ 109 (consZ 117 (consZ 108 (consZ 113 0)))) 0)) (consZ (consZ 4 (consZ (consZ 109 (consZ 117 (consZ 108 (consZ 114 0)))) 0)) (consZ (consZ 3 (consZ (consZ 100 (consZ 105 (consZ 118 0))) 0)) (consZ (consZ 3 (consZ (consZ 114 (consZ 101 (consZ 109 0))) 0)) (consZ (consZ 3 (consZ (consZ 99 (consZ 108 (consZ 122 0))) 0)) (consZ (consZ 3 (consZ (consZ 110 (consZ 101 (consZ 103 0))) 0)) (consZ (consZ 3 (consZ (consZ 97 (consZ 98 (consZ 115 0))) 0)) (consZ (consZ 4 (consZ (consZ 109 (consZ 97 (consZ 115 (consZ 107 0)))) 0)) (consZ (consZ 4 (consZ (consZ 115 (consZ 105 (consZ 103 (consZ 110 0)))) 0)) (consZ (consZ 4 (consZ (consZ 104 (consZ 97 (consZ 108 (consZ 102 0)))) 0)) (consZ (consZ 4 (consZ (consZ 104 (consZ 105 (consZ 103 (consZ 104 0)))) 0)) (consZ (consZ 4 (consZ (consZ 97 (consZ 100 (consZ 100 (consZ 105 0)))) 0)) (consZ (consZ 3 (consZ (consZ 111 (consZ 114 (consZ 105 0))) 0)) (consZ (consZ 3 (consZ (consZ 108 (consZ 117 (consZ 105 0))) 0)) (consZ (consZ 2 (consZ (consZ 108 (consZ 119 0)) 0)) (consZ (consZ 2 (consZ (consZ 115 (consZ 119 0)) 0)) (consZ (consZ 3 (consZ (consZ 98 (consZ 101 (consZ 113 0))) 0)) (consZ (consZ 3 (consZ (consZ 98 (consZ 110 (consZ 101 0))) 0)) (consZ (consZ 3 (consZ (consZ 98 (consZ 108 (consZ 116 0))) 0)) (consZ (consZ 4 (consZ (consZ 106 (consZ 117 (consZ 109 (consZ 112 0)))) 0)) (consZ (consZ 3 (consZ (consZ 106 (consZ 97 (consZ 108 0))) 0)) (consZ (consZ 2 (consZ (consZ 106 (consZ 114 0)) 0)) (consZ (consZ 3 (consZ (consZ 110 (consZ 111 (consZ 112 0))) 0)) (consZ (consZ 4 (consZ (consZ 104 (consZ 97 (consZ 108 (consZ 116 0)))) 0)) 0))))))))))))))))))))))))))))))))))))))))))) k) (consZ 0 (consZ 0 0)) ≠ 0 := by
 have e : (consZ (consZ 3 (consZ (consZ 97 (consZ 100 (consZ 100 0))) 0)) (consZ (consZ 3 (consZ (consZ 115 (consZ 117 (consZ 98 0))) 0)) (consZ (consZ 4 (consZ (consZ 97 (consZ 100 (consZ 100 (consZ 115 0)))) 0)) (consZ (consZ 4 (consZ (consZ 115 (consZ 117 (consZ 98 (consZ 115 0)))) 0)) (consZ (consZ 3 (consZ (consZ 97 (consZ 110 (consZ 100 0))) 0)) (consZ (consZ 2 (consZ (consZ 111 (consZ 114 0)) 0)) (consZ (consZ 3 (consZ (consZ 120 (consZ 111 (consZ 114 0))) 0)) (consZ (consZ 3 (consZ (consZ 98 (consZ 105 (consZ 99 0))) 0)) (consZ (consZ 3 (consZ (consZ 115 (consZ 104 (consZ 108 0))) 0)) (consZ (consZ 3 (consZ (consZ 115 (consZ 104 (consZ 114 0))) 0)) (consZ (consZ 3 (consZ (consZ 115 (consZ 97 (consZ 114 0))) 0)) (consZ (consZ 3 (consZ (consZ 114 (consZ 111 (consZ 108 0))) 0)) (consZ (consZ 3 (consZ (consZ 115 (consZ 108 (consZ 116 0))) 0)) (consZ (consZ 4 (consZ (consZ 115 (consZ 108 (consZ 116 (consZ 117 0)))) 0)) (consZ (consZ 3 (consZ (consZ 115 (consZ 101 (consZ 113 0))) 0)) (consZ (consZ 3 (consZ (consZ 109 (consZ 105 (consZ 110 0))) 0)) (consZ (consZ 3 (consZ (consZ 109 (consZ 97 (consZ 120 0))) 0)) (consZ (consZ 3 (consZ (consZ 109 (consZ 117 (consZ 108 0))) 0)) (consZ (consZ 4 (consZ (consZ 109 (consZ 117 (consZ 108 (consZ 104 0)))) 0)) (consZ (consZ 4 (consZ (consZ 109 (consZ 117 (consZ 108 (consZ 113 0)))) 0)) (consZ (consZ 4 (consZ (consZ 109 (consZ 117 (consZ 108 (consZ 114 0)))) 0)) (consZ (consZ 3 (consZ (consZ 100 (consZ 105 (consZ 118 0))) 0)) (consZ (consZ 3 (consZ (consZ 114 (consZ 101 (consZ 109 0))) 0)) (consZ (consZ 3 (consZ (consZ 99 (consZ 108 (consZ 122 0))) 0)) (consZ (consZ 3 (consZ (consZ 110 (consZ 101 (consZ 103 0))) 0)) (consZ (consZ 3 (consZ (consZ 97 (consZ 98 (consZ 115 0))) 0)) (consZ (consZ 4 (consZ (consZ 109 (consZ 97 (consZ 115 (consZ 107 0)))) 0)) (consZ (consZ 4 (consZ (consZ 115 (consZ 105 (consZ 103 (consZ 110 0)))) 0)) (consZ (consZ 4 (consZ (consZ 104 (consZ 97 (consZ 108 (consZ 102 0)))) 0)) (consZ (consZ 4 (consZ (consZ 104 (consZ 105 (consZ 103 (consZ 104 0)))) 0)) (consZ (consZ 4 (consZ (consZ 97 (consZ 100 (consZ 100 (consZ 105 0)))) 0)) (consZ (consZ 3 (consZ (consZ 111 (consZ 114 (consZ 105 0))) 0)) (consZ (consZ 3 (consZ (consZ 108 (consZ 117 (consZ 105 0))) 0)) (consZ (consZ 2 (consZ (consZ 108 (consZ 119 0)) 0)) (consZ (consZ 2 (consZ (consZ 115 (consZ 119 0)) 0)) (consZ (consZ 3 (consZ (consZ 98 (consZ 101 (consZ 113 0))) 0)) (consZ (consZ 3 (consZ (consZ 98 (consZ 110 (consZ 101 0))) 0)) (consZ (consZ 3 (consZ (consZ 98 (consZ 108 (consZ 116 0))) 0)) (consZ (consZ 4 (consZ (consZ 106 (consZ 117 (consZ 109 (consZ 112 0)))) 0)) (consZ (consZ 3 (consZ (consZ 106 (consZ 97 (consZ 108 0))) 0)) (consZ (consZ 2 (consZ (consZ 106 (consZ 114 0)) 0)) (consZ (consZ 3 (consZ (consZ 110 (consZ 111 (consZ 112 0))) 0)) (consZ (consZ 4 (consZ (consZ 104 (consZ 97 (consZ 108 (consZ 116 0)))) 0)) 0))))))))))))))))))))))))))))))))))))))))))) = chn nmL := rfl
 rw [e, show k = ((k.toNat : Nat) : Int) by omega, rd_chn]
 obtain ⟨n, y, h, h2, h3⟩ := nm_all.get k.toNat (by show k.toNat < 43; omega)
 rw [h]
 intro hs
 have hz := (seq_empty _).1 hs
 rw [slen_cons] at hz
 rw [if_neg (by omega), if_neg (by unfold strMax; omega)] at hz
 omega
set_option maxRecDepth 100000 in
theorem holds (p0 : Int) (l_p0 : -9223372036854775808 ≤ p0) (u_p0 : p0 ≤ 9223372036854775807) : P p0 := by
 delta P Pb Pm PL Pl Pe W6 kZ
 have wk : 1 ≤ p0 → p0 ≤ 43 → IntKind.wrap .i64 (p0 - 1) = p0 - 1 := fun a b => w64 (by omega) (by omega)
 simp only [nrm, Int.reduceEq, Int.reduceNeg, reduceIte]
 have op : ∀ c, opCo p0 = c → c = opCo p0 := fun c h => h.symm
 refine ⟨fun h => ?_, fun h => ⟨fun h2 => ?_, fun h2 => ?_⟩⟩
 ·unfold opCo; rw [if_pos (by omega)]
 ·unfold opCo; rw [if_pos (by omega)]
 ·rw [wk (by omega) (by omega)]
  refine ⟨fun _ => ⟨fun _ => ⟨fun h3 => absurd h3 (nm_no (by omega) (by omega)), fun _ => ?_⟩, fun h => by omega⟩, fun h => by omega⟩
  unfold opCo
  rw [if_neg (by omega)]
  repeat' (first | refine ⟨fun _ => ?_, fun _ => ?_⟩ | fail)
  all_goals (repeat' split) <;> omega
theorem plain (i v ro p) : statR 2 rc tree ⟨i, fN, v, ro, p⟩ = P (i 0) := by kernel_rfl
theorem ran : ranR us (fun f _ => if [124].contains f then .unroll 400 else .auto) rc 2 tree = true := by kernel_rfl
theorem fineT : fineR 2 rc tree = true := by kernel_rfl
theorem ok : RcOk (cxOf 2) rc := okR us_ok ran fineT okb fun i v ro p hρ hcap hpre => by rw [plain]; have q := hρ.hi; exact holds (i 0) (q 0 _ rfl).1 (q 0 _ rfl).2
end CRCost6
namespace CRCost7
def rc : Rc := ⟨54, [none, none], [.int .i64, .int .i32], [], .one, [.int .i64 (.f 65 (.v 0) (.v 1) (.c 0))]⟩
theorem okb : rc.ok = true := by kernel_rfl
noncomputable def us : SMs := fun Γ ins n => smH (cxG n Γ ins) [] (smR (cxG n Γ ins) [CRBitN.rc, CRCost6.rc])
theorem us_ok : SMsOk us := fun Γ ins n => smH_ok (tabsG n Γ ins) (rhs_nil _) (smR_ok (tabsG n Γ ins) (rcs_cons CRBitN.okb (rc_n CRBitN.ok) (rcs_cons CRCost6.okb (rc_n CRCost6.ok) (rcs_nil _))))
def tree : TT (List E) :=
(.br (.b .eq .i64 (.v 0) (.c 22))
 (.br (.b .lt .i64 (.v 1) (.c 0))
 (.new 1000 (.ite (.b .lt .i64 (.b .psub .i64 (.c 0) (.v 1)) (.c 0)) (.c 0) (.f 3 (.b .psub .i64 (.c 0) (.v 1)) (.c 0) (.c 0)))
 (.leaf [(.b .padd .i64 (.c 2) (.cl 1000 0 64))]))
 (.leaf [(.b .padd .i64 (.c 2) (.ite (.b .lt .i64 (.v 1) (.c 0)) (.c 0) (.f 3 (.v 1) (.c 0) (.c 0))))]))
 (.br (.b .eq .i64 (.v 0) (.c 23))
 (.br (.b .lt .i64 (.v 1) (.c 0))
 (.new 1000 (.ite (.b .lt .i64 (.b .psub .i64 (.c 0) (.v 1)) (.c 0)) (.c 0) (.f 3 (.b .psub .i64 (.c 0) (.v 1)) (.c 0) (.c 0)))
 (.leaf [(.b .padd .i64 (.c 2) (.cl 1000 0 64))]))
 (.leaf [(.b .padd .i64 (.c 2) (.ite (.b .lt .i64 (.v 1) (.c 0)) (.c 0) (.f 3 (.v 1) (.c 0) (.c 0))))]))
 (.leaf [(.f 66 (.v 0) (.c 0) (.c 0))])))
def P (p0 p1 : Int) : Prop :=
 (((bool01 (p0 == 22)) ≠ 0 →
  (((bool01 (decide (p1 < 0))) ≠ 0 →
   ∀ y1000 : Int, y1000 = (iteZ (bool01 (decide ((0 - p1) < 0))) 0 (blen64 (0 - p1))) → (0 ≤ y1000 ∧ y1000 ≤ 64) →
   ((2 + y1000) : Int) = (aluC p0 p1) ∧ True) ∧ ((bool01 (decide (p1 < 0))) = 0 →
   ((2 + (iteZ (bool01 (decide (p1 < 0))) 0 (blen64 p1))) : Int) = (aluC p0 p1) ∧ True))) ∧ ((bool01 (p0 == 22)) = 0 →
  (((bool01 (p0 == 23)) ≠ 0 →
   (((bool01 (decide (p1 < 0))) ≠ 0 →
    ∀ y1000 : Int, y1000 = (iteZ (bool01 (decide ((0 - p1) < 0))) 0 (blen64 (0 - p1))) → (0 ≤ y1000 ∧ y1000 ≤ 64) →
    ((2 + y1000) : Int) = (aluC p0 p1) ∧ True) ∧ ((bool01 (decide (p1 < 0))) = 0 →
    ((2 + (iteZ (bool01 (decide (p1 < 0))) 0 (blen64 p1))) : Int) = (aluC p0 p1) ∧ True))) ∧ ((bool01 (p0 == 23)) = 0 →
   ((opCo p0) : Int) = (aluC p0 p1) ∧ True))))
theorem aluL_pos {a : Int} (h : 0 ≤ a) (h2 : a ≤ 2147483647) : aluL a = blen64 a := by
 unfold aluL blen64
 rw [if_neg (by omega), show IntKind.wrap .u64 a = a from wrap_in .u64 _ (show (0 : Int) ≤ _ by omega) (show _ ≤ (18446744073709551615 : Int) by omega)]
theorem aluL_neg {a : Int} (h : a < 0) (h2 : -2147483648 ≤ a) : aluL a = blen64 (0 - a) := by
 unfold aluL blen64
 rw [if_pos (by omega), show IntKind.wrap .u64 (0 - a) = 0 - a from wrap_in .u64 _ (show (0 : Int) ≤ _ by omega) (show _ ≤ (18446744073709551615 : Int) by omega)]
theorem holds (p0 p1 : Int) (l_p0 : -9223372036854775808 ≤ p0) (u_p0 : p0 ≤ 9223372036854775807) (l_p1 : -2147483648 ≤ p1) (u_p1 : p1 ≤ 2147483647) : P p0 p1 := by
 unfold P
 have c2 : ∀ p, p = 22 ∨ p = 23 → aluC p p1 = 2 + aluL p1 := fun p h => by
  unfold aluC opCo
  rw [if_pos h, if_neg (by omega), if_neg (by omega), if_pos (by omega)]
 simp only [nrm, Int.reduceEq, Int.reduceNeg, reduceIte]
 refine ⟨fun h => ⟨fun g => ?_, fun g => ?_⟩, fun h => ⟨fun h2 => ⟨fun g => ?_, fun g => ?_⟩, fun h2 => ?_⟩⟩
 ·rintro _ rfl _
  rw [c2 p0 (.inl h), aluL_neg g l_p1, if_neg (by omega)]
 ·rw [c2 p0 (.inl h), aluL_pos g u_p1, if_neg (by omega)]
 ·rintro _ rfl _
  rw [c2 p0 (.inr h2), aluL_neg g l_p1, if_neg (by omega)]
 ·rw [c2 p0 (.inr h2), aluL_pos g u_p1, if_neg (by omega)]
 ·unfold aluC; rw [if_neg (by omega)]; omega
theorem plain (i v ro p) : statR 2 rc tree ⟨i, fN, v, ro, p⟩ = P (i 0) (i 1) := by kernel_rfl
theorem ran : ranR us (fun _ _ => .auto) rc 2 tree = true := by kernel_rfl
theorem fineT : fineR 2 rc tree = true := by kernel_rfl
theorem ok : RcOk (cxOf 2) rc := okR us_ok ran fineT okb fun i v ro p hρ hcap hpre => by rw [plain]; have q := hρ.hi; exact holds (i 0) (i 1) (q 0 _ rfl).1 (q 0 _ rfl).2 (q 1 _ rfl).1 (q 1 _ rfl).2
end CRCost7
namespace CRSet
def rk : Rk := ⟨48, [(0, 31), (-2147483648, 2147483647)], 3, [.ptr 0 0, .int .i64 (.v 0), .int .i32 (.v 1)], [.cells ([.wild 1, .wild 2] ++ bk32 (.v 2) ++ [.wild 3, .wild 4, .wild 5]) 50 none, .gone, .gone, .gone, .gone, .gone], [], .tup [], [.cells ([.wild 1, .wild 2] ++ bk32 (.v 1000000) ++ [.wild 3, .wild 4, .wild 5]) 50 none, .gone, .gone, .gone, .gone, .gone], [.code [.int .i32] (.ite (.b .eq .i64 (.v 0) (.c 0)) (.v 2) (.f 14 (.v 2) (.v 0) (.v 1))) (.c 32)], []⟩
theorem okk : rk.ok = true := by kernel_rfl
theorem okh : rk.rh.ok = true := by kernel_rfl
noncomputable def us : SMs := fun Γ ins n => smH (cxG n Γ ins) [] (smR (cxG n Γ ins) [])
theorem us_ok : SMsOk us := fun Γ ins n => smH_ok (tabsG n Γ ins) (rhs_nil _) (smR_ok (tabsG n Γ ins) (rcs_nil _))
def tree : TT (List E) :=
(.br (.b .ne .i64 (.v 0) (.c 0))
 (.leaf [(.f 14 (.v 2) (.v 0) (.v 1))])
 (.leaf [(.v 2)]))
def P (i x rg : Int) : Prop :=
 (((bool01 (i != 0)) ≠ 0 →
  rowEq [.int .i32] (updZ rg i x) (iteZ (bool01 (i == 0)) rg (updZ rg i x)) 32 ∧ True) ∧ ((bool01 (i != 0)) = 0 →
  rowEq [.int .i32] rg (iteZ (bool01 (i == 0)) rg (updZ rg i x)) 32 ∧ True))
theorem holds (i x rg : Int) (l_i : 0 ≤ i) (u_i : i ≤ 31) (l_x : -2147483648 ≤ x) (u_x : x ≤ 2147483647) : P i x rg := by
 unfold P
 refine ⟨fun h => ?_, fun h => ?_⟩
 ·have h1 : i ≠ 0 := by simpa [b01_eq] using h
  have e : bool01 (i == 0) = 0 := by simp [bool01, h1]
  rw [e]
  exact ⟨rowEq_refl _ _ _, trivial⟩
 ·have h1 : i = 0 := by simpa [b01_eq] using h
  subst h1
  exact ⟨rowEq_refl _ _ _, trivial⟩
theorem plain (i v ro p) : statH 2 rk tree ⟨i, fN, v, ro, p⟩ = P (i 0) (i 1) (i 2) := by kernel_rfl
theorem ran : ranH us (fun _ _ => .auto) rk 2 tree = true := by kernel_rfl
theorem fineT : fineH 2 rk tree = true := by kernel_rfl
theorem fineB : blVb 1000 rk.inb = true := by kernel_rfl
theorem ok : RhOk (cxOf 2) rk.rh := okH us_ok ran fineT fineB okk fun i v ro p hρ hpre => by rw [plain]; have q := hρ.hi; exact holds (i 0) (i 1) (i 2) (q 0 _ rfl).1 (q 0 _ rfl).2 (q 1 _ rfl).1 (q 1 _ rfl).2
end CRSet
namespace CRMark
def rk : Rk := ⟨50, [(-9223372036854775808, 9223372036854775807), (-9223372036854775808, 9223372036854775807), (-9223372036854775808, 9223372036854775807), (-9223372036854775808, 9223372036854775807), (0, 999999)], 7, [.ptr 0 0, .int .i64 (.v 0), .int .i64 (.v 1), .int .i64 (.v 2)], [.cells ([.wild 1, .wild 2] ++ bk32 (.v 5) ++ [.int .i64 (.v 3), .wild 3, .sl (.own 4) 3 (.c 0) (.v 4) none]) 50 none, .gone, .gone, .gone, .arr [.int .i64, .int .i64, .int .i64] 70 (.v 6) (.v 4)], [], .tup [], [.cells ([.wild 1, .wild 2] ++ bk32 (.v 5) ++ [.int .i64 (.v 1000000), .wild 3, .sl (.own 5) 3 (.c 0) (.v 1000001) none]) 50 none, .gone, .gone, .gone, .gone, .arr [.int .i64, .int .i64, .int .i64] 70 (.v 1000002) (.v 1000001)], [.num (.v 0), .num (.b .padd .i64 (.v 4) (.c 1)), .code [.int .i64, .int .i64, .int .i64] (.f 14 (.v 6) (.v 4) (.f 11 (.v 3) (.f 11 (.v 1) (.f 11 (.v 2) (.c 0) (.c 0)) (.c 0)) (.c 0))) (.b .padd .i64 (.v 4) (.c 1))], []⟩
theorem okk : rk.ok = true := by kernel_rfl
theorem okh : rk.rh.ok = true := by kernel_rfl
noncomputable def us : SMs := fun Γ ins n => smH (cxG n Γ ins) [] (smR (cxG n Γ ins) [])
theorem us_ok : SMsOk us := fun Γ ins n => smH_ok (tabsG n Γ ins) (rhs_nil _) (smR_ok (tabsG n Γ ins) (rcs_nil _))
def tree : TT (List E) :=
(.leaf [(.v 0), (.b .padd .i64 (.v 4) (.c 1)), (.f 14 (.v 6) (.v 4) (.f 11 (.v 3) (.f 11 (.v 1) (.f 11 (.v 2) (.c 0) (.c 0)) (.c 0)) (.c 0)))])
def P (next addr cost pc nm rg mq : Int) : Prop :=
 (next : Int) = next ∧ ((nm + 1) : Int) = (nm + 1) ∧ rowEq [.int .i64, .int .i64, .int .i64] (updZ mq nm (consZ pc (consZ addr (consZ cost 0)))) (updZ mq nm (consZ pc (consZ addr (consZ cost 0)))) (nm + 1) ∧ True
theorem holds (next addr cost pc nm rg mq : Int) (l_next : -9223372036854775808 ≤ next) (u_next : next ≤ 9223372036854775807) (l_addr : -9223372036854775808 ≤ addr) (u_addr : addr ≤ 9223372036854775807) (l_cost : -9223372036854775808 ≤ cost) (u_cost : cost ≤ 9223372036854775807) (l_pc : -9223372036854775808 ≤ pc) (u_pc : pc ≤ 9223372036854775807) (l_nm : 0 ≤ nm) (u_nm : nm ≤ 999999) : P next addr cost pc nm rg mq := by
 unfold P
 exact ⟨rfl, rfl, rowEq_refl _ _ _, trivial⟩
theorem plain (i v ro p) : statH 2 rk tree ⟨i, fN, v, ro, p⟩ = P (i 0) (i 1) (i 2) (i 3) (i 4) (i 5) (i 6) := by kernel_rfl
theorem ran : ranH us (fun _ _ => .auto) rk 2 tree = true := by kernel_rfl
theorem fineT : fineH 2 rk tree = true := by kernel_rfl
theorem fineB : blVb 1000 rk.inb = true := by kernel_rfl
theorem ok : RhOk (cxOf 2) rk.rh := okH us_ok ran fineT fineB okk fun i v ro p hρ hpre => by rw [plain]; have q := hρ.hi; exact holds (i 0) (i 1) (i 2) (i 3) (i 4) (i 5) (i 6) (q 0 _ rfl).1 (q 0 _ rfl).2 (q 1 _ rfl).1 (q 1 _ rfl).2 (q 2 _ rfl).1 (q 2 _ rfl).2 (q 3 _ rfl).1 (q 3 _ rfl).2 (q 4 _ rfl).1 (q 4 _ rfl).2
end CRMark
namespace CRGoes
def rk : Rk := ⟨53, [(36, 41), (0, 31), (0, 31), (-9223372036854775808, 9223372036854775807), (-9223372036854775808, 9223372036854775807), (-9223372036854775808, 9223372036854775807), (0, 999999)], 9, [.ptr 0 0, .agg [.int .i64 (.v 0), .int .i64 (.v 1), .int .i64 (.v 2), .int .i64 (.v 3), .int .i64 (.v 4)]], [.cells ([.wild 1, .wild 2] ++ bk32 (.v 7) ++ [.int .i64 (.v 5), .wild 3, .sl (.own 4) 3 (.c 0) (.v 6) none]) 50 none, .gone, .gone, .gone, .arr [.int .i64, .int .i64, .int .i64] 70 (.v 8) (.v 6)], [], .tup [], [.cells ([.wild 1, .wild 2] ++ bk32 (.v 1000000) ++ [.int .i64 (.v 1000001), .wild 3, .sl (.own 5) 3 (.c 0) (.v 1000003) none]) 50 none, .gone, .gone, .gone, .gone, .arr [.int .i64, .int .i64, .int .i64] 70 (.v 1000002) (.v 1000003)], [.code [.int .i32] (.f 13 (.f 81 (.v 0) (.v 1) (listE [(.v 2), (.v 4), (.v 7), (.v 5), (.v 8), (.v 6)])) (.c 0) (.c 0)) (.c 32), .num (.w .i64 (.f 13 (.f 81 (.v 0) (.v 1) (listE [(.v 2), (.v 4), (.v 7), (.v 5), (.v 8), (.v 6)])) (.c 1) (.c 0))), .code [.int .i64, .int .i64, .int .i64] (.f 13 (.f 81 (.v 0) (.v 1) (listE [(.v 2), (.v 4), (.v 7), (.v 5), (.v 8), (.v 6)])) (.c 2) (.c 0)) (.b .padd .i64 (.v 6) (.c 1)), .num (.b .padd .i64 (.v 6) (.c 1))], []⟩
theorem okk : rk.ok = true := by kernel_rfl
theorem okh : rk.rh.ok = true := by kernel_rfl
noncomputable def us : SMs := fun Γ ins n => smH (cxG n Γ ins) [CRSet.rk.rh, CRMark.rk.rh] (smR (cxG n Γ ins) [])
theorem us_ok : SMsOk us := fun Γ ins n => smH_ok (tabsG n Γ ins) (rhs_cons CRSet.okh (rh_n CRSet.ok) (rhs_cons CRMark.okh (rh_n CRMark.ok) (rhs_nil _))) (smR_ok (tabsG n Γ ins) (rcs_nil _))
def Q0 : E := (tR (.v 7) (.v 1))
def Q1 : E := (t3 Q0)
def Q2 : E := (tR (.v 7) (.v 2))
def Q3 : E := (t3 Q2)
def Q4 : E := (te (.v 0) (.c 39))
def Q5 : E := (tC (.c 3) (.c 0))
def Q6 : E := (tC (.c (-1)) Q5)
def Q7 : E := (tC (.v 5) Q6)
def Q8 : E := (.f 14 (.v 8) (.v 6) Q7)
def Q9 : E := (tp (.v 6) (.c 1))
def Q10 : E := (te (.v 0) (.c 40))
def Q11 : E := (te (.v 1) (.c 0))
def Q12 : E := (tp (.v 5) (.c 1))
def Q13 : E := (t3 Q12)
def Q14 : E := (.f 14 (.v 7) (.v 1) Q13)
def Q15 : E := (.ite Q11 (.v 7) Q14)
def Q16 : E := (te (.v 0) (.c 41))
def Q17 : E := (tn Q1 Q3)
def Q18 : E := (te (.v 0) (.c 38))
def Q19 : E := (tk Q1 Q3)
def Q20 : E := (t6 Q12)
def Q21 : E := (tC (.c 1) (.c 0))
def Q22 : E := (tC (.c (-1)) Q21)
def Q23 : E := (tC (.v 5) Q22)
def Q24 : E := (.f 14 (.v 8) (.v 6) Q23)
def tree : TT (List E) :=
 (.br (te (.v 0) (.c 36)) (.br (te Q1 Q3) (.br Q4 (.leaf [(.v 7), (.v 4), Q8, Q9]) (.br Q10 (.leaf [Q15, (.v 4), Q8, Q9]) (.br Q16 (.leaf [(.v 7), Q3, Q8, Q9]) (.leaf [(.v 7), (.v 4), Q8, Q9])))) (.br (te (.v 0) (.c 37)) (.br Q17 (.br Q4 (.leaf [(.v 7), (.v 4), Q8, Q9]) (.br Q10 (.leaf [Q15, (.v 4), Q8, Q9]) (.br Q16 (.leaf [(.v 7), Q3, Q8, Q9]) (.leaf [(.v 7), (.v 4), Q8, Q9])))) (.br Q18 (.br Q4 (.leaf [(.v 7), (.v 4), Q8, Q9]) (.br Q10 (.leaf [Q15, (.v 4), Q8, Q9]) (.br Q16 (.leaf [(.v 7), Q3, Q8, Q9]) (.br Q19 (.leaf [(.v 7), (.v 4), Q8, Q9]) (.leaf [(.v 7), Q20, Q24, Q9]))))) (.br Q4 (.leaf [(.v 7), (.v 4), Q8, Q9]) (.br Q10 (.leaf [Q15, (.v 4), Q8, Q9]) (.br Q16 (.leaf [(.v 7), Q3, Q8, Q9]) (.leaf [(.v 7), Q20, Q24, Q9])))))) (.br Q18 (.br Q4 (.leaf [(.v 7), (.v 4), Q8, Q9]) (.br
 Q10 (.leaf [Q15, (.v 4), Q8, Q9]) (.br Q16 (.leaf [(.v 7), Q3, Q8, Q9]) (.br Q19 (.leaf [(.v 7), (.v 4), Q8, Q9]) (.leaf [(.v 7), Q20, Q24, Q9]))))) (.br Q4 (.leaf [(.v 7), (.v 4), Q8, Q9]) (.br Q10 (.leaf [Q15, (.v 4), Q8, Q9]) (.br Q16 (.leaf [(.v 7), Q3, Q8, Q9]) (.leaf [(.v 7), Q20, Q24, Q9]))))))) (.br (te (.v 0) (.c 37)) (.br Q17 (.br Q4 (.leaf [(.v 7), (.v 4), Q8, Q9]) (.br Q10 (.leaf [Q15, (.v 4), Q8, Q9]) (.br Q16 (.leaf [(.v 7), Q3, Q8, Q9]) (.leaf [(.v 7), (.v 4), Q8, Q9])))) (.br Q18 (.br Q4 (.leaf [(.v 7), (.v 4), Q8, Q9]) (.br Q10 (.leaf [Q15, (.v 4), Q8, Q9]) (.br Q16 (.leaf [(.v 7), Q3, Q8, Q9]) (.br Q19 (.leaf [(.v 7), (.v 4), Q8, Q9]) (.leaf [(.v 7), Q20, Q24, Q9]))))) (.br Q4 (.leaf [(.v 7), (.v 4), Q8, Q9]) (.br Q10 (.leaf [Q15, (.v 4), Q8, Q9]) (.br Q16 (.leaf [(.v
 7), Q3, Q8, Q9]) (.leaf [(.v 7), Q20, Q24, Q9])))))) (.br Q18 (.br Q4 (.leaf [(.v 7), (.v 4), Q8, Q9]) (.br Q10 (.leaf [Q15, (.v 4), Q8, Q9]) (.br Q16 (.leaf [(.v 7), Q3, Q8, Q9]) (.br Q19 (.leaf [(.v 7), (.v 4), Q8, Q9]) (.leaf [(.v 7), Q20, Q24, Q9]))))) (.br Q4 (.leaf [(.v 7), (.v 4), Q8, Q9]) (.br Q10 (.leaf [Q15, (.v 4), Q8, Q9]) (.br Q16 (.leaf [(.v 7), Q3, Q8, Q9]) (.leaf [(.v 7), Q20, Q24, Q9])))))))
def sL0 (a b c e h f i g z0 z3 z5 : Int) : Prop := rowEq [.int .i32] z0 (rdZ (goeZ a b (kZ c (kZ e (kZ h (kZ f (kZ i (kZ g 0))))))) 0) 32 ∧ (z3 : Int) = (W6 (rdZ (goeZ a b (kZ c (kZ e (kZ h (kZ f (kZ i (kZ g 0))))))) 1)) ∧ rowEq [.int .i64, .int .i64, .int .i64] z5 (rdZ (goeZ a b (kZ c (kZ e (kZ h (kZ f (kZ i (kZ g 0))))))) 2) (g + 1) ∧ ((g + 1) : Int) = (g + 1) ∧ True
def sq0 (a b c e h f i g : Int) : Prop := (Pb (Pe a 38) (Pb (Pe a 39) (sL0 a b c e h f i g h e (updZ i g (kZ f (kZ (-1) (kZ 3 0))))) (Pb (Pe a 40) (sL0 a b c e h f i g (iteZ (Pe b 0) h (updZ h b (W3 (f + 1)))) e (updZ i g (kZ f (kZ (-1) (kZ 3 0))))) (Pb (Pe a 41) (sL0 a b c e h f i g h (W3 (rdZ h c)) (updZ i g (kZ f (kZ (-1) (kZ 3 0))))) (Pb (Pl (W3 (rdZ h b)) (W3 (rdZ h c))) (sL0 a b c e h f i g h e (updZ i g (kZ f (kZ (-1) (kZ 3 0))))) (sL0 a b c e h f i g h (W6 (f + 1)) (updZ i g (kZ f (kZ (-1) (kZ 1 0))))))))) (Pb (Pe a 39) (sL0 a b c e h f i g h e (updZ i g (kZ f (kZ (-1) (kZ 3 0))))) (Pb (Pe a 40) (sL0 a b c e h f i g (iteZ (Pe b 0) h (updZ h b (W3 (f + 1)))) e (updZ i g (kZ f (kZ (-1) (kZ 3 0))))) (Pb (Pe a 41) (sL0 a b c e h f i g h (W3 (rdZ h c)) (updZ i g (kZ f (kZ (-1) (kZ 3
 0))))) (sL0 a b c e h f i g h (W6 (f + 1)) (updZ i g (kZ f (kZ (-1) (kZ 1 0)))))))))
def sq1 (a b c e h f i g : Int) : Prop := (Pb (Pe a 39) (sL0 a b c e h f i g h e (updZ i g (kZ f (kZ (-1) (kZ 3 0))))) (Pb (Pe a 40) (sL0 a b c e h f i g (iteZ (Pe b 0) h (updZ h b (W3 (f + 1)))) e (updZ i g (kZ f (kZ (-1) (kZ 3 0))))) (Pb (Pe a 41) (sL0 a b c e h f i g h (W3 (rdZ h c)) (updZ i g (kZ f (kZ (-1) (kZ 3 0))))) (sL0 a b c e h f i g h e (updZ i g (kZ f (kZ (-1) (kZ 3 0))))))))
def P (a b c d e f g h i : Int) : Prop :=
 (Pb (Pe a 36) (Pb (Pe (W3 (rdZ h b)) (W3 (rdZ h c))) (sq1 a b c e h f i g) (Pb (Pe a 37) (Pb (Pd (W3 (rdZ h b)) (W3 (rdZ h c))) (sq1 a b c e h f i g) (sq0 a b c e h f i g)) (sq0 a b c e h f i g))) (Pb (Pe a 37) (Pb (Pd (W3 (rdZ h b)) (W3 (rdZ h c))) (sq1 a b c e h f i g) (sq0 a b c e h f i g)) (sq0 a b c e h f i g)))
theorem holds (op d a b n pc nm rg mq : Int) (l_op : 36 ≤ op) (u_op : op ≤ 41) (l_d : 0 ≤ d) (u_d : d ≤ 31) (l_a : 0 ≤ a) (u_a : a ≤ 31) (l_b : -9223372036854775808 ≤ b) (u_b : b ≤ 9223372036854775807) (l_n : -9223372036854775808 ≤ n) (u_n : n ≤ 9223372036854775807) (l_pc : -9223372036854775808 ≤ pc) (u_pc : pc ≤ 9223372036854775807) (l_nm : 0 ≤ nm) (u_nm : nm ≤ 999999) : P op d a b n pc nm rg mq := by
 delta P sq0 sq1 sL0 Pb Pl Pe Pd W6 W3 kZ
 have ho : op = 36 ∨ op = 37 ∨ op = 38 ∨ op = 39 ∨ op = 40 ∨ op = 41 := by omega
 rcases ho with rfl | rfl | rfl | rfl | rfl | rfl <;> simp only [nrm, nro, Int.reduceEq, Int.reduceNeg, reduceIte]
 ·exact ⟨fun h => goe_leaf (does_36.trans (if_pos h)) ⟨by omega, by omega⟩, fun h => goe_leaf (does_36.trans (if_neg h)) (i64_in _)⟩
 ·exact ⟨fun h => goe_leaf (does_37.trans (if_pos h)) ⟨by omega, by omega⟩, fun h => goe_leaf (does_37.trans (if_neg (fun g => g h))) (i64_in _)⟩
 ·exact ⟨fun h => goe_leaf (does_38.trans (if_pos h)) ⟨by omega, by omega⟩, fun h => goe_leaf (does_38.trans (if_neg (Int.not_lt.2 h))) (i64_in _)⟩
 ·exact goe_leaf does_39 ⟨by omega, by omega⟩
 ·by_cases hd : d = 0
  ·rw [if_pos hd]
   exact goe_leaf (does_40.trans (by rw [put_neg hd]; rfl)) ⟨by omega, by omega⟩
  ·rw [if_neg hd]
   exact goe_leaf (does_40.trans (by rw [put_pos hd]; rfl)) ⟨by omega, by omega⟩
 ·exact goe_leaf does_41 (i32_i64 _)
theorem plain (i v ro p) : statH 2 rk tree ⟨i, fN, v, ro, p⟩ = P (i 0) (i 1) (i 2) (i 3) (i 4) (i 5) (i 6) (i 7) (i 8) := by kernel_rfl
theorem ran : ranH us (fun _ _ => .auto) rk 2 tree = true := by kernel_rfl
theorem fineT : fineH 2 rk tree = true := by kernel_rfl
theorem fineB : blVb 1000 rk.inb = true := by kernel_rfl
theorem ok : RhOk (cxOf 2) rk.rh := okH us_ok ran fineT fineB okk fun i v ro p hρ hpre => by rw [plain]; have q := hρ.hi; exact holds (i 0) (i 1) (i 2) (i 3) (i 4) (i 5) (i 6) (i 7) (i 8) (q 0 _ rfl).1 (q 0 _ rfl).2 (q 1 _ rfl).1 (q 1 _ rfl).2 (q 2 _ rfl).1 (q 2 _ rfl).2 (q 3 _ rfl).1 (q 3 _ rfl).2 (q 4 _ rfl).1 (q 4 _ rfl).2 (q 5 _ rfl).1 (q 5 _ rfl).2 (q 6 _ rfl).1 (q 6 _ rfl).2
end CRGoes
namespace CRMem
def rk : Rk := ⟨52, [(34, 35), (0, 31), (0, 31), (-9223372036854775808, 9223372036854775807), (-32768, 65535), (-9223372036854775808, 9223372036854775807), (-9223372036854775808, 9223372036854775807), (0, 999999), (0, 2048)], 12, [.ptr 0 0, .agg [.int .i64 (.v 0), .int .i64 (.v 1), .int .i64 (.v 2), .int .i64 (.v 3), .int .i64 (.v 4)]], [.cells ([.wild 1, .sl (.own 2) 1 (.c 0) (.v 8) none] ++ bk32 (.v 9) ++ [.int .i64 (.v 5), .int .i64 (.v 6), .sl (.own 3) 3 (.c 0) (.v 7) none]) 50 none, .gone, .arr [.int .i32] 21 (.v 10) (.v 8), .arr [.int .i64, .int .i64, .int .i64] 70 (.v 11) (.v 7)], [], .tup [], [.cells ([.wild 1, .sl (.own 4) 1 (.c 0) (.v 8) none] ++ bk32 (.v 1000000) ++ [.int .i64 (.v 1000002), .int .i64 (.v 1000003), .sl (.own 5) 3 (.c 0) (.v 1000004) none]) 50 none, .gone, .gone, .gone, .arr [.int .i32] 21 (.v 1000001) (.v 8), .arr [.int .i64, .int .i64, .int .i64] 70 (.v 1000005) (.v 1000004)], [.code [.int .i32] (.f 13 (.f 82 (.v 0) (.v 1) (listE [(.v 2), (.v 4), (.v 8), (.v 9), (.v 10), (.v 5), (.v 6), (.v 11), (.v 7)])) (.c 0) (.c 0)) (.c 32), .code [.int .i32] (.f 13 (.f 82 (.v 0) (.v 1) (listE [(.v 2), (.v 4), (.v 8), (.v 9), (.v 10), (.v 5), (.v 6), (.v 11), (.v 7)])) (.c 1) (.c 0)) (.v 8), .num (.w .i64 (.f 13 (.f 82 (.v 0) (.v 1) (listE [(.v 2), (.v 4), (.v 8), (.v 9), (.v 10), (.v 5), (.v 6), (.v 11), (.v 7)])) (.c 2) (.c 0))), .num (.w .i64 (.f 13 (.f 82 (.v 0) (.v 1) (listE [(.v 2), (.v 4), (.v 8), (.v 9), (.v 10), (.v 5), (.v 6), (.v 11), (.v 7)])) (.c 3) (.c 0))), .num (.w .i64 (.f 13 (.f 82 (.v 0) (.v 1) (listE [(.v 2), (.v 4), (.v 8), (.v 9), (.v 10), (.v 5), (.v 6), (.v 11), (.v 7)])) (.c 5) (.c 0))), .code [.int .i64, .int .i64, .int .i64] (.f 13 (.f 82 (.v 0) (.v 1) (listE [(.v 2), (.v 4), (.v 8), (.v 9), (.v 10), (.v 5), (.v 6), (.v 11), (.v 7)])) (.c 4) (.c 0)) (.w .i64 (.f 13 (.f 82 (.v 0) (.v 1) (listE [(.v 2), (.v 4), (.v 8), (.v 9), (.v 10), (.v 5), (.v 6), (.v 11), (.v 7)])) (.c 5) (.c 0)))], []⟩
theorem okk : rk.ok = true := by kernel_rfl
theorem okh : rk.rh.ok = true := by kernel_rfl
noncomputable def us : SMs := fun Γ ins n => smH (cxG n Γ ins) [CRSet.rk.rh, CRMark.rk.rh] (smR (cxG n Γ ins) [CRLow.rc])
theorem us_ok : SMsOk us := fun Γ ins n => smH_ok (tabsG n Γ ins) (rhs_cons CRSet.okh (rh_n CRSet.ok) (rhs_cons CRMark.okh (rh_n CRMark.ok) (rhs_nil _))) (smR_ok (tabsG n Γ ins) (rcs_cons CRLow.okb (rc_n CRLow.ok) (rcs_nil _)))
def Q0 : E := (.cl 1000 (-2147516416) 2147549182)
def Q1 : E := (t3 Q0)
def Q2 : E := (tl (.c 1024) Q1)
def Q3 : E := (.cl 1001 (-2147483648) 2147483647)
def Q4 : E := (.f 14 (.v 9) (.v 1) Q3)
def Q5 : E := (.ite (te (.v 1) (.c 0)) (.v 9) Q4)
def Q6 : E := (tp (.v 5) (.c 1))
def Q7 : E := (t6 Q6)
def Q8 : E := (tp (.v 7) (.c 1))
def Q9 : E := (tC Q1 (tC (.c 3) (.c 0)))
def Q10 : E := (tC (.v 5) Q9)
def Q11 : E := (.f 14 (.v 11) (.v 7) Q10)
def Q12 : E := (tC Q1 (tC (.c 2) (.c 0)))
def Q13 : E := (tC (.v 5) Q12)
def Q14 : E := (.f 14 (.v 11) (.v 7) Q13)
def Q15 : E := (.f 16 (.c 0) (.c 0) (.v 10))
def Q16 : E := (t3 (tR (.v 9) (.v 1)))
def Q17 : E := (.f 14 Q15 Q1 Q16)
def tree : TT (List E) :=
 (.new 1000 (tp (t3 (tR (.v 9) (.v 2))) (.v 4)) (.br (tk Q1 (.c 0)) (.leaf [(.v 9), (.v 10), (.v 5), (.c 4), (.v 7), (.v 11)]) (.br (tl (.v 8) Q1) (.leaf [(.v 9), (.v 10), (.v 5), (.c 4), (.v 7), (.v 11)]) (.br (tl (.c 0) Q1) (.br (tk Q1 (.v 8)) (.br (te (.v 0) (.c 34)) (.new 1001 (t3 (tR (.v 10) Q1)) (.br Q2 (.leaf [Q5, (.v 10), Q7, (.v 6), Q8, Q11]) (.leaf [Q5, (.v 10), Q7, (.v 6), Q8, Q14]))) (.br Q2 (.leaf [(.v 9), Q17, Q7, (.v 6), Q8, Q11]) (.leaf [(.v 9), Q17, Q7, (.v 6), Q8, Q14]))) (.bad 200)) (.bad 200)))))
noncomputable def sq0 (a b c e i j k f g l h : Int) : Int := (memZ a b (kZ c (kZ e (kZ i (kZ j (kZ k (kZ f (kZ g (kZ l (kZ h 0))))))))))
def sL0 (a b c e i j k f g l h z0 z3 z6 z8 z10 z12 : Int) : Prop := rowEq [.int .i32] z0 (rdZ (sq0 a b c e i j k f g l h) 0) 32 ∧ rowEq [.int .i32] z3 (rdZ (sq0 a b c e i j k f g l h) 1) i ∧ (z6 : Int) = (W6 (rdZ (sq0 a b c e i j k f g l h) 2)) ∧ (z8 : Int) = (W6 (rdZ (sq0 a b c e i j k f g l h) 3)) ∧ (z10 : Int) = (W6 (rdZ (sq0 a b c e i j k f g l h) 5)) ∧ rowEq [.int .i64, .int .i64, .int .i64] z12 (rdZ (sq0 a b c e i j k f g l h) 4) (W6 (rdZ (sq0 a b c e i j k f g l h) 5)) ∧ True
def P (a b c d e f g h i j k l : Int) : Prop :=
 Pn ((W3 (rdZ j c)) + e) (-2147516416) 2147549182 fun y0 => (Pb (Pl (W3 y0) 0) (sL0 a b c e i j k f g l h j k f 4 h l) (Pb (PL i (W3 y0)) (sL0 a b c e i j k f g l h j k f 4 h l) (Pm (PL 0 (W3 y0)) (Pm (Pl (W3 y0) i) (Pb (Pe a 34) (Pn (W3 (rdZ k (W3 y0))) (-2147483648) 2147483647 fun y1 => (Pb (PL 1024 (W3 y0)) (sL0 a b c e i j k f g l h (iteZ (Pe b 0) j (updZ j b y1)) k (W6 (f + 1)) g (h + 1) (updZ l h (kZ f (kZ (W3 y0) (kZ 3 0))))) (sL0 a b c e i j k f g l h (iteZ (Pe b 0) j (updZ j b y1)) k (W6 (f + 1)) g (h + 1) (updZ l h (kZ f (kZ (W3 y0) (kZ 2 0))))))) (Pb (PL 1024 (W3 y0)) (sL0 a b c e i j k f g l h j (updZ (appZ 0 0 k) (W3 y0) (W3 (rdZ j b))) (W6 (f + 1)) g (h + 1) (updZ l h (kZ f (kZ (W3 y0) (kZ 3 0))))) (sL0 a b c e i j k f g l h j (updZ (appZ 0 0 k) (W3 y0) (W3 (rdZ j b))) (W6
 (f + 1)) g (h + 1) (updZ l h (kZ f (kZ (W3 y0) (kZ 2 0)))))))))))
theorem holds (op d a b n pc state nm nr rg rm mq : Int) (l_op : 34 ≤ op) (u_op : op ≤ 35) (l_d : 0 ≤ d) (u_d : d ≤ 31) (l_a : 0 ≤ a) (u_a : a ≤ 31) (l_b : -9223372036854775808 ≤ b) (u_b : b ≤ 9223372036854775807) (l_n : -32768 ≤ n) (u_n : n ≤ 65535) (l_pc : -9223372036854775808 ≤ pc) (u_pc : pc ≤ 9223372036854775807) (l_state : -9223372036854775808 ≤ state) (u_state : state ≤ 9223372036854775807) (l_nm : 0 ≤ nm) (u_nm : nm ≤ 999999) (l_nr : 0 ≤ nr) (u_nr : nr ≤ 2048) : P op d a b n pc state nm nr rg rm mq := by
 delta P sq0 sL0 Pb Pm Pn PL Pl Pe W6 W3 kZ
 rintro _ rfl _
 have w4 : IntKind.wrap .i32 n = n := wi32 (by omega) (by omega)
 have i0 : I64 pc := ⟨by omega, by omega⟩
 have i1 : I64 state := ⟨by omega, by omega⟩
 have i2 : I64 nm := ⟨by omega, by omega⟩
 have i3 : I64 (nm + 1) := ⟨by omega, by omega⟩
 have i4 : I64 4 := ⟨by omega, by omega⟩
 have ho : op = 34 ∨ op = 35 := by omega
 rcases ho with rfl | rfl <;> simp only [nrm, nro, Int.reduceEq, Int.reduceNeg, reduceIte]
 ·have h0 := (does_34 (m := ⟨rg, rm, pc, state, 0, mq, nm⟩) (nr := nr) (d := d) (a := a) (b := 0) (n := n)).trans (does_mem' w4)
  refine ⟨fun h1 => mem_leaf (h0.trans (if_pos (.inl h1))) (rowEq_refl _ _ _) i0 i4 i2, fun h1 => ⟨fun h2 => mem_leaf (h0.trans (if_pos (.inr h2))) (rowEq_refl _ _ _) i0 i4 i2, fun h2 => ⟨h1, h2, ?_⟩⟩⟩
  rintro _ rfl _
  have h3 := h0.trans (if_neg (fun g => g.elim (fun g => absurd g (Int.not_lt.2 h1)) (fun g => absurd g (Int.not_le.2 h2))))
  by_cases hd : d = 0
  ·rw [if_pos hd]
   exact ⟨fun h4 => mem_leaf (h3.trans ((if_pos h4).trans (by unfold Mac.memo; rw [if_neg (by decide), put_neg hd, oc34]; rfl))) (rowEq_refl _ _ _) (i64_in _) i1 i3, fun h4 => mem_leaf (h3.trans ((if_neg (Int.not_le.2 h4)).trans (by unfold Mac.memo; rw [if_neg (by decide), put_neg hd, oc34]; rfl))) (rowEq_refl _ _ _) (i64_in _) i1 i3⟩
  ·rw [if_neg hd]
   exact ⟨fun h4 => mem_leaf (h3.trans ((if_pos h4).trans (by unfold Mac.memo; rw [if_neg (by decide), put_pos hd, oc34]; rfl))) (rowEq_refl _ _ _) (i64_in _) i1 i3, fun h4 => mem_leaf (h3.trans ((if_neg (Int.not_le.2 h4)).trans (by unfold Mac.memo; rw [if_neg (by decide), put_pos hd, oc34]; rfl))) (rowEq_refl _ _ _) (i64_in _) i1 i3⟩
 ·have h0 := (does_35 (m := ⟨rg, rm, pc, state, 0, mq, nm⟩) (nr := nr) (d := d) (a := a) (b := 0) (n := n)).trans (does_mem' w4)
  refine ⟨fun h1 => mem_leaf (h0.trans (if_pos (.inl h1))) (rowEq_refl _ _ _) i0 i4 i2, fun h1 => ⟨fun h2 => mem_leaf (h0.trans (if_pos (.inr h2))) (rowEq_refl _ _ _) i0 i4 i2, fun h2 => ⟨h1, h2, ?_⟩⟩⟩
  have h3 := h0.trans (if_neg (fun g => g.elim (fun g => absurd g (Int.not_lt.2 h1)) (fun g => absurd g (Int.not_le.2 h2))))
  exact ⟨fun h4 => mem_leaf (h3.trans ((if_pos h4).trans (by unfold Mac.memo; rw [if_pos rfl, oc35]; rfl))) (copy_row _ _ _ _) (i64_in _) i1 i3, fun h4 => mem_leaf (h3.trans ((if_neg (Int.not_le.2 h4)).trans (by unfold Mac.memo; rw [if_pos rfl, oc35]; rfl))) (copy_row _ _ _ _) (i64_in _) i1 i3⟩
theorem plain (i v ro p) : statH 2 rk tree ⟨i, fN, v, ro, p⟩ = P (i 0) (i 1) (i 2) (i 3) (i 4) (i 5) (i 6) (i 7) (i 8) (i 9) (i 10) (i 11) := by kernel_rfl
theorem ran : ranH us (fun _ _ => .auto) rk 2 tree = true := by kernel_rfl
theorem fineT : fineH 2 rk tree = true := by kernel_rfl
theorem fineB : blVb 1000 rk.inb = true := by kernel_rfl
theorem ok : RhOk (cxOf 2) rk.rh := okH us_ok ran fineT fineB okk fun i v ro p hρ hpre => by rw [plain]; have q := hρ.hi; exact holds (i 0) (i 1) (i 2) (i 3) (i 4) (i 5) (i 6) (i 7) (i 8) (i 9) (i 10) (i 11) (q 0 _ rfl).1 (q 0 _ rfl).2 (q 1 _ rfl).1 (q 1 _ rfl).2 (q 2 _ rfl).1 (q 2 _ rfl).2 (q 3 _ rfl).1 (q 3 _ rfl).2 (q 4 _ rfl).1 (q 4 _ rfl).2 (q 5 _ rfl).1 (q 5 _ rfl).2 (q 6 _ rfl).1 (q 6 _ rfl).2 (q 7 _ rfl).1 (q 7 _ rfl).2 (q 8 _ rfl).1 (q 8 _ rfl).2
end CRMem
namespace CRStep
def rk : Rk := ⟨33, [(-9223372036854775808, 9223372036854775807), (0, 0), (0, 16384), (0, 999999), (0, 2048)], 10, [.ptr 0 0], [.cells ([.sl (.inp 0) 1 (.c 0) (.v 2) (some (.v 9)), .sl (.own 1) 1 (.c 0) (.v 4) none] ++ bk32 (.v 6) ++ [.int .i64 (.v 0), .int .i64 (.v 1), .sl (.own 2) 3 (.c 0) (.v 3) none]) 50 none, .arr [.int .i32] 21 (.v 7) (.v 4), .arr [.int .i64, .int .i64, .int .i64] 70 (.v 8) (.v 3)], [], .tup [], [.cells ([.sl (.inp 0) 1 (.c 0) (.v 2) (some (.v 9)), .sl (.own 3) 1 (.c 0) (.v 4) none] ++ bk32 (.v 1000000) ++ [.int .i64 (.v 1000002), .int .i64 (.v 1000003), .sl (.own 4) 3 (.c 0) (.v 1000004) none]) 50 none, .gone, .gone, .arr [.int .i32] 21 (.v 1000001) (.v 4), .arr [.int .i64, .int .i64, .int .i64] 70 (.v 1000005) (.v 1000004)], [.code [.int .i32] (.f 13 (.f 80 (.v 5) (.v 2) (listE [(.v 6), (.v 7), (.v 4), (.v 0), (.v 1), (.v 8), (.v 3)])) (.c 0) (.c 0)) (.c 32), .code [.int .i32] (.f 13 (.f 80 (.v 5) (.v 2) (listE [(.v 6), (.v 7), (.v 4), (.v 0), (.v 1), (.v 8), (.v 3)])) (.c 1) (.c 0)) (.v 4), .num (.w .i64 (.f 13 (.f 80 (.v 5) (.v 2) (listE [(.v 6), (.v 7), (.v 4), (.v 0), (.v 1), (.v 8), (.v 3)])) (.c 2) (.c 0))), .num (.w .i64 (.f 13 (.f 80 (.v 5) (.v 2) (listE [(.v 6), (.v 7), (.v 4), (.v 0), (.v 1), (.v 8), (.v 3)])) (.c 3) (.c 0))), .num (.w .i64 (.f 13 (.f 80 (.v 5) (.v 2) (listE [(.v 6), (.v 7), (.v 4), (.v 0), (.v 1), (.v 8), (.v 3)])) (.c 5) (.c 0))), .code [.int .i64, .int .i64, .int .i64] (.f 13 (.f 80 (.v 5) (.v 2) (listE [(.v 6), (.v 7), (.v 4), (.v 0), (.v 1), (.v 8), (.v 3)])) (.c 4) (.c 0)) (.w .i64 (.f 13 (.f 80 (.v 5) (.v 2) (listE [(.v 6), (.v 7), (.v 4), (.v 0), (.v 1), (.v 8), (.v 3)])) (.c 5) (.c 0)))], [⟨[.int .u32], (.v 5), (.v 2), (.v 9), none⟩]⟩
theorem okk : rk.ok = true := by kernel_rfl
theorem okh : rk.rh.ok = true := by kernel_rfl
noncomputable def us : SMs := fun Γ ins n => smH (cxG n Γ ins) [CRSet.rk.rh, CRMark.rk.rh, CRGoes.rk.rh, CRMem.rk.rh] (smR (cxG n Γ ins) [CRDec.rc, CRDo.rc, CRCost7.rc, CRLow.rc])
theorem us_ok : SMsOk us := fun Γ ins n => smH_ok (tabsG n Γ ins) (rhs_cons CRSet.okh (rh_n CRSet.ok) (rhs_cons CRMark.okh (rh_n CRMark.ok) (rhs_cons CRGoes.okh (rh_n CRGoes.ok) (rhs_cons CRMem.okh (rh_n CRMem.ok) (rhs_nil _))))) (smR_ok (tabsG n Γ ins) (rcs_cons CRDec.okb (rc_n CRDec.ok) (rcs_cons CRDo.okb (rc_n CRDo.ok) (rcs_cons CRCost7.okb (rc_n CRCost7.ok) (rcs_cons CRLow.okb (rc_n CRLow.ok) (rcs_nil _))))))
def Q0 : E := (tR (.v 5) (.v 0))
def Q1 : E := (.w .u32 Q0)
def Q2 : E := (.cl 1002 (-32768) 65535)
def Q3 : E := (.cl 1003 (-32768) 65535)
def Q4 : E := (.cl 1000 (-32768) 65535)
def Q5 : E := (tR (.v 6) Q2)
def Q6 : E := (t3 Q5)
def Q7 : E := (.cl 1004 (-32768) 65535)
def Q8 : E := (.cl 1001 (-32768) 65535)
def Q9 : E := (tl (.c 0) Q8)
def Q10 : E := (tl Q8 (.c 31))
def Q11 : E := (te Q8 (.c 0))
def Q12 : E := (tp (.v 0) (.c 1))
def Q13 : E := (t6 Q12)
def Q14 : E := (tp (.v 3) (.c 1))
def Q15 : E := (tC (.c 1) (.c 0))
def Q16 : E := (tC (.c (-1)) Q15)
def Q17 : E := (tC (.v 0) Q16)
def Q18 : E := (.f 14 (.v 8) (.v 3) Q17)
def Q19 : E := (.cl 1006 (-2147483648) 2147483647)
def Q20 : E := (.f 14 (.v 6) Q8 Q19)
def Q21 : E := (.ite Q11 (.v 6) Q20)
def Q22 : E := (tl (.c 34) Q4)
def Q23 : E := (tl Q4 (.c 35))
def Q24 : E := (tl Q2 (.c 31))
def Q25 : E := (tC (.v 3) (.c 0))
def Q26 : E := (tC (.v 8) Q25)
def Q27 : E := (tC (.v 1) Q26)
def Q28 : E := (tC (.v 0) Q27)
def Q29 : E := (tC (.v 7) Q28)
def Q30 : E := (tC (.v 6) Q29)
def Q31 : E := (tC (.v 4) Q30)
def Q32 : E := (tC Q7 Q31)
def Q33 : E := (tC Q2 Q32)
def Q34 : E := (.f 82 Q4 Q8 Q33)
def Q35 : E := (tR Q34 (.c 0))
def Q36 : E := (tR Q34 (.c 1))
def Q37 : E := (tR Q34 (.c 2))
def Q38 : E := (t6 Q37)
def Q39 : E := (tR Q34 (.c 3))
def Q40 : E := (t6 Q39)
def Q41 : E := (tR Q34 (.c 5))
def Q42 : E := (t6 Q41)
def Q43 : E := (tR Q34 (.c 4))
def Q44 : E := (tl (.c 36) Q4)
def Q45 : E := (tl Q4 (.c 41))
def Q46 : E := (tC (.v 0) Q26)
def Q47 : E := (tC (.v 6) Q46)
def Q48 : E := (tC Q7 Q47)
def Q49 : E := (tC Q2 Q48)
def Q50 : E := (.f 81 Q4 Q8 Q49)
def Q51 : E := (tR Q50 (.c 0))
def Q52 : E := (tR Q50 (.c 1))
def Q53 : E := (t6 Q52)
def Q54 : E := (tR Q50 (.c 2))
def Q55 : E := (tR (.v 6) Q3)
def Q56 : E := (t3 Q55)
def tree : TT (List E) :=
 (.br (tk (.v 0) (.c 0)) (.leaf [(.v 6), (.v 7), (.v 0), (.c 2), (.v 3), (.v 8)]) (.br (tl (.v 2) (.v 0)) (.leaf [(.v 6), (.v 7), (.v 0), (.c 2), (.v 3), (.v 8)]) (.br (tl (.c 0) (.v 0)) (.br (tk (.v 0) (.v 2)) (.new 1000 (.f 67 Q1 (.c 0) (.c 0)) (.new 1001 (.f 67 Q1 (.c 1) (.c 0)) (.new 1002 (.f 67 Q1 (.c 2) (.c 0)) (.new 1003 (.f 67 Q1 (.c 3) (.c 0)) (.new 1004 (.f 67 Q1 (.c 4) (.c 0)) (.new 1005 (.f 67 Q1 (.c 5) (.c 0)) (.br (tn (.cl 1005 (-32768) 65535) (.c 0)) (.leaf [(.v 6), (.v 7), (.v 0), (.c 3), (.v 3), (.v 8)]) (.br (tl (.c 0) Q2) (.br (tk Q2 (.c 32)) (.br (tl (.c 0) Q3) (.br (tk Q3 (.c 32)) (.br (te Q4 (.c 31)) (.new 1006 (tp Q6 Q7) (.br Q9 (.br Q10 (.leaf [(.ite Q11 (.v 6) (.f 14 (.v 6) Q8 (t3 (.cl 1006 (-2147516416) 2147549182)))), (.v 7), Q13, (.v 1), Q14, Q18]) (.bad 200))
 (.bad 200))) (.br (te Q4 (.c 32)) (.new 1006 (.f 63 (.c 6) Q6 Q7) (.new 1007 (.f 64 (.c 6) Q6 Q7) (.br Q9 (.br Q10 (.leaf [Q21, (.v 7), Q13, (.v 1), Q14, Q18]) (.bad 200)) (.bad 200)))) (.br (te Q4 (.c 33)) (.br Q9 (.br Q10 (.leaf [(.ite Q11 (.v 6) (.f 14 (.v 6) Q8 (t3 (.b .pmul .i64 Q7 (.c 65536))))), (.v 7), Q13, (.v 1), Q14, Q18]) (.bad 200)) (.bad 200)) (.br (te Q4 (.c 34)) (.br Q22 (.br Q23 (.br Q9 (.br Q10 (.br Q24 (.leaf [Q35, Q36, Q38, Q40, Q42, Q43]) (.bad 200)) (.bad 200)) (.bad 200)) (.bad 200)) (.bad 200)) (.br (te Q4 (.c 35)) (.br Q22 (.br Q23 (.br Q9 (.br Q10 (.br Q24 (.leaf [Q35, Q36, Q38, Q40, Q42, Q43]) (.bad 200)) (.bad 200)) (.bad 200)) (.bad 200)) (.bad 200)) (.br (te Q4 (.c 36)) (.br Q44 (.br Q45 (.br Q9 (.br Q10 (.br Q24 (.leaf [Q51, (.v 7), Q53, (.v 1), Q14, Q54])
 (.bad 200)) (.bad 200)) (.bad 200)) (.bad 200)) (.bad 200)) (.br (te Q4 (.c 37)) (.br Q44 (.br Q45 (.br Q9 (.br Q10 (.br Q24 (.leaf [Q51, (.v 7), Q53, (.v 1), Q14, Q54]) (.bad 200)) (.bad 200)) (.bad 200)) (.bad 200)) (.bad 200)) (.br (te Q4 (.c 38)) (.br Q44 (.br Q45 (.br Q9 (.br Q10 (.br Q24 (.leaf [Q51, (.v 7), Q53, (.v 1), Q14, Q54]) (.bad 200)) (.bad 200)) (.bad 200)) (.bad 200)) (.bad 200)) (.br (te Q4 (.c 39)) (.br Q44 (.br Q45 (.br Q9 (.br Q10 (.br Q24 (.leaf [Q51, (.v 7), Q53, (.v 1), Q14, Q54]) (.bad 200)) (.bad 200)) (.bad 200)) (.bad 200)) (.bad 200)) (.br (te Q4 (.c 40)) (.br Q44 (.br Q45 (.br Q9 (.br Q10 (.br Q24 (.leaf [Q51, (.v 7), Q53, (.v 1), Q14, Q54]) (.bad 200)) (.bad 200)) (.bad 200)) (.bad 200)) (.bad 200)) (.br (te Q4 (.c 41)) (.br Q44 (.br Q45 (.br Q9 (.br Q10
 (.br Q24 (.leaf [Q51, (.v 7), Q53, (.v 1), Q14, Q54]) (.bad 200)) (.bad 200)) (.bad 200)) (.bad 200)) (.bad 200)) (.br (te Q4 (.c 42)) (.leaf [(.v 6), (.v 7), Q13, (.v 1), Q14, Q18]) (.br (te Q4 (.c 43)) (.leaf [(.v 6), (.v 7), (.v 0), (.c 1), Q14, Q18]) (.new 1006 (.f 63 Q4 Q6 Q56) (.new 1007 (.f 64 Q4 Q6 Q56) (.br (.nt (.cl 1007 0 1)) (.leaf [(.v 6), (.v 7), (.v 0), (.c 5), (.v 3), (.v 8)]) (.br Q9 (.br Q10 (.new 1008 (.f 65 Q4 Q6 (.c 0)) (.leaf [Q21, (.v 7), Q13, (.v 1), Q14, (.f 14 (.v 8) (.v 3) (tC (.v 0) (tC (.c (-1)) (tC (.cl 1008 0 67) (.c 0)))))])) (.bad 200)) (.bad 200)))))))))))))))))) (.bad 200)) (.bad 200)) (.bad 200)) (.bad 200))))))))) (.bad 200)) (.bad 200))))
noncomputable def sq0 (y0 y1 y2 y4 g a i d : Int) : Int := (goeZ y0 y1 (kZ y2 (kZ y4 (kZ g (kZ a (kZ i (kZ d 0)))))))
noncomputable def sq1 (y0 y1 y2 y4 e g h a b i d : Int) : Int := (memZ y0 y1 (kZ y2 (kZ y4 (kZ e (kZ g (kZ h (kZ a (kZ b (kZ i (kZ d 0))))))))))
def sL0 (f c g h e a b i d z0 z3 z6 z8 z10 z12 : Int) : Prop := rowEq [.int .i32] z0 (rdZ (rstZ f c (kZ g (kZ h (kZ e (kZ a (kZ b (kZ i (kZ d 0)))))))) 0) 32 ∧ rowEq [.int .i32] z3 (rdZ (rstZ f c (kZ g (kZ h (kZ e (kZ a (kZ b (kZ i (kZ d 0)))))))) 1) e ∧ (z6 : Int) = (W6 (rdZ (rstZ f c (kZ g (kZ h (kZ e (kZ a (kZ b (kZ i (kZ d 0)))))))) 2)) ∧ (z8 : Int) = (W6 (rdZ (rstZ f c (kZ g (kZ h (kZ e (kZ a (kZ b (kZ i (kZ d 0)))))))) 3)) ∧ (z10 : Int) = (W6 (rdZ (rstZ f c (kZ g (kZ h (kZ e (kZ a (kZ b (kZ i (kZ d 0)))))))) 5)) ∧ rowEq [.int .i64, .int .i64, .int .i64] z12 (rdZ (rstZ f c (kZ g (kZ h (kZ e (kZ a (kZ b (kZ i (kZ d 0)))))))) 4) (W6 (rdZ (rstZ f c (kZ g (kZ h (kZ e (kZ a (kZ b (kZ i (kZ d 0)))))))) 5)) ∧ True
def sq2 (y0 y1 y2 f c g h e a b i d y4 : Int) : Prop := (Pm (PL 36 y0) (Pm (PL y0 41) (Pm (PL 0 y1) (Pm (PL y1 31) (Pm (PL y2 31) (sL0 f c g h e a b i d (rdZ (sq0 y0 y1 y2 y4 g a i d) 0) h (W6 (rdZ (sq0 y0 y1 y2 y4 g a i d) 1)) b (d + 1) (rdZ (sq0 y0 y1 y2 y4 g a i d) 2)))))))
def sq3 (y0 y1 y2 f c g h e a b i d y4 : Int) : Prop := (Pm (PL 34 y0) (Pm (PL y0 35) (Pm (PL 0 y1) (Pm (PL y1 31) (Pm (PL y2 31) (sL0 f c g h e a b i d (rdZ (sq1 y0 y1 y2 y4 e g h a b i d) 0) (rdZ (sq1 y0 y1 y2 y4 e g h a b i d) 1) (W6 (rdZ (sq1 y0 y1 y2 y4 e g h a b i d) 2)) (W6 (rdZ (sq1 y0 y1 y2 y4 e g h a b i d) 3)) (W6 (rdZ (sq1 y0 y1 y2 y4 e g h a b i d) 5)) (rdZ (sq1 y0 y1 y2 y4 e g h a b i d) 4)))))))
def P (a b c d e f g h i j : Int) : Prop :=
 (Pb (Pl a 0) (sL0 f c g h e a b i d g h a 2 d i) (Pb (PL c a) (sL0 f c g h e a b i d g h a 2 d i) (Pm (PL 0 a) (Pm (Pl a c) (Pn (decZ (U3 (rdZ f a)) 0) (-32768) 65535 fun y0 => Pn (decZ (U3 (rdZ f a)) 1) (-32768) 65535 fun y1 => Pn (decZ (U3 (rdZ f a)) 2) (-32768) 65535 fun y2 => Pn (decZ (U3 (rdZ f a)) 3) (-32768) 65535 fun y3 => Pn (decZ (U3 (rdZ f a)) 4) (-32768) 65535 fun y4 => Pn (decZ (U3 (rdZ f a)) 5) (-32768) 65535 fun y5 => (Pb (Pd y5 0) (sL0 f c g h e a b i d g h a 3 d i) (Pm (PL 0 y2) (Pm (Pl y2 32) (Pm (PL 0 y3) (Pm (Pl y3 32) (Pb (Pe y0 31) (Pn ((W3 (rdZ g y2)) + y4) (-2147516416) 2147549182 fun y6 => (Pm (PL 0 y1) (Pm (PL y1 31) (sL0 f c g h e a b i d (iteZ (Pe y1 0) g (updZ g y1 (W3 y6))) h (W6 (a + 1)) b (d + 1) (updZ i d (kZ a (kZ (-1) (kZ 1 0)))))))) (Pb (Pe y0 32) (Pn
 (aluV 6 (W3 (rdZ g y2)) y4) (-2147483648) 2147483647 fun y6 => Pn (aluK 6 (W3 (rdZ g y2)) y4) 0 1 fun y7 => (Pm (PL 0 y1) (Pm (PL y1 31) (sL0 f c g h e a b i d (iteZ (Pe y1 0) g (updZ g y1 y6)) h (W6 (a + 1)) b (d + 1) (updZ i d (kZ a (kZ (-1) (kZ 1 0)))))))) (Pb (Pe y0 33) (Pm (PL 0 y1) (Pm (PL y1 31) (sL0 f c g h e a b i d (iteZ (Pe y1 0) g (updZ g y1 (W3 (y4 * 65536)))) h (W6 (a + 1)) b (d + 1) (updZ i d (kZ a (kZ (-1) (kZ 1 0))))))) (Pb (Pe y0 34) (sq3 y0 y1 y2 f c g h e a b i d y4) (Pb (Pe y0 35) (sq3 y0 y1 y2 f c g h e a b i d y4) (Pb (Pe y0 36) (sq2 y0 y1 y2 f c g h e a b i d y4) (Pb (Pe y0 37) (sq2 y0 y1 y2 f c g h e a b i d y4) (Pb (Pe y0 38) (sq2 y0 y1 y2 f c g h e a b i d y4) (Pb (Pe y0 39) (sq2 y0 y1 y2 f c g h e a b i d y4) (Pb (Pe y0 40) (sq2 y0 y1 y2 f c g h e a b i d y4)
 (Pb (Pe y0 41) (sq2 y0 y1 y2 f c g h e a b i d y4) (Pb (Pe y0 42) (sL0 f c g h e a b i d g h (W6 (a + 1)) b (d + 1) (updZ i d (kZ a (kZ (-1) (kZ 1 0))))) (Pb (Pe y0 43) (sL0 f c g h e a b i d g h a 1 (d + 1) (updZ i d (kZ a (kZ (-1) (kZ 1 0))))) (Pn (aluV y0 (W3 (rdZ g y2)) (W3 (rdZ g y3))) (-2147483648) 2147483647 fun y6 => Pn (aluK y0 (W3 (rdZ g y2)) (W3 (rdZ g y3))) 0 1 fun y7 => (Pb (Pe y7 0) (sL0 f c g h e a b i d g h a 5 d i) (Pm (PL 0 y1) (Pm (PL y1 31) (Pn (aluC y0 (W3 (rdZ g y2))) 0 67 fun y8 => (sL0 f c g h e a b i d (iteZ (Pe y1 0) g (updZ g y1 y6)) h (W6 (a + 1)) b (d + 1) (updZ i d (kZ a (kZ (-1) (kZ y8 0)))))))))))))))))))))))))))))))))
set_option maxHeartbeats 8000000 in
theorem holds (pc state nc nm nr wq rg rm mq rK : Int) (l_pc : -9223372036854775808 ≤ pc) (u_pc : pc ≤ 9223372036854775807) (l_state : 0 ≤ state) (u_state : state ≤ 0) (l_nc : 0 ≤ nc) (u_nc : nc ≤ 16384) (l_nm : 0 ≤ nm) (u_nm : nm ≤ 999999) (l_nr : 0 ≤ nr) (u_nr : nr ≤ 2048) : P pc state nc nm nr wq rg rm mq rK := by
 delta P sq0 sq1 sq2 sq3 sL0 Pb Pm Pn PL Pl Pe Pd W6 W3 U3 kZ
 simp only [nrm, nro, Int.reduceEq, Int.reduceNeg, reduceIte]
 obtain ⟨k, rfl⟩ := Int.eq_ofNat_of_zero_le l_nc
 have h0 : state = 0 := by omega
 have i0 : I64 pc := ⟨by omega, by omega⟩
 have i1 : I64 state := ⟨by omega, by omega⟩
 refine ⟨fun h1 => rst_x i0 i1 l_nm u_nm (x_fetch h0 (.inl h1)) (memEq_refl _ _), fun h1 => ⟨fun h2 => rst_x i0 i1 l_nm u_nm (x_fetch h0 (.inr h2)) (memEq_refl _ _), fun h2 => ⟨h1, h2, ?_⟩⟩⟩
 intro y0 e0 b0 y1 e1 b1 y2 e2 b2 y3 e3 b3 y4 e4 b4 y5 e5 b5
 have hs := x_dec (rg := rg) (rm := rm) (st := state) (co := 0) (mq := mq) (nm := nm) (w := wq) h0 h1 h2 nr
 have hd := dec_in (rdZ wq pc)
 rw [← e0, ← e1, ← e2, ← e3, ← e4, ← e5] at hs hd
 clear e0 e1 e2 e3 e4 e5
 refine ⟨fun h3 => rst_x i0 i1 l_nm u_nm ⟨_, hs.trans (if_neg h3)⟩ (memEq_refl _ _), fun h3 => ?_⟩
 rw [if_pos h3] at hs
 obtain ⟨⟨d1, d2⟩, ⟨d3, d4⟩, ⟨d5, d6⟩, ⟨d7, d8⟩, d9, d10⟩ := hd h3
 have w4 : IntKind.wrap .i32 y4 = y4 := wi32 (by omega) (by omega)
 refine ⟨d5, d6, d7, d8, fun h31 => ?_, fun h31 => ⟨fun h32 => ?_, fun h32 => ⟨fun h33 => ?_, fun h33 => ⟨fun h34 => ?_, fun h34 => ⟨fun h35 => ?_, fun h35 => ⟨fun h36 => ?_, fun h36 => ⟨fun h37 => ?_, fun h37 => ⟨fun h38 => ?_, fun h38 => ⟨fun h39 => ?_, fun h39 => ⟨fun h40 => ?_, fun h40 => ⟨fun h41 => ?_, fun h41 => ⟨fun h42 => ?_, fun h42 => ⟨fun h43 => ?_, fun h43 => ?_⟩⟩⟩⟩⟩⟩⟩⟩⟩⟩⟩⟩⟩
 ·subst h31
  rintro _ rfl _
  exact ⟨by omega, by omega, rst_x i0 i1 l_nm u_nm (ex_of hs (x_31 w4)) (memEq_refl _ _)⟩
 ·subst h32
  rintro _ rfl _ _ rfl _
  exact ⟨by omega, by omega, rst_x i0 i1 l_nm u_nm (ex_of hs (x_32 w4 (by omega) (by omega))) (memEq_refl _ _)⟩
 ·subst h33
  exact ⟨by omega, by omega, rst_x i0 i1 l_nm u_nm (ex_of hs x_33) (memEq_refl _ _)⟩
 ·subst h34
  exact ⟨by omega, by omega, by omega, by omega, by omega, rst_w i0 i1 l_nm u_nm (ex_of hs (x_mem (.inl rfl))) (memEq_refl _ _)⟩
 ·subst h35
  exact ⟨by omega, by omega, by omega, by omega, by omega, rst_w i0 i1 l_nm u_nm (ex_of hs (x_mem (.inr rfl))) (memEq_refl _ _)⟩
 ·subst h36
  exact ⟨by omega, by omega, by omega, by omega, by omega, rst_p i0 i1 l_nm u_nm (ex_of hs (x_goe (by omega) (by omega))) (memEq_refl _ _)⟩
 ·subst h37
  exact ⟨by omega, by omega, by omega, by omega, by omega, rst_p i0 i1 l_nm u_nm (ex_of hs (x_goe (by omega) (by omega))) (memEq_refl _ _)⟩
 ·subst h38
  exact ⟨by omega, by omega, by omega, by omega, by omega, rst_p i0 i1 l_nm u_nm (ex_of hs (x_goe (by omega) (by omega))) (memEq_refl _ _)⟩
 ·subst h39
  exact ⟨by omega, by omega, by omega, by omega, by omega, rst_p i0 i1 l_nm u_nm (ex_of hs (x_goe (by omega) (by omega))) (memEq_refl _ _)⟩
 ·subst h40
  exact ⟨by omega, by omega, by omega, by omega, by omega, rst_p i0 i1 l_nm u_nm (ex_of hs (x_goe (by omega) (by omega))) (memEq_refl _ _)⟩
 ·subst h41
  exact ⟨by omega, by omega, by omega, by omega, by omega, rst_p i0 i1 l_nm u_nm (ex_of hs (x_goe (by omega) (by omega))) (memEq_refl _ _)⟩
 ·subst h42
  exact rst_x i0 i1 l_nm u_nm (ex_of hs x_42) (memEq_refl _ _)
 ·subst h43
  exact rst_x i0 i1 l_nm u_nm (ex_of hs x_43) (memEq_refl _ _)
 ·rintro _ rfl _ _ rfl _
  refine ⟨fun h4 => rst_x i0 i1 l_nm u_nm (ex_of hs (x_aluno (by omega) h4)) (memEq_refl _ _), fun h4 => ⟨by omega, by omega, ?_⟩⟩
  rintro _ rfl _
  exact rst_x i0 i1 l_nm u_nm (ex_of hs (x_alu (by omega) h4)) (memEq_refl _ _)
theorem plain (i v ro p) : statH 2 rk tree ⟨i, fN, v, ro, p⟩ = P (i 0) (i 1) (i 2) (i 3) (i 4) (i 5) (i 6) (i 7) (i 8) (i 9) := by kernel_rfl
theorem ran : ranH us (fun _ _ => .auto) rk 2 tree = true := by kernel_rfl
theorem fineT : fineH 2 rk tree = true := by kernel_rfl
theorem fineB : blVb 1000 rk.inb = true := by kernel_rfl
theorem ok : RhOk (cxOf 2) rk.rh := okH us_ok ran fineT fineB okk fun i v ro p hρ hpre => by rw [plain]; have q := hρ.hi; exact holds (i 0) (i 1) (i 2) (i 3) (i 4) (i 5) (i 6) (i 7) (i 8) (i 9) (q 0 _ rfl).1 (q 0 _ rfl).2 (q 1 _ rfl).1 (q 1 _ rfl).2 (q 2 _ rfl).1 (q 2 _ rfl).2 (q 3 _ rfl).1 (q 3 _ rfl).2 (q 4 _ rfl).1 (q 4 _ rfl).2
end CRStep
end Go.Proofs.YtemcjakecoceaaaGreatDoor
