/-
  What astrolaberef16.Core).Step answers, as numbers of what it is handed: its run by the engine, and the plain statement behind it. No condition.
-/
import Derived.Test.YtbfgkimoobkpmaaGreatDoorGab
import Derived.Test.YtbfgkimoobkpmaaGreatDoorCRDec
import Derived.Test.YtbfgkimoobkpmaaGreatDoorCRDo
import Derived.Test.YtbfgkimoobkpmaaGreatDoorCRCost7
import Derived.Test.YtbfgkimoobkpmaaGreatDoorCRLow
import Derived.Test.YtbfgkimoobkpmaaGreatDoorCRSet
import Derived.Test.YtbfgkimoobkpmaaGreatDoorCRMark
import Derived.Test.YtbfgkimoobkpmaaGreatDoorCRGoes
import Derived.Test.YtbfgkimoobkpmaaGreatDoorCRMem
import Derived.Test.YtbfgkimoobkpmaaGreatDoorGmD
import Derived.Test.YtbfgkimoobkpmaaGreatDoorGmE
namespace Go.Proofs.YtbfgkimoobkpmaaGreatDoor.CRStep
open Go.Eng Go.RowKit
set_option linter.unusedVariables false
set_option linter.unusedSimpArgs false
set_option maxRecDepth 100000
def rk : Rk := ⟨10, [(-9223372036854775808, 9223372036854775807), (0, 0), (0, 16384), (0, 999999), (0, 2048)], 10, [.ptr 0 0], [.cells [.sl (.inp 0) 1 (.c 0) (.v 2) (some (.v 9)), .sl (.own 1) 1 (.c 0) (.v 4) none, .int .i32 (.w .i32 (.f 13 (.v 6) (.c 0) (.c 0))), .int .i32 (.w .i32 (.f 13 (.v 6) (.c 1) (.c 0))), .int .i32 (.w .i32 (.f 13 (.v 6) (.c 2) (.c 0))), .int .i32 (.w .i32 (.f 13 (.v 6) (.c 3) (.c 0))), .int .i32 (.w .i32 (.f 13 (.v 6) (.c 4) (.c 0))), .int .i32 (.w .i32 (.f 13 (.v 6) (.c 5) (.c 0))), .int .i32 (.w .i32 (.f 13 (.v 6) (.c 6) (.c 0))), .int .i32 (.w .i32 (.f 13 (.v 6) (.c 7) (.c 0))), .int .i32 (.w .i32 (.f 13 (.v 6) (.c 8) (.c 0))), .int .i32 (.w .i32 (.f 13 (.v 6) (.c 9) (.c 0))), .int .i32 (.w .i32 (.f 13 (.v 6) (.c 10) (.c 0))), .int .i32 (.w .i32 (.f 13 (.v 6) (.c 11) (.c 0))), .int .i32 (.w .i32 (.f 13 (.v 6) (.c 12) (.c 0))), .int .i32 (.w .i32 (.f 13 (.v 6) (.c 13) (.c 0))), .int .i32 (.w .i32 (.f 13 (.v 6) (.c 14) (.c 0))), .int .i32 (.w .i32 (.f 13 (.v 6) (.c 15) (.c 0))), .int .i32 (.w .i32 (.f 13 (.v 6) (.c 16) (.c 0))), .int .i32 (.w .i32 (.f 13 (.v 6) (.c 17) (.c 0))), .int .i32 (.w .i32 (.f 13 (.v 6) (.c 18) (.c 0))), .int .i32 (.w .i32 (.f 13 (.v 6) (.c 19) (.c 0))), .int .i32 (.w .i32 (.f 13 (.v 6) (.c 20) (.c 0))), .int .i32 (.w .i32 (.f 13 (.v 6) (.c 21) (.c 0))), .int .i32 (.w .i32 (.f 13 (.v 6) (.c 22) (.c 0))), .int .i32 (.w .i32 (.f 13 (.v 6) (.c 23) (.c 0))), .int .i32 (.w .i32 (.f 13 (.v 6) (.c 24) (.c 0))), .int .i32 (.w .i32 (.f 13 (.v 6) (.c 25) (.c 0))), .int .i32 (.w .i32 (.f 13 (.v 6) (.c 26) (.c 0))), .int .i32 (.w .i32 (.f 13 (.v 6) (.c 27) (.c 0))), .int .i32 (.w .i32 (.f 13 (.v 6) (.c 28) (.c 0))), .int .i32 (.w .i32 (.f 13 (.v 6) (.c 29) (.c 0))), .int .i32 (.w .i32 (.f 13 (.v 6) (.c 30) (.c 0))), .int .i32 (.w .i32 (.f 13 (.v 6) (.c 31) (.c 0))), .int .i64 (.v 0), .int .i64 (.v 1), .sl (.own 2) 3 (.c 0) (.v 3) none] 34 none, .arr [.int .i32] 21 (.v 7) (.v 4), .arr [.int .i64, .int .i64, .int .i64] 47 (.v 8) (.v 3)], [], .tup [], [.cells [.sl (.inp 0) 1 (.c 0) (.v 2) (some (.v 9)), .sl (.own 3) 1 (.c 0) (.v 4) none, .int .i32 (.w .i32 (.f 13 (.v 1000000) (.c 0) (.c 0))), .int .i32 (.w .i32 (.f 13 (.v 1000000) (.c 1) (.c 0))), .int .i32 (.w .i32 (.f 13 (.v 1000000) (.c 2) (.c 0))), .int .i32 (.w .i32 (.f 13 (.v 1000000) (.c 3) (.c 0))), .int .i32 (.w .i32 (.f 13 (.v 1000000) (.c 4) (.c 0))), .int .i32 (.w .i32 (.f 13 (.v 1000000) (.c 5) (.c 0))), .int .i32 (.w .i32 (.f 13 (.v 1000000) (.c 6) (.c 0))), .int .i32 (.w .i32 (.f 13 (.v 1000000) (.c 7) (.c 0))), .int .i32 (.w .i32 (.f 13 (.v 1000000) (.c 8) (.c 0))), .int .i32 (.w .i32 (.f 13 (.v 1000000) (.c 9) (.c 0))), .int .i32 (.w .i32 (.f 13 (.v 1000000) (.c 10) (.c 0))), .int .i32 (.w .i32 (.f 13 (.v 1000000) (.c 11) (.c 0))), .int .i32 (.w .i32 (.f 13 (.v 1000000) (.c 12) (.c 0))), .int .i32 (.w .i32 (.f 13 (.v 1000000) (.c 13) (.c 0))), .int .i32 (.w .i32 (.f 13 (.v 1000000) (.c 14) (.c 0))), .int .i32 (.w .i32 (.f 13 (.v 1000000) (.c 15) (.c 0))), .int .i32 (.w .i32 (.f 13 (.v 1000000) (.c 16) (.c 0))), .int .i32 (.w .i32 (.f 13 (.v 1000000) (.c 17) (.c 0))), .int .i32 (.w .i32 (.f 13 (.v 1000000) (.c 18) (.c 0))), .int .i32 (.w .i32 (.f 13 (.v 1000000) (.c 19) (.c 0))), .int .i32 (.w .i32 (.f 13 (.v 1000000) (.c 20) (.c 0))), .int .i32 (.w .i32 (.f 13 (.v 1000000) (.c 21) (.c 0))), .int .i32 (.w .i32 (.f 13 (.v 1000000) (.c 22) (.c 0))), .int .i32 (.w .i32 (.f 13 (.v 1000000) (.c 23) (.c 0))), .int .i32 (.w .i32 (.f 13 (.v 1000000) (.c 24) (.c 0))), .int .i32 (.w .i32 (.f 13 (.v 1000000) (.c 25) (.c 0))), .int .i32 (.w .i32 (.f 13 (.v 1000000) (.c 26) (.c 0))), .int .i32 (.w .i32 (.f 13 (.v 1000000) (.c 27) (.c 0))), .int .i32 (.w .i32 (.f 13 (.v 1000000) (.c 28) (.c 0))), .int .i32 (.w .i32 (.f 13 (.v 1000000) (.c 29) (.c 0))), .int .i32 (.w .i32 (.f 13 (.v 1000000) (.c 30) (.c 0))), .int .i32 (.w .i32 (.f 13 (.v 1000000) (.c 31) (.c 0))), .int .i64 (.v 1000002), .int .i64 (.v 1000003), .sl (.own 4) 3 (.c 0) (.v 1000004) none] 34 none, .gone, .gone, .arr [.int .i32] 21 (.v 1000001) (.v 4), .arr [.int .i64, .int .i64, .int .i64] 47 (.v 1000005) (.v 1000004)], [.code [.int .i32] (.f 13 (.f 80 (.v 5) (.v 2) (listE [(.v 6), (.v 7), (.v 4), (.v 0), (.v 1), (.v 8), (.v 3)])) (.c 0) (.c 0)) (.c 32), .code [.int .i32] (.f 13 (.f 80 (.v 5) (.v 2) (listE [(.v 6), (.v 7), (.v 4), (.v 0), (.v 1), (.v 8), (.v 3)])) (.c 1) (.c 0)) (.v 4), .num (.w .i64 (.f 13 (.f 80 (.v 5) (.v 2) (listE [(.v 6), (.v 7), (.v 4), (.v 0), (.v 1), (.v 8), (.v 3)])) (.c 2) (.c 0))), .num (.w .i64 (.f 13 (.f 80 (.v 5) (.v 2) (listE [(.v 6), (.v 7), (.v 4), (.v 0), (.v 1), (.v 8), (.v 3)])) (.c 3) (.c 0))), .num (.w .i64 (.f 13 (.f 80 (.v 5) (.v 2) (listE [(.v 6), (.v 7), (.v 4), (.v 0), (.v 1), (.v 8), (.v 3)])) (.c 5) (.c 0))), .code [.int .i64, .int .i64, .int .i64] (.f 13 (.f 80 (.v 5) (.v 2) (listE [(.v 6), (.v 7), (.v 4), (.v 0), (.v 1), (.v 8), (.v 3)])) (.c 4) (.c 0)) (.w .i64 (.f 13 (.f 80 (.v 5) (.v 2) (listE [(.v 6), (.v 7), (.v 4), (.v 0), (.v 1), (.v 8), (.v 3)])) (.c 5) (.c 0)))], [⟨[.int .u32], (.v 5), (.v 2), (.v 9), none⟩]⟩
theorem okk : rk.ok = true := by kernel_rfl
theorem okh : rk.rh.ok = true := by kernel_rfl
noncomputable def us : SMs := fun Γ ins n => smH (cxG n Γ ins) [CRSet.rk.rh, CRMark.rk.rh, CRGoes.rk.rh, CRMem.rk.rh] (smR (cxG n Γ ins) [CRDec.rc, CRDo.rc, CRCost7.rc, CRLow.rc])
theorem us_ok : SMsOk us := fun Γ ins n => smH_ok (tabsG n Γ ins) (rhs_cons CRSet.okh (rh_n CRSet.ok) (rhs_cons CRMark.okh (rh_n CRMark.ok) (rhs_cons CRGoes.okh (rh_n CRGoes.ok) (rhs_cons CRMem.okh (rh_n CRMem.ok) (rhs_nil _))))) (smR_ok (tabsG n Γ ins) (rcs_cons CRDec.okb (rc_n CRDec.ok) (rcs_cons CRDo.okb (rc_n CRDo.ok) (rcs_cons CRCost7.okb (rc_n CRCost7.ok) (rcs_cons CRLow.okb (rc_n CRLow.ok) (rcs_nil _))))))
def Q0 : E := (tR (.v 5) (.v 0))
def Q1 : E := (.w .u32 Q0)
def Q2 : E := (.cl 1002 (-32768) 65535)
def Q3 : E := (.cl 1003 (-32768) 65535)
def Q4 : E := (.cl 1000 (-32768) 65535)
def Q5 : E := (tR (.v 6) Q2)
def Q6 : E := (t3 Q5)
def Q7 : E := (.cl 1004 (-32768) 65535)
def Q8 : E := (.cl 1001 (-32768) 65535)
def Q9 : E := (tl (.c 0) Q8)
def Q10 : E := (tl Q8 (.c 31))
def Q11 : E := (te Q8 (.c 0))
def Q12 : E := (tp (.v 0) (.c 1))
def Q13 : E := (t6 Q12)
def Q14 : E := (tp (.v 3) (.c 1))
def Q15 : E := (tC (.c 1) (.c 0))
def Q16 : E := (tC (.c (-1)) Q15)
def Q17 : E := (tC (.v 0) Q16)
def Q18 : E := (.f 14 (.v 8) (.v 3) Q17)
def Q19 : E := (.cl 1006 (-2147483648) 2147483647)
def Q20 : E := (.f 14 (.v 6) Q8 Q19)
def Q21 : E := (.ite Q11 (.v 6) Q20)
def Q22 : E := (tl (.c 34) Q4)
def Q23 : E := (tl Q4 (.c 35))
def Q24 : E := (tl Q2 (.c 31))
def Q25 : E := (tC (.v 3) (.c 0))
def Q26 : E := (tC (.v 8) Q25)
def Q27 : E := (tC (.v 1) Q26)
def Q28 : E := (tC (.v 0) Q27)
def Q29 : E := (tC (.v 7) Q28)
def Q30 : E := (tC (.v 6) Q29)
def Q31 : E := (tC (.v 4) Q30)
def Q32 : E := (tC Q7 Q31)
def Q33 : E := (tC Q2 Q32)
def Q34 : E := (.f 82 Q4 Q8 Q33)
def Q35 : E := (tR Q34 (.c 0))
def Q36 : E := (tR Q34 (.c 1))
def Q37 : E := (tR Q34 (.c 2))
def Q38 : E := (t6 Q37)
def Q39 : E := (tR Q34 (.c 3))
def Q40 : E := (t6 Q39)
def Q41 : E := (tR Q34 (.c 5))
def Q42 : E := (t6 Q41)
def Q43 : E := (tR Q34 (.c 4))
def Q44 : E := (tl (.c 36) Q4)
def Q45 : E := (tl Q4 (.c 41))
def Q46 : E := (tC (.v 0) Q26)
def Q47 : E := (tC (.v 6) Q46)
def Q48 : E := (tC Q7 Q47)
def Q49 : E := (tC Q2 Q48)
def Q50 : E := (.f 81 Q4 Q8 Q49)
def Q51 : E := (tR Q50 (.c 0))
def Q52 : E := (tR Q50 (.c 1))
def Q53 : E := (t6 Q52)
def Q54 : E := (tR Q50 (.c 2))
def Q55 : E := (tR (.v 6) Q3)
def Q56 : E := (t3 Q55)
def tree : TT (List E) :=
 (.br (tk (.v 0) (.c 0)) (.leaf [(.v 6), (.v 7), (.v 0), (.c 2), (.v 3), (.v 8)]) (.br (tl (.v 2) (.v 0)) (.leaf [(.v 6), (.v 7), (.v 0), (.c 2), (.v 3), (.v 8)]) (.br (tl (.c 0) (.v 0)) (.br (tk (.v 0) (.v 2)) (.new 1000 (.f 67 Q1 (.c 0) (.c 0)) (.new 1001 (.f 67 Q1 (.c 1) (.c 0)) (.new 1002 (.f 67 Q1 (.c 2) (.c 0)) (.new 1003 (.f 67 Q1 (.c 3) (.c 0)) (.new 1004 (.f 67 Q1 (.c 4) (.c 0)) (.new 1005 (.f 67 Q1 (.c 5) (.c 0)) (.br (tn (.cl 1005 (-32768) 65535) (.c 0)) (.leaf [(.v 6), (.v 7), (.v 0), (.c 3), (.v 3), (.v 8)]) (.br (tl (.c 0) Q2) (.br (tk Q2 (.c 32)) (.br (tl (.c 0) Q3) (.br (tk Q3 (.c 32)) (.br (te Q4 (.c 31)) (.new 1006 (tp Q6 Q7) (.br Q9 (.br Q10 (.leaf [(.ite Q11 (.v 6) (.f 14 (.v 6) Q8 (t3 (.cl 1006 (-2147516416) 2147549182)))), (.v 7), Q13, (.v 1), Q14, Q18]) (.bad 200))
 (.bad 200))) (.br (te Q4 (.c 32)) (.new 1006 (.f 63 (.c 6) Q6 Q7) (.new 1007 (.f 64 (.c 6) Q6 Q7) (.br Q9 (.br Q10 (.leaf [Q21, (.v 7), Q13, (.v 1), Q14, Q18]) (.bad 200)) (.bad 200)))) (.br (te Q4 (.c 33)) (.br Q9 (.br Q10 (.leaf [(.ite Q11 (.v 6) (.f 14 (.v 6) Q8 (t3 (.b .pmul .i64 Q7 (.c 65536))))), (.v 7), Q13, (.v 1), Q14, Q18]) (.bad 200)) (.bad 200)) (.br (te Q4 (.c 34)) (.br Q22 (.br Q23 (.br Q9 (.br Q10 (.br Q24 (.leaf [Q35, Q36, Q38, Q40, Q42, Q43]) (.bad 200)) (.bad 200)) (.bad 200)) (.bad 200)) (.bad 200)) (.br (te Q4 (.c 35)) (.br Q22 (.br Q23 (.br Q9 (.br Q10 (.br Q24 (.leaf [Q35, Q36, Q38, Q40, Q42, Q43]) (.bad 200)) (.bad 200)) (.bad 200)) (.bad 200)) (.bad 200)) (.br (te Q4 (.c 36)) (.br Q44 (.br Q45 (.br Q9 (.br Q10 (.br Q24 (.leaf [Q51, (.v 7), Q53, (.v 1), Q14, Q54])
 (.bad 200)) (.bad 200)) (.bad 200)) (.bad 200)) (.bad 200)) (.br (te Q4 (.c 37)) (.br Q44 (.br Q45 (.br Q9 (.br Q10 (.br Q24 (.leaf [Q51, (.v 7), Q53, (.v 1), Q14, Q54]) (.bad 200)) (.bad 200)) (.bad 200)) (.bad 200)) (.bad 200)) (.br (te Q4 (.c 38)) (.br Q44 (.br Q45 (.br Q9 (.br Q10 (.br Q24 (.leaf [Q51, (.v 7), Q53, (.v 1), Q14, Q54]) (.bad 200)) (.bad 200)) (.bad 200)) (.bad 200)) (.bad 200)) (.br (te Q4 (.c 39)) (.br Q44 (.br Q45 (.br Q9 (.br Q10 (.br Q24 (.leaf [Q51, (.v 7), Q53, (.v 1), Q14, Q54]) (.bad 200)) (.bad 200)) (.bad 200)) (.bad 200)) (.bad 200)) (.br (te Q4 (.c 40)) (.br Q44 (.br Q45 (.br Q9 (.br Q10 (.br Q24 (.leaf [Q51, (.v 7), Q53, (.v 1), Q14, Q54]) (.bad 200)) (.bad 200)) (.bad 200)) (.bad 200)) (.bad 200)) (.br (te Q4 (.c 41)) (.br Q44 (.br Q45 (.br Q9 (.br Q10
 (.br Q24 (.leaf [Q51, (.v 7), Q53, (.v 1), Q14, Q54]) (.bad 200)) (.bad 200)) (.bad 200)) (.bad 200)) (.bad 200)) (.br (te Q4 (.c 42)) (.leaf [(.v 6), (.v 7), Q13, (.v 1), Q14, Q18]) (.br (te Q4 (.c 43)) (.leaf [(.v 6), (.v 7), (.v 0), (.c 1), Q14, Q18]) (.new 1006 (.f 63 Q4 Q6 Q56) (.new 1007 (.f 64 Q4 Q6 Q56) (.br (.nt (.cl 1007 0 1)) (.leaf [(.v 6), (.v 7), (.v 0), (.c 5), (.v 3), (.v 8)]) (.br Q9 (.br Q10 (.new 1008 (.f 65 Q4 Q6 (.c 0)) (.leaf [Q21, (.v 7), Q13, (.v 1), Q14, (.f 14 (.v 8) (.v 3) (tC (.v 0) (tC (.c (-1)) (tC (.cl 1008 0 67) (.c 0)))))])) (.bad 200)) (.bad 200)))))))))))))))))) (.bad 200)) (.bad 200)) (.bad 200)) (.bad 200))))))))) (.bad 200)) (.bad 200))))

noncomputable def sq0 (y0 y1 y2 y4 g a i d : Int) : Int := (goeZ y0 y1 (consZ y2 (consZ y4 (consZ g (consZ a (consZ i (consZ d 0)))))))
noncomputable def sq1 (y0 y1 y2 y4 e g h a b i d : Int) : Int := (memZ y0 y1 (consZ y2 (consZ y4 (consZ e (consZ g (consZ h (consZ a (consZ b (consZ i (consZ d 0))))))))))
def sL0 (f c g h e a b i d z0 z3 z6 z8 z10 z12 : Int) : Prop := rowEq [.int .i32] z0 (rdZ (rstZ f c (consZ g (consZ h (consZ e (consZ a (consZ b (consZ i (consZ d 0)))))))) 0) 32 ∧ rowEq [.int .i32] z3 (rdZ (rstZ f c (consZ g (consZ h (consZ e (consZ a (consZ b (consZ i (consZ d 0)))))))) 1) e ∧ (z6 : Int) = (W6 (rdZ (rstZ f c (consZ g (consZ h (consZ e (consZ a (consZ b (consZ i (consZ d 0)))))))) 2)) ∧ (z8 : Int) = (W6 (rdZ (rstZ f c (consZ g (consZ h (consZ e (consZ a (consZ b (consZ i (consZ d 0)))))))) 3)) ∧ (z10 : Int) = (W6 (rdZ (rstZ f c (consZ g (consZ h (consZ e (consZ a (consZ b (consZ i (consZ d 0)))))))) 5)) ∧ rowEq [.int .i64, .int .i64, .int .i64] z12 (rdZ (rstZ f c (consZ g (consZ h (consZ e (consZ a (consZ b (consZ i (consZ d 0)))))))) 4) (W6 (rdZ (rstZ f c (consZ g
 (consZ h (consZ e (consZ a (consZ b (consZ i (consZ d 0)))))))) 5)) ∧ True
def sq2 (y0 y1 y2 f c g h e a b i d y4 : Int) : Prop := (Pm (PL 36 y0) (Pm (PL y0 41) (Pm (PL 0 y1) (Pm (PL y1 31) (Pm (PL y2 31) (sL0 f c g h e a b i d (rdZ (sq0 y0 y1 y2 y4 g a i d) 0) h (W6 (rdZ (sq0 y0 y1 y2 y4 g a i d) 1)) b (d + 1) (rdZ (sq0 y0 y1 y2 y4 g a i d) 2)))))))
def sq3 (y0 y1 y2 f c g h e a b i d y4 : Int) : Prop := (Pm (PL 34 y0) (Pm (PL y0 35) (Pm (PL 0 y1) (Pm (PL y1 31) (Pm (PL y2 31) (sL0 f c g h e a b i d (rdZ (sq1 y0 y1 y2 y4 e g h a b i d) 0) (rdZ (sq1 y0 y1 y2 y4 e g h a b i d) 1) (W6 (rdZ (sq1 y0 y1 y2 y4 e g h a b i d) 2)) (W6 (rdZ (sq1 y0 y1 y2 y4 e g h a b i d) 3)) (W6 (rdZ (sq1 y0 y1 y2 y4 e g h a b i d) 5)) (rdZ (sq1 y0 y1 y2 y4 e g h a b i d) 4)))))))
def P (a b c d e f g h i j : Int) : Prop :=
 (Pb (Pl a 0) (sL0 f c g h e a b i d g h a 2 d i) (Pb (PL c a) (sL0 f c g h e a b i d g h a 2 d i) (Pm (PL 0 a) (Pm (Pl a c) (Pn (decZ (U3 (rdZ f a)) 0) (-32768) 65535 fun y0 => Pn (decZ (U3 (rdZ f a)) 1) (-32768) 65535 fun y1 => Pn (decZ (U3 (rdZ f a)) 2) (-32768) 65535 fun y2 => Pn (decZ (U3 (rdZ f a)) 3) (-32768) 65535 fun y3 => Pn (decZ (U3 (rdZ f a)) 4) (-32768) 65535 fun y4 => Pn (decZ (U3 (rdZ f a)) 5) (-32768) 65535 fun y5 => (Pb (Pd y5 0) (sL0 f c g h e a b i d g h a 3 d i) (Pm (PL 0 y2) (Pm (Pl y2 32) (Pm (PL 0 y3) (Pm (Pl y3 32) (Pb (Pe y0 31) (Pn ((W3 (rdZ g y2)) + y4) (-2147516416) 2147549182 fun y6 => (Pm (PL 0 y1) (Pm (PL y1 31) (sL0 f c g h e a b i d (iteZ (Pe y1 0) g (updZ g y1 (W3 y6))) h (W6 (a + 1)) b (d + 1) (updZ i d (consZ a (consZ (-1) (consZ 1 0)))))))) (Pb (Pe y0
 32) (Pn (aluV 6 (W3 (rdZ g y2)) y4) (-2147483648) 2147483647 fun y6 => Pn (aluK 6 (W3 (rdZ g y2)) y4) 0 1 fun y7 => (Pm (PL 0 y1) (Pm (PL y1 31) (sL0 f c g h e a b i d (iteZ (Pe y1 0) g (updZ g y1 y6)) h (W6 (a + 1)) b (d + 1) (updZ i d (consZ a (consZ (-1) (consZ 1 0)))))))) (Pb (Pe y0 33) (Pm (PL 0 y1) (Pm (PL y1 31) (sL0 f c g h e a b i d (iteZ (Pe y1 0) g (updZ g y1 (W3 (y4 * 65536)))) h (W6 (a + 1)) b (d + 1) (updZ i d (consZ a (consZ (-1) (consZ 1 0))))))) (Pb (Pe y0 34) (sq3 y0 y1 y2 f c g h e a b i d y4) (Pb (Pe y0 35) (sq3 y0 y1 y2 f c g h e a b i d y4) (Pb (Pe y0 36) (sq2 y0 y1 y2 f c g h e a b i d y4) (Pb (Pe y0 37) (sq2 y0 y1 y2 f c g h e a b i d y4) (Pb (Pe y0 38) (sq2 y0 y1 y2 f c g h e a b i d y4) (Pb (Pe y0 39) (sq2 y0 y1 y2 f c g h e a b i d y4) (Pb (Pe y0 40) (sq2 y0 y1
 y2 f c g h e a b i d y4) (Pb (Pe y0 41) (sq2 y0 y1 y2 f c g h e a b i d y4) (Pb (Pe y0 42) (sL0 f c g h e a b i d g h (W6 (a + 1)) b (d + 1) (updZ i d (consZ a (consZ (-1) (consZ 1 0))))) (Pb (Pe y0 43) (sL0 f c g h e a b i d g h a 1 (d + 1) (updZ i d (consZ a (consZ (-1) (consZ 1 0))))) (Pn (aluV y0 (W3 (rdZ g y2)) (W3 (rdZ g y3))) (-2147483648) 2147483647 fun y6 => Pn (aluK y0 (W3 (rdZ g y2)) (W3 (rdZ g y3))) 0 1 fun y7 => (Pb (Pe y7 0) (sL0 f c g h e a b i d g h a 5 d i) (Pm (PL 0 y1) (Pm (PL y1 31) (Pn (aluC y0 (W3 (rdZ g y2))) 0 67 fun y8 => (sL0 f c g h e a b i d (iteZ (Pe y1 0) g (updZ g y1 y6)) h (W6 (a + 1)) b (d + 1) (updZ i d (consZ a (consZ (-1) (consZ y8 0)))))))))))))))))))))))))))))))))

set_option maxHeartbeats 8000000 in
theorem holds (pc state nc nm nr wq rg rm mq rK : Int) (l_pc : -9223372036854775808 ≤ pc) (u_pc : pc ≤ 9223372036854775807) (l_state : 0 ≤ state) (u_state : state ≤ 0) (l_nc : 0 ≤ nc) (u_nc : nc ≤ 16384) (l_nm : 0 ≤ nm) (u_nm : nm ≤ 999999) (l_nr : 0 ≤ nr) (u_nr : nr ≤ 2048) : P pc state nc nm nr wq rg rm mq rK := by
  delta P sq0 sq1 sq2 sq3 sL0 Pb Pm Pn PL Pl Pe Pd W6 W3 U3
  simp only [b01_eq, decide_eq_true_eq, decide_eq_false_iff_not, beq_iff_eq, beq_eq_false_iff_ne, bne_iff_ne, bne_eq_false_iff_eq, Int.not_le, Int.not_lt, true_and, and_true, iteZ_ne, ne_eq, Bool.not_eq_false, Bool.not_eq_true, not_true_eq_false, not_false_eq_true, Decidable.not_not, forall_const, false_implies, true_iff, iff_true, false_iff, iff_false, Int.reduceEq, Int.reduceNeg, eq_self, if_true, if_false, reduceIte, ob_le, ob_lt, ob_p, ob_n]
  obtain ⟨k, rfl⟩ := Int.eq_ofNat_of_zero_le l_nc
  have h0 : state = 0 := by omega
  have i0 : I64 pc := ⟨by omega, by omega⟩
  have i1 : I64 state := ⟨by omega, by omega⟩
  refine ⟨fun h1 => rst_x i0 i1 l_nm u_nm (x_fetch h0 (.inl h1)) (memEq_refl _ _), fun h1 => ⟨fun h2 => rst_x i0 i1 l_nm u_nm (x_fetch h0 (.inr h2)) (memEq_refl _ _), fun h2 => ⟨h1, h2, ?_⟩⟩⟩
  intro y0 e0 b0 y1 e1 b1 y2 e2 b2 y3 e3 b3 y4 e4 b4 y5 e5 b5
  have hs := x_dec (rg := rg) (rm := rm) (st := state) (co := 0) (mq := mq) (nm := nm) (w := wq) h0 h1 h2 nr
  have hd := dec_in (rdZ wq pc)
  rw [← e0, ← e1, ← e2, ← e3, ← e4, ← e5] at hs hd
  clear e0 e1 e2 e3 e4 e5
  refine ⟨fun h3 => rst_x i0 i1 l_nm u_nm ⟨_, hs.trans (if_neg h3)⟩ (memEq_refl _ _), fun h3 => ?_⟩
  rw [if_pos h3] at hs
  obtain ⟨⟨d1, d2⟩, ⟨d3, d4⟩, ⟨d5, d6⟩, ⟨d7, d8⟩, d9, d10⟩ := hd h3
  have w4 : IntKind.wrap .i32 y4 = y4 := wi32 (by omega) (by omega)
  refine ⟨d5, d6, d7, d8, fun h31 => ?_, fun h31 => ⟨fun h32 => ?_, fun h32 => ⟨fun h33 => ?_, fun h33 => ⟨fun h34 => ?_, fun h34 => ⟨fun h35 => ?_, fun h35 => ⟨fun h36 => ?_, fun h36 => ⟨fun h37 => ?_, fun h37 => ⟨fun h38 => ?_, fun h38 => ⟨fun h39 => ?_, fun h39 => ⟨fun h40 => ?_, fun h40 => ⟨fun h41 => ?_, fun h41 => ⟨fun h42 => ?_, fun h42 => ⟨fun h43 => ?_, fun h43 => ?_⟩⟩⟩⟩⟩⟩⟩⟩⟩⟩⟩⟩⟩
  · subst h31
    rintro _ rfl _
    exact ⟨by omega, by omega, rst_x i0 i1 l_nm u_nm (ex_of hs (x_31 w4)) (memEq_refl _ _)⟩
  · subst h32
    rintro _ rfl _ _ rfl _
    exact ⟨by omega, by omega, rst_x i0 i1 l_nm u_nm (ex_of hs (x_32 w4 (by omega) (by omega))) (memEq_refl _ _)⟩
  · subst h33
    exact ⟨by omega, by omega, rst_x i0 i1 l_nm u_nm (ex_of hs x_33) (memEq_refl _ _)⟩
  · subst h34
    exact ⟨by omega, by omega, by omega, by omega, by omega, rst_w i0 i1 l_nm u_nm (ex_of hs (x_mem (.inl rfl))) (memEq_refl _ _)⟩
  · subst h35
    exact ⟨by omega, by omega, by omega, by omega, by omega, rst_w i0 i1 l_nm u_nm (ex_of hs (x_mem (.inr rfl))) (memEq_refl _ _)⟩
  · subst h36
    exact ⟨by omega, by omega, by omega, by omega, by omega, rst_p i0 i1 l_nm u_nm (ex_of hs (x_goe (by omega) (by omega))) (memEq_refl _ _)⟩
  · subst h37
    exact ⟨by omega, by omega, by omega, by omega, by omega, rst_p i0 i1 l_nm u_nm (ex_of hs (x_goe (by omega) (by omega))) (memEq_refl _ _)⟩
  · subst h38
    exact ⟨by omega, by omega, by omega, by omega, by omega, rst_p i0 i1 l_nm u_nm (ex_of hs (x_goe (by omega) (by omega))) (memEq_refl _ _)⟩
  · subst h39
    exact ⟨by omega, by omega, by omega, by omega, by omega, rst_p i0 i1 l_nm u_nm (ex_of hs (x_goe (by omega) (by omega))) (memEq_refl _ _)⟩
  · subst h40
    exact ⟨by omega, by omega, by omega, by omega, by omega, rst_p i0 i1 l_nm u_nm (ex_of hs (x_goe (by omega) (by omega))) (memEq_refl _ _)⟩
  · subst h41
    exact ⟨by omega, by omega, by omega, by omega, by omega, rst_p i0 i1 l_nm u_nm (ex_of hs (x_goe (by omega) (by omega))) (memEq_refl _ _)⟩
  · subst h42
    exact rst_x i0 i1 l_nm u_nm (ex_of hs x_42) (memEq_refl _ _)
  · subst h43
    exact rst_x i0 i1 l_nm u_nm (ex_of hs x_43) (memEq_refl _ _)
  · rintro _ rfl _ _ rfl _
    refine ⟨fun h4 => rst_x i0 i1 l_nm u_nm (ex_of hs (x_aluno (by omega) h4)) (memEq_refl _ _), fun h4 => ⟨by omega, by omega, ?_⟩⟩
    rintro _ rfl _
    exact rst_x i0 i1 l_nm u_nm (ex_of hs (x_alu (by omega) h4)) (memEq_refl _ _)

theorem plain (i v ro p) : statH 2 rk tree ⟨i, fN, v, ro, p⟩ = P (i 0) (i 1) (i 2) (i 3) (i 4) (i 5) (i 6) (i 7) (i 8) (i 9) := by kernel_rfl
theorem ran : ranH us (fun _ _ => .auto) rk 2 tree = true := by kernel_rfl
theorem fineT : fineH 2 rk tree = true := by kernel_rfl
theorem fineB : blVb 1000 rk.inb = true := by kernel_rfl
theorem ok : RhOk (cxOf 2) rk.rh := okH us_ok ran fineT fineB okk fun i v ro p hρ hpre => by rw [plain]; exact holds (i 0) (i 1) (i 2) (i 3) (i 4) (i 5) (i 6) (i 7) (i 8) (i 9) (hρ.hi 0 _ rfl).1 (hρ.hi 0 _ rfl).2 (hρ.hi 1 _ rfl).1 (hρ.hi 1 _ rfl).2 (hρ.hi 2 _ rfl).1 (hρ.hi 2 _ rfl).2 (hρ.hi 3 _ rfl).1 (hρ.hi 3 _ rfl).2 (hρ.hi 4 _ rfl).1 (hρ.hi 4 _ rfl).2
end Go.Proofs.YtbfgkimoobkpmaaGreatDoor.CRStep
