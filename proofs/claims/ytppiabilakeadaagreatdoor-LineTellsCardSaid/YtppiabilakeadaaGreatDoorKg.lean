/-
  What functions of the program answer, as numbers of what they are handed: their runs by the engine, the plain statements behind them. No condition.
-/
import Derived.Test.YtppiabilakeadaaGreatDoorKe
import Derived.Test.YtppiabilakeadaaGreatDoorKf
import Derived.Test.YtppiabilakeadaaGreatDoorGab
import Derived.Test.YtppiabilakeadaaGreatDoorGp2
set_option linter.unusedVariables false
set_option linter.unusedSimpArgs false
set_option maxRecDepth 100000
namespace Go.Proofs.YtppiabilakeadaaGreatDoor
open Go.Eng Go.RowKit
namespace CRText14
def rc : Rc := ⟨6, [some 5], [.int .i64, .int .i64, .int .i64, .int .i64, .int .i64], [], .tup [none, none], [.str (.f 142 (.v 0) (.v 1) (qZi [(.v 2), (.v 3), (.v 4)])), .int .i64 (.f 141 (.v 0) (.v 1) (qZi [(.v 2), (.v 3), (.v 4)]))]⟩
theorem okb : rc.ok = true := by kernel_rfl
noncomputable def us : SMs := fun Γ ins n => smH (cxG n Γ ins) [] (smR (cxG n Γ ins) [CRChk13.rc, CRName06.rc, CRDigits.rc])
theorem us_ok : SMsOk us := fun Γ ins n => qZb (tabsG n Γ ins) (qQs _) (qZw (tabsG n Γ ins) (qQw CRChk13.okb (rc_n CRChk13.ok) (qQw CRName06.okb (rc_n CRName06.ok) (qQw CRDigits.okb (rc_n CRDigits.ok) (qQt _)))))
def Q0 : E := (.f 140 (.v 0) (.c 0) (.c 0))
def Q1 : E := (.f 21 Q0 (.c 0) (.c 0))
def Q2 : E := (tC (.c 32) (.c 0))
def Q3 : E := (tC Q2 (.c 0))
def Q4 : E := (tC (.c 1) Q3)
def Q5 : E := (.f 21 Q4 (.c 0) (.c 0))
def Q6 : E := (tp Q1 Q5)
def Q7 : E := (tl Q6 (.c 1000000))
def Q8 : E := (.f 23 Q0 Q4 (.c 0))
def Q9 : E := (.f 21 Q8 (.c 0) (.c 0))
def Q10 : E := (tC (.c 114) (.c 0))
def Q11 : E := (tC Q10 (.c 0))
def Q12 : E := (tC (.c 1) Q11)
def Q13 : E := (.f 21 Q12 (.c 0) (.c 0))
def Q14 : E := (tp Q9 Q13)
def Q15 : E := (tl Q14 (.c 1000000))
def Q16 : E := (tl (.c (-999999999)) (.v 1))
def Q17 : E := (tl (.v 1) (.c 999999999))
def Q18 : E := (.f 23 Q8 Q12 (.c 0))
def Q19 : E := (.f 21 Q18 (.c 0) (.c 0))
def Q20 : E := (.f 129 (.v 1) (.c 0) (.c 0))
def Q21 : E := (.f 21 Q20 (.c 0) (.c 0))
def Q22 : E := (tp Q19 Q21)
def Q23 : E := (tl Q22 (.c 1000000))
def Q24 : E := (.f 23 Q18 Q20 (.c 0))
def Q25 : E := (.f 21 Q24 (.c 0) (.c 0))
def Q26 : E := (tp Q25 Q5)
def Q27 : E := (tl Q26 (.c 1000000))
def Q28 : E := (.f 23 Q24 Q4 (.c 0))
def Q29 : E := (.f 21 Q28 (.c 0) (.c 0))
def Q30 : E := (tp Q29 Q13)
def Q31 : E := (tl Q30 (.c 1000000))
def Q32 : E := (tl (.c (-999999999)) (.v 2))
def Q33 : E := (tl (.v 2) (.c 999999999))
def Q34 : E := (.f 23 Q28 Q12 (.c 0))
def Q35 : E := (.f 21 Q34 (.c 0) (.c 0))
def Q36 : E := (.f 129 (.v 2) (.c 0) (.c 0))
def Q37 : E := (.f 21 Q36 (.c 0) (.c 0))
def Q38 : E := (tp Q35 Q37)
def Q39 : E := (tl Q38 (.c 1000000))
def Q40 : E := (.f 23 Q34 Q36 (.c 0))
def Q41 : E := (.f 21 Q40 (.c 0) (.c 0))
def Q42 : E := (tp Q41 Q5)
def Q43 : E := (tl Q42 (.c 1000000))
def Q44 : E := (.f 23 Q40 Q4 (.c 0))
def Q45 : E := (.f 21 Q44 (.c 0) (.c 0))
def Q46 : E := (.f 23 Q44 Q12 (.c 0))
def Q47 : E := (.f 129 (.v 3) (.c 0) (.c 0))
def Q48 : E := (te (.v 0) (.c 31))
def Q49 : E := (tl (.c (-999999999)) (.v 4))
def Q50 : E := (tl (.v 4) (.c 999999999))
def Q51 : E := (.f 129 (.v 4) (.c 0) (.c 0))
def Q52 : E := (.f 21 Q51 (.c 0) (.c 0))
def Q53 : E := (tp Q45 Q52)
def Q54 : E := (tl Q53 (.c 1000000))
def Q55 : E := (.f 23 Q44 Q51 (.c 0))
def Q56 : E := (te (.v 0) (.c 32))
def Q57 : E := (te (.v 0) (.c 34))
def Q58 : E := (te (.v 0) (.c 35))
def Q59 : E := (te (.v 0) (.c 36))
def Q60 : E := (te (.v 0) (.c 37))
def Q61 : E := (te (.v 0) (.c 38))
def Q62 : E := (te (.v 0) (.c 33))
def Q63 : E := (tp Q29 Q52)
def Q64 : E := (tl Q63 (.c 1000000))
def Q65 : E := (.f 23 Q28 Q51 (.c 0))
def Q66 : E := (te (.v 0) (.c 40))
def Q67 : E := (te (.v 0) (.c 39))
def Q68 : E := (tp Q9 Q52)
def Q69 : E := (tl Q68 (.c 1000000))
def Q70 : E := (.f 23 Q8 Q51 (.c 0))
def Q71 : E := (te (.v 0) (.c 41))
def Q72 : E := (tp Q19 Q37)
def Q73 : E := (tl Q72 (.c 1000000))
def Q74 : E := (.f 23 Q18 Q36 (.c 0))
def Q75 : E := (te (.v 0) (.c 42))
def Q76 : E := (te (.v 0) (.c 43))
def tree : TT (List E) :=
 (.new 1000 (.f 141 (.v 0) (.v 1) (tC (.v 2) (tC (.v 3) (tC (.v 4) (.c 0))))) (.br (tn (.cl 1000 0 6) (.c 0)) (.leaf [(tC (.c 0) (tC (.c 0) (.c 0))), (.cl 1000 0 6)]) (.br (tl (.c 1) (.v 0)) (.br (tl (.v 0) (.c 23)) (.br Q7 (.br Q15 (.br Q16 (.br Q17 (.br Q23 (.br Q27 (.br Q31 (.br Q32 (.br Q33 (.br Q39 (.br Q43 (.br (tl (tp Q45 Q13) (.c 1000000)) (.br (tl (.c (-999999999)) (.v 3)) (.br (tl (.v 3) (.c 999999999)) (.br (tl (tp (.f 21 Q46 (.c 0) (.c 0)) (.f 21 Q47 (.c 0) (.c 0))) (.c 1000000)) (.leaf [(.f 23 Q46 Q47 (.c 0)), (.c 0)]) (.bad 200)) (.bad 200)) (.bad 200)) (.bad 200)) (.bad 200)) (.bad 200)) (.bad 200)) (.bad 200)) (.bad 200)) (.bad 200)) (.bad 200)) (.bad 200)) (.bad 200)) (.bad 200)) (.bad 200)) (.br (tk (.c 23) (.v 0)) (.br (tl (.v 0) (.c 30)) (.br Q7 (.br Q15 (.br Q16 (.br
 Q17 (.br Q23 (.br Q27 (.br Q31 (.br Q32 (.br Q33 (.br Q39 (.leaf [Q40, (.c 0)]) (.bad 200)) (.bad 200)) (.bad 200)) (.bad 200)) (.bad 200)) (.bad 200)) (.bad 200)) (.bad 200)) (.bad 200)) (.bad 200)) (.br Q48 (.br Q7 (.br Q15 (.br Q16 (.br Q17 (.br Q23 (.br Q27 (.br Q31 (.br Q32 (.br Q33 (.br Q39 (.br Q43 (.br Q49 (.br Q50 (.br Q54 (.leaf [Q55, (.c 0)]) (.bad 200)) (.bad 200)) (.bad 200)) (.bad 200)) (.bad 200)) (.bad 200)) (.bad 200)) (.bad 200)) (.bad 200)) (.bad 200)) (.bad 200)) (.bad 200)) (.bad 200)) (.bad 200)) (.br Q56 (.br Q7 (.br Q15 (.br Q16 (.br Q17 (.br Q23 (.br Q27 (.br Q31 (.br Q32 (.br Q33 (.br Q39 (.br Q43 (.br Q49 (.br Q50 (.br Q54 (.leaf [Q55, (.c 0)]) (.bad 200)) (.bad 200)) (.bad 200)) (.bad 200)) (.bad 200)) (.bad 200)) (.bad 200)) (.bad 200)) (.bad 200)) (.bad
 200)) (.bad 200)) (.bad 200)) (.bad 200)) (.bad 200)) (.br Q57 (.br Q7 (.br Q15 (.br Q16 (.br Q17 (.br Q23 (.br Q27 (.br Q31 (.br Q32 (.br Q33 (.br Q39 (.br Q43 (.br Q49 (.br Q50 (.br Q54 (.leaf [Q55, (.c 0)]) (.bad 200)) (.bad 200)) (.bad 200)) (.bad 200)) (.bad 200)) (.bad 200)) (.bad 200)) (.bad 200)) (.bad 200)) (.bad 200)) (.bad 200)) (.bad 200)) (.bad 200)) (.bad 200)) (.br Q58 (.br Q7 (.br Q15 (.br Q16 (.br Q17 (.br Q23 (.br Q27 (.br Q31 (.br Q32 (.br Q33 (.br Q39 (.br Q43 (.br Q49 (.br Q50 (.br Q54 (.leaf [Q55, (.c 0)]) (.bad 200)) (.bad 200)) (.bad 200)) (.bad 200)) (.bad 200)) (.bad 200)) (.bad 200)) (.bad 200)) (.bad 200)) (.bad 200)) (.bad 200)) (.bad 200)) (.bad 200)) (.bad 200)) (.br Q59 (.br Q7 (.br Q15 (.br Q16 (.br Q17 (.br Q23 (.br Q27 (.br Q31 (.br Q32 (.br Q33 (.br
 Q39 (.br Q43 (.br Q49 (.br Q50 (.br Q54 (.leaf [Q55, (.c 0)]) (.bad 200)) (.bad 200)) (.bad 200)) (.bad 200)) (.bad 200)) (.bad 200)) (.bad 200)) (.bad 200)) (.bad 200)) (.bad 200)) (.bad 200)) (.bad 200)) (.bad 200)) (.bad 200)) (.br Q60 (.br Q7 (.br Q15 (.br Q16 (.br Q17 (.br Q23 (.br Q27 (.br Q31 (.br Q32 (.br Q33 (.br Q39 (.br Q43 (.br Q49 (.br Q50 (.br Q54 (.leaf [Q55, (.c 0)]) (.bad 200)) (.bad 200)) (.bad 200)) (.bad 200)) (.bad 200)) (.bad 200)) (.bad 200)) (.bad 200)) (.bad 200)) (.bad 200)) (.bad 200)) (.bad 200)) (.bad 200)) (.bad 200)) (.br Q61 (.br Q7 (.br Q15 (.br Q16 (.br Q17 (.br Q23 (.br Q27 (.br Q31 (.br Q32 (.br Q33 (.br Q39 (.br Q43 (.br Q49 (.br Q50 (.br Q54 (.leaf [Q55, (.c 0)]) (.bad 200)) (.bad 200)) (.bad 200)) (.bad 200)) (.bad 200)) (.bad 200)) (.bad 200))
 (.bad 200)) (.bad 200)) (.bad 200)) (.bad 200)) (.bad 200)) (.bad 200)) (.bad 200)) (.br Q62 (.br Q7 (.br Q15 (.br Q16 (.br Q17 (.br Q23 (.br Q27 (.br Q49 (.br Q50 (.br Q64 (.leaf [Q65, (.c 0)]) (.bad 200)) (.bad 200)) (.bad 200)) (.bad 200)) (.bad 200)) (.bad 200)) (.bad 200)) (.bad 200)) (.bad 200)) (.br Q66 (.br Q7 (.br Q15 (.br Q16 (.br Q17 (.br Q23 (.br Q27 (.br Q49 (.br Q50 (.br Q64 (.leaf [Q65, (.c 0)]) (.bad 200)) (.bad 200)) (.bad 200)) (.bad 200)) (.bad 200)) (.bad 200)) (.bad 200)) (.bad 200)) (.bad 200)) (.br Q67 (.br Q7 (.br Q49 (.br Q50 (.br Q69 (.leaf [Q70, (.c 0)]) (.bad 200)) (.bad 200)) (.bad 200)) (.bad 200)) (.br Q71 (.br Q7 (.br Q15 (.br Q32 (.br Q33 (.br Q73 (.leaf [Q74, (.c 0)]) (.bad 200)) (.bad 200)) (.bad 200)) (.bad 200)) (.bad 200)) (.br Q75 (.leaf [Q0, (.c
 0)]) (.br Q76 (.leaf [Q0, (.c 0)]) (.bad 283))))))))))))))) (.br Q48 (.br Q7 (.br Q15 (.br Q16 (.br Q17 (.br Q23 (.br Q27 (.br Q31 (.br Q32 (.br Q33 (.br Q39 (.br Q43 (.br Q49 (.br Q50 (.br Q54 (.leaf [Q55, (.c 0)]) (.bad 200)) (.bad 200)) (.bad 200)) (.bad 200)) (.bad 200)) (.bad 200)) (.bad 200)) (.bad 200)) (.bad 200)) (.bad 200)) (.bad 200)) (.bad 200)) (.bad 200)) (.bad 200)) (.br Q56 (.br Q7 (.br Q15 (.br Q16 (.br Q17 (.br Q23 (.br Q27 (.br Q31 (.br Q32 (.br Q33 (.br Q39 (.br Q43 (.br Q49 (.br Q50 (.br Q54 (.leaf [Q55, (.c 0)]) (.bad 200)) (.bad 200)) (.bad 200)) (.bad 200)) (.bad 200)) (.bad 200)) (.bad 200)) (.bad 200)) (.bad 200)) (.bad 200)) (.bad 200)) (.bad 200)) (.bad 200)) (.bad 200)) (.br Q57 (.br Q7 (.br Q15 (.br Q16 (.br Q17 (.br Q23 (.br Q27 (.br Q31 (.br Q32 (.br Q33
 (.br Q39 (.br Q43 (.br Q49 (.br Q50 (.br Q54 (.leaf [Q55, (.c 0)]) (.bad 200)) (.bad 200)) (.bad 200)) (.bad 200)) (.bad 200)) (.bad 200)) (.bad 200)) (.bad 200)) (.bad 200)) (.bad 200)) (.bad 200)) (.bad 200)) (.bad 200)) (.bad 200)) (.br Q58 (.br Q7 (.br Q15 (.br Q16 (.br Q17 (.br Q23 (.br Q27 (.br Q31 (.br Q32 (.br Q33 (.br Q39 (.br Q43 (.br Q49 (.br Q50 (.br Q54 (.leaf [Q55, (.c 0)]) (.bad 200)) (.bad 200)) (.bad 200)) (.bad 200)) (.bad 200)) (.bad 200)) (.bad 200)) (.bad 200)) (.bad 200)) (.bad 200)) (.bad 200)) (.bad 200)) (.bad 200)) (.bad 200)) (.br Q59 (.br Q7 (.br Q15 (.br Q16 (.br Q17 (.br Q23 (.br Q27 (.br Q31 (.br Q32 (.br Q33 (.br Q39 (.br Q43 (.br Q49 (.br Q50 (.br Q54 (.leaf [Q55, (.c 0)]) (.bad 200)) (.bad 200)) (.bad 200)) (.bad 200)) (.bad 200)) (.bad 200)) (.bad 200))
 (.bad 200)) (.bad 200)) (.bad 200)) (.bad 200)) (.bad 200)) (.bad 200)) (.bad 200)) (.br Q60 (.br Q7 (.br Q15 (.br Q16 (.br Q17 (.br Q23 (.br Q27 (.br Q31 (.br Q32 (.br Q33 (.br Q39 (.br Q43 (.br Q49 (.br Q50 (.br Q54 (.leaf [Q55, (.c 0)]) (.bad 200)) (.bad 200)) (.bad 200)) (.bad 200)) (.bad 200)) (.bad 200)) (.bad 200)) (.bad 200)) (.bad 200)) (.bad 200)) (.bad 200)) (.bad 200)) (.bad 200)) (.bad 200)) (.br Q61 (.br Q7 (.br Q15 (.br Q16 (.br Q17 (.br Q23 (.br Q27 (.br Q31 (.br Q32 (.br Q33 (.br Q39 (.br Q43 (.br Q49 (.br Q50 (.br Q54 (.leaf [Q55, (.c 0)]) (.bad 200)) (.bad 200)) (.bad 200)) (.bad 200)) (.bad 200)) (.bad 200)) (.bad 200)) (.bad 200)) (.bad 200)) (.bad 200)) (.bad 200)) (.bad 200)) (.bad 200)) (.bad 200)) (.br Q62 (.br Q7 (.br Q15 (.br Q16 (.br Q17 (.br Q23 (.br Q27 (.br
 Q49 (.br Q50 (.br Q64 (.leaf [Q65, (.c 0)]) (.bad 200)) (.bad 200)) (.bad 200)) (.bad 200)) (.bad 200)) (.bad 200)) (.bad 200)) (.bad 200)) (.bad 200)) (.br Q66 (.br Q7 (.br Q15 (.br Q16 (.br Q17 (.br Q23 (.br Q27 (.br Q49 (.br Q50 (.br Q64 (.leaf [Q65, (.c 0)]) (.bad 200)) (.bad 200)) (.bad 200)) (.bad 200)) (.bad 200)) (.bad 200)) (.bad 200)) (.bad 200)) (.bad 200)) (.br Q67 (.br Q7 (.br Q49 (.br Q50 (.br Q69 (.leaf [Q70, (.c 0)]) (.bad 200)) (.bad 200)) (.bad 200)) (.bad 200)) (.br Q71 (.br Q7 (.br Q15 (.br Q32 (.br Q33 (.br Q73 (.leaf [Q74, (.c 0)]) (.bad 200)) (.bad 200)) (.bad 200)) (.bad 200)) (.bad 200)) (.br Q75 (.leaf [Q0, (.c 0)]) (.br Q76 (.leaf [Q0, (.c 0)]) (.bad 283)))))))))))))))) (.br (tk (.c 23) (.v 0)) (.br (tl (.v 0) (.c 30)) (.br Q7 (.br Q15 (.br Q16 (.br Q17 (.br
 Q23 (.br Q27 (.br Q31 (.br Q32 (.br Q33 (.br Q39 (.leaf [Q40, (.c 0)]) (.bad 200)) (.bad 200)) (.bad 200)) (.bad 200)) (.bad 200)) (.bad 200)) (.bad 200)) (.bad 200)) (.bad 200)) (.bad 200)) (.br Q48 (.br Q7 (.br Q15 (.br Q16 (.br Q17 (.br Q23 (.br Q27 (.br Q31 (.br Q32 (.br Q33 (.br Q39 (.br Q43 (.br Q49 (.br Q50 (.br Q54 (.leaf [Q55, (.c 0)]) (.bad 200)) (.bad 200)) (.bad 200)) (.bad 200)) (.bad 200)) (.bad 200)) (.bad 200)) (.bad 200)) (.bad 200)) (.bad 200)) (.bad 200)) (.bad 200)) (.bad 200)) (.bad 200)) (.br Q56 (.br Q7 (.br Q15 (.br Q16 (.br Q17 (.br Q23 (.br Q27 (.br Q31 (.br Q32 (.br Q33 (.br Q39 (.br Q43 (.br Q49 (.br Q50 (.br Q54 (.leaf [Q55, (.c 0)]) (.bad 200)) (.bad 200)) (.bad 200)) (.bad 200)) (.bad 200)) (.bad 200)) (.bad 200)) (.bad 200)) (.bad 200)) (.bad 200)) (.bad
 200)) (.bad 200)) (.bad 200)) (.bad 200)) (.br Q57 (.br Q7 (.br Q15 (.br Q16 (.br Q17 (.br Q23 (.br Q27 (.br Q31 (.br Q32 (.br Q33 (.br Q39 (.br Q43 (.br Q49 (.br Q50 (.br Q54 (.leaf [Q55, (.c 0)]) (.bad 200)) (.bad 200)) (.bad 200)) (.bad 200)) (.bad 200)) (.bad 200)) (.bad 200)) (.bad 200)) (.bad 200)) (.bad 200)) (.bad 200)) (.bad 200)) (.bad 200)) (.bad 200)) (.br Q58 (.br Q7 (.br Q15 (.br Q16 (.br Q17 (.br Q23 (.br Q27 (.br Q31 (.br Q32 (.br Q33 (.br Q39 (.br Q43 (.br Q49 (.br Q50 (.br Q54 (.leaf [Q55, (.c 0)]) (.bad 200)) (.bad 200)) (.bad 200)) (.bad 200)) (.bad 200)) (.bad 200)) (.bad 200)) (.bad 200)) (.bad 200)) (.bad 200)) (.bad 200)) (.bad 200)) (.bad 200)) (.bad 200)) (.br Q59 (.br Q7 (.br Q15 (.br Q16 (.br Q17 (.br Q23 (.br Q27 (.br Q31 (.br Q32 (.br Q33 (.br Q39 (.br Q43
 (.br Q49 (.br Q50 (.br Q54 (.leaf [Q55, (.c 0)]) (.bad 200)) (.bad 200)) (.bad 200)) (.bad 200)) (.bad 200)) (.bad 200)) (.bad 200)) (.bad 200)) (.bad 200)) (.bad 200)) (.bad 200)) (.bad 200)) (.bad 200)) (.bad 200)) (.br Q60 (.br Q7 (.br Q15 (.br Q16 (.br Q17 (.br Q23 (.br Q27 (.br Q31 (.br Q32 (.br Q33 (.br Q39 (.br Q43 (.br Q49 (.br Q50 (.br Q54 (.leaf [Q55, (.c 0)]) (.bad 200)) (.bad 200)) (.bad 200)) (.bad 200)) (.bad 200)) (.bad 200)) (.bad 200)) (.bad 200)) (.bad 200)) (.bad 200)) (.bad 200)) (.bad 200)) (.bad 200)) (.bad 200)) (.br Q61 (.br Q7 (.br Q15 (.br Q16 (.br Q17 (.br Q23 (.br Q27 (.br Q31 (.br Q32 (.br Q33 (.br Q39 (.br Q43 (.br Q49 (.br Q50 (.br Q54 (.leaf [Q55, (.c 0)]) (.bad 200)) (.bad 200)) (.bad 200)) (.bad 200)) (.bad 200)) (.bad 200)) (.bad 200)) (.bad 200)) (.bad
 200)) (.bad 200)) (.bad 200)) (.bad 200)) (.bad 200)) (.bad 200)) (.br Q62 (.br Q7 (.br Q15 (.br Q16 (.br Q17 (.br Q23 (.br Q27 (.br Q49 (.br Q50 (.br Q64 (.leaf [Q65, (.c 0)]) (.bad 200)) (.bad 200)) (.bad 200)) (.bad 200)) (.bad 200)) (.bad 200)) (.bad 200)) (.bad 200)) (.bad 200)) (.br Q66 (.br Q7 (.br Q15 (.br Q16 (.br Q17 (.br Q23 (.br Q27 (.br Q49 (.br Q50 (.br Q64 (.leaf [Q65, (.c 0)]) (.bad 200)) (.bad 200)) (.bad 200)) (.bad 200)) (.bad 200)) (.bad 200)) (.bad 200)) (.bad 200)) (.bad 200)) (.br Q67 (.br Q7 (.br Q49 (.br Q50 (.br Q69 (.leaf [Q70, (.c 0)]) (.bad 200)) (.bad 200)) (.bad 200)) (.bad 200)) (.br Q71 (.br Q7 (.br Q15 (.br Q32 (.br Q33 (.br Q73 (.leaf [Q74, (.c 0)]) (.bad 200)) (.bad 200)) (.bad 200)) (.bad 200)) (.bad 200)) (.br Q75 (.leaf [Q0, (.c 0)]) (.br Q76 (.leaf
 [Q0, (.c 0)]) (.bad 283))))))))))))))) (.br Q48 (.br Q7 (.br Q15 (.br Q16 (.br Q17 (.br Q23 (.br Q27 (.br Q31 (.br Q32 (.br Q33 (.br Q39 (.br Q43 (.br Q49 (.br Q50 (.br Q54 (.leaf [Q55, (.c 0)]) (.bad 200)) (.bad 200)) (.bad 200)) (.bad 200)) (.bad 200)) (.bad 200)) (.bad 200)) (.bad 200)) (.bad 200)) (.bad 200)) (.bad 200)) (.bad 200)) (.bad 200)) (.bad 200)) (.br Q56 (.br Q7 (.br Q15 (.br Q16 (.br Q17 (.br Q23 (.br Q27 (.br Q31 (.br Q32 (.br Q33 (.br Q39 (.br Q43 (.br Q49 (.br Q50 (.br Q54 (.leaf [Q55, (.c 0)]) (.bad 200)) (.bad 200)) (.bad 200)) (.bad 200)) (.bad 200)) (.bad 200)) (.bad 200)) (.bad 200)) (.bad 200)) (.bad 200)) (.bad 200)) (.bad 200)) (.bad 200)) (.bad 200)) (.br Q57 (.br Q7 (.br Q15 (.br Q16 (.br Q17 (.br Q23 (.br Q27 (.br Q31 (.br Q32 (.br Q33 (.br Q39 (.br Q43 (.br
 Q49 (.br Q50 (.br Q54 (.leaf [Q55, (.c 0)]) (.bad 200)) (.bad 200)) (.bad 200)) (.bad 200)) (.bad 200)) (.bad 200)) (.bad 200)) (.bad 200)) (.bad 200)) (.bad 200)) (.bad 200)) (.bad 200)) (.bad 200)) (.bad 200)) (.br Q58 (.br Q7 (.br Q15 (.br Q16 (.br Q17 (.br Q23 (.br Q27 (.br Q31 (.br Q32 (.br Q33 (.br Q39 (.br Q43 (.br Q49 (.br Q50 (.br Q54 (.leaf [Q55, (.c 0)]) (.bad 200)) (.bad 200)) (.bad 200)) (.bad 200)) (.bad 200)) (.bad 200)) (.bad 200)) (.bad 200)) (.bad 200)) (.bad 200)) (.bad 200)) (.bad 200)) (.bad 200)) (.bad 200)) (.br Q59 (.br Q7 (.br Q15 (.br Q16 (.br Q17 (.br Q23 (.br Q27 (.br Q31 (.br Q32 (.br Q33 (.br Q39 (.br Q43 (.br Q49 (.br Q50 (.br Q54 (.leaf [Q55, (.c 0)]) (.bad 200)) (.bad 200)) (.bad 200)) (.bad 200)) (.bad 200)) (.bad 200)) (.bad 200)) (.bad 200)) (.bad
 200)) (.bad 200)) (.bad 200)) (.bad 200)) (.bad 200)) (.bad 200)) (.br Q60 (.br Q7 (.br Q15 (.br Q16 (.br Q17 (.br Q23 (.br Q27 (.br Q31 (.br Q32 (.br Q33 (.br Q39 (.br Q43 (.br Q49 (.br Q50 (.br Q54 (.leaf [Q55, (.c 0)]) (.bad 200)) (.bad 200)) (.bad 200)) (.bad 200)) (.bad 200)) (.bad 200)) (.bad 200)) (.bad 200)) (.bad 200)) (.bad 200)) (.bad 200)) (.bad 200)) (.bad 200)) (.bad 200)) (.br Q61 (.br Q7 (.br Q15 (.br Q16 (.br Q17 (.br Q23 (.br Q27 (.br Q31 (.br Q32 (.br Q33 (.br Q39 (.br Q43 (.br Q49 (.br Q50 (.br Q54 (.leaf [Q55, (.c 0)]) (.bad 200)) (.bad 200)) (.bad 200)) (.bad 200)) (.bad 200)) (.bad 200)) (.bad 200)) (.bad 200)) (.bad 200)) (.bad 200)) (.bad 200)) (.bad 200)) (.bad 200)) (.bad 200)) (.br Q62 (.br Q7 (.br Q15 (.br Q16 (.br Q17 (.br Q23 (.br Q27 (.br Q49 (.br Q50 (.br
 Q64 (.leaf [Q65, (.c 0)]) (.bad 200)) (.bad 200)) (.bad 200)) (.bad 200)) (.bad 200)) (.bad 200)) (.bad 200)) (.bad 200)) (.bad 200)) (.br Q66 (.br Q7 (.br Q15 (.br Q16 (.br Q17 (.br Q23 (.br Q27 (.br Q49 (.br Q50 (.br Q64 (.leaf [Q65, (.c 0)]) (.bad 200)) (.bad 200)) (.bad 200)) (.bad 200)) (.bad 200)) (.bad 200)) (.bad 200)) (.bad 200)) (.bad 200)) (.br Q67 (.br Q7 (.br Q49 (.br Q50 (.br Q69 (.leaf [Q70, (.c 0)]) (.bad 200)) (.bad 200)) (.bad 200)) (.bad 200)) (.br Q71 (.br Q7 (.br Q15 (.br Q32 (.br Q33 (.br Q73 (.leaf [Q74, (.c 0)]) (.bad 200)) (.bad 200)) (.bad 200)) (.bad 200)) (.bad 200)) (.br Q75 (.leaf [Q0, (.c 0)]) (.br Q76 (.leaf [Q0, (.c 0)]) (.bad 283))))))))))))))))))
noncomputable def sq0 (a b : Int) : Int := (catZ (catZ (catZ (catZ (onmZ a) (kZ 1 (kZ (kZ 32 0) 0))) (kZ 1 (kZ (kZ 114 0) 0))) (itoZ b)) (kZ 1 (kZ (kZ 32 0) 0)))
noncomputable def sq1 (a : Int) : Int := (catZ (catZ (onmZ a) (kZ 1 (kZ (kZ 32 0) 0))) (kZ 1 (kZ (kZ 114 0) 0)))
noncomputable def sq2 (a b c : Int) : Int := (catZ (catZ (catZ (sq0 a b) (kZ 1 (kZ (kZ 114 0) 0))) (itoZ c)) (kZ 1 (kZ (kZ 32 0) 0)))
noncomputable def sq3 (a : Int) : Int := (PL ((qQz (catZ (onmZ a) (kZ 1 (kZ (kZ 32 0) 0)))) + (qQz (kZ 1 (kZ (kZ 114 0) 0)))) 1000000)
noncomputable def sq4 (a b c : Int) : Int := (PL ((qQz (catZ (catZ (sq0 a b) (kZ 1 (kZ (kZ 114 0) 0))) (itoZ c))) + (qQz (kZ 1 (kZ (kZ 32 0) 0)))) 1000000)
noncomputable def sq5 (a : Int) : Int := (PL ((qQz (onmZ a)) + (qQz (kZ 1 (kZ (kZ 32 0) 0)))) 1000000)
noncomputable def sq6 (a b : Int) : Int := (PL ((qQz (catZ (sq1 a) (itoZ b))) + (qQz (kZ 1 (kZ (kZ 32 0) 0)))) 1000000)
noncomputable def sq7 (a b c : Int) : Int := (PL ((qQz (catZ (sq0 a b) (kZ 1 (kZ (kZ 114 0) 0)))) + (qQz (itoZ c))) 1000000)
noncomputable def sq8 (a b : Int) : Int := (PL ((qQz (sq0 a b)) + (qQz (kZ 1 (kZ (kZ 114 0) 0)))) 1000000)
noncomputable def sq9 (a b : Int) : Int := (PL ((qQz (sq1 a)) + (qQz (itoZ b))) 1000000)
noncomputable def sq10 (a b c e : Int) : Int := (PL ((qQz (sq2 a b c)) + (qQz (itoZ e))) 1000000)
noncomputable def sq11 (a : Int) : Int := (catZ (onmZ a) (kZ 1 (kZ (kZ 32 0) 0)))
noncomputable def sq12 (a b e : Int) : Int := (PL ((qQz (sq0 a b)) + (qQz (itoZ e))) 1000000)
def sL0 (a b c d e z0 z2 : Int) : Prop := qQj z0 = qQj (texZ a b (kZ c (kZ d (kZ e 0)))) ∧ (z2 : Int) = (cckZ a b (kZ c (kZ d (kZ e 0)))) ∧ True
def sq13 (a b c e d : Int) : Prop := (Pb (Pe a 31) (Pm (sq5 a) (Pm (sq3 a) (Pm (PL (-999999999) b) (Pm (PL b 999999999) (Pm (sq9 a b) (Pm (sq6 a b) (Pm (sq8 a b) (Pm (PL (-999999999) c) (Pm (PL c 999999999) (Pm (sq7 a b c) (Pm (sq4 a b c) (Pm (PL (-999999999) e) (Pm (PL e 999999999) (Pm (sq10 a b c e) (sL0 a b c d e (catZ (sq2 a b c) (itoZ e)) 0))))))))))))))) (Pb (Pe a 32) (Pm (sq5 a) (Pm (sq3 a) (Pm (PL (-999999999) b) (Pm (PL b 999999999) (Pm (sq9 a b) (Pm (sq6 a b) (Pm (sq8 a b) (Pm (PL (-999999999) c) (Pm (PL c 999999999) (Pm (sq7 a b c) (Pm (sq4 a b c) (Pm (PL (-999999999) e) (Pm (PL e 999999999) (Pm (sq10 a b c e) (sL0 a b c d e (catZ (sq2 a b c) (itoZ e)) 0))))))))))))))) (Pb (Pe a 34) (Pm (sq5 a) (Pm (sq3 a) (Pm (PL (-999999999) b) (Pm (PL b 999999999) (Pm (sq9 a b) (Pm (sq6 a b)
 (Pm (sq8 a b) (Pm (PL (-999999999) c) (Pm (PL c 999999999) (Pm (sq7 a b c) (Pm (sq4 a b c) (Pm (PL (-999999999) e) (Pm (PL e 999999999) (Pm (sq10 a b c e) (sL0 a b c d e (catZ (sq2 a b c) (itoZ e)) 0))))))))))))))) (Pb (Pe a 35) (Pm (sq5 a) (Pm (sq3 a) (Pm (PL (-999999999) b) (Pm (PL b 999999999) (Pm (sq9 a b) (Pm (sq6 a b) (Pm (sq8 a b) (Pm (PL (-999999999) c) (Pm (PL c 999999999) (Pm (sq7 a b c) (Pm (sq4 a b c) (Pm (PL (-999999999) e) (Pm (PL e 999999999) (Pm (sq10 a b c e) (sL0 a b c d e (catZ (sq2 a b c) (itoZ e)) 0))))))))))))))) (Pb (Pe a 36) (Pm (sq5 a) (Pm (sq3 a) (Pm (PL (-999999999) b) (Pm (PL b 999999999) (Pm (sq9 a b) (Pm (sq6 a b) (Pm (sq8 a b) (Pm (PL (-999999999) c) (Pm (PL c 999999999) (Pm (sq7 a b c) (Pm (sq4 a b c) (Pm (PL (-999999999) e) (Pm (PL e 999999999) (Pm (sq10
 a b c e) (sL0 a b c d e (catZ (sq2 a b c) (itoZ e)) 0))))))))))))))) (Pb (Pe a 37) (Pm (sq5 a) (Pm (sq3 a) (Pm (PL (-999999999) b) (Pm (PL b 999999999) (Pm (sq9 a b) (Pm (sq6 a b) (Pm (sq8 a b) (Pm (PL (-999999999) c) (Pm (PL c 999999999) (Pm (sq7 a b c) (Pm (sq4 a b c) (Pm (PL (-999999999) e) (Pm (PL e 999999999) (Pm (sq10 a b c e) (sL0 a b c d e (catZ (sq2 a b c) (itoZ e)) 0))))))))))))))) (Pb (Pe a 38) (Pm (sq5 a) (Pm (sq3 a) (Pm (PL (-999999999) b) (Pm (PL b 999999999) (Pm (sq9 a b) (Pm (sq6 a b) (Pm (sq8 a b) (Pm (PL (-999999999) c) (Pm (PL c 999999999) (Pm (sq7 a b c) (Pm (sq4 a b c) (Pm (PL (-999999999) e) (Pm (PL e 999999999) (Pm (sq10 a b c e) (sL0 a b c d e (catZ (sq2 a b c) (itoZ e)) 0))))))))))))))) (Pb (Pe a 33) (Pm (sq5 a) (Pm (sq3 a) (Pm (PL (-999999999) b) (Pm (PL b
 999999999) (Pm (sq9 a b) (Pm (sq6 a b) (Pm (PL (-999999999) e) (Pm (PL e 999999999) (Pm (sq12 a b e) (sL0 a b c d e (catZ (sq0 a b) (itoZ e)) 0)))))))))) (Pb (Pe a 40) (Pm (sq5 a) (Pm (sq3 a) (Pm (PL (-999999999) b) (Pm (PL b 999999999) (Pm (sq9 a b) (Pm (sq6 a b) (Pm (PL (-999999999) e) (Pm (PL e 999999999) (Pm (sq12 a b e) (sL0 a b c d e (catZ (sq0 a b) (itoZ e)) 0)))))))))) (Pb (Pe a 39) (Pm (sq5 a) (Pm (PL (-999999999) e) (Pm (PL e 999999999) (Pm (PL ((qQz (sq11 a)) + (qQz (itoZ e))) 1000000) (sL0 a b c d e (catZ (sq11 a) (itoZ e)) 0))))) (Pb (Pe a 41) (Pm (sq5 a) (Pm (sq3 a) (Pm (PL (-999999999) c) (Pm (PL c 999999999) (Pm (PL ((qQz (sq1 a)) + (qQz (itoZ c))) 1000000) (sL0 a b c d e (catZ (sq1 a) (itoZ c)) 0)))))) (Pb (Pe a 42) (sL0 a b c d e (onmZ a) 0) (Pm (Pe a 43) (sL0 a
 b c d e (onmZ a) 0))))))))))))))
def sq14 (a b c d e : Int) : Prop := (Pb (Pl 23 a) (Pb (PL a 30) (Pm (sq5 a) (Pm (sq3 a) (Pm (PL (-999999999) b) (Pm (PL b 999999999) (Pm (sq9 a b) (Pm (sq6 a b) (Pm (sq8 a b) (Pm (PL (-999999999) c) (Pm (PL c 999999999) (Pm (sq7 a b c) (sL0 a b c d e (catZ (catZ (sq0 a b) (kZ 1 (kZ (kZ 114 0) 0))) (itoZ c)) 0))))))))))) (sq13 a b c e d)) (sq13 a b c e d))
def P (a b c d e : Int) : Prop :=
 Pn (cckZ a b (kZ c (kZ d (kZ e 0)))) 0 6 fun y0 => (Pb (Pd y0 0) (sL0 a b c d e (kZ 0 (kZ 0 0)) y0) (Pb (PL 1 a) (Pb (PL a 23) (Pm (sq5 a) (Pm (sq3 a) (Pm (PL (-999999999) b) (Pm (PL b 999999999) (Pm (sq9 a b) (Pm (sq6 a b) (Pm (sq8 a b) (Pm (PL (-999999999) c) (Pm (PL c 999999999) (Pm (sq7 a b c) (Pm (sq4 a b c) (Pm (PL ((qQz (sq2 a b c)) + (qQz (kZ 1 (kZ (kZ 114 0) 0)))) 1000000) (Pm (PL (-999999999) d) (Pm (PL d 999999999) (Pm (PL ((qQz (catZ (sq2 a b c) (kZ 1 (kZ (kZ 114 0) 0)))) + (qQz (itoZ d))) 1000000) (sL0 a b c d e (catZ (catZ (sq2 a b c) (kZ 1 (kZ (kZ 114 0) 0))) (itoZ d)) 0)))))))))))))))) (sq14 a b c d e)) (sq14 a b c d e)))
set_option maxHeartbeats 8000000 in
theorem holds (p0_0 p0_1 p0_2 p0_3 p0_4 : Int) (l_p0_0 : -9223372036854775808 ≤ p0_0) (u_p0_0 : p0_0 ≤ 9223372036854775807) (l_p0_1 : -9223372036854775808 ≤ p0_1) (u_p0_1 : p0_1 ≤ 9223372036854775807) (l_p0_2 : -9223372036854775808 ≤ p0_2) (u_p0_2 : p0_2 ≤ 9223372036854775807) (l_p0_3 : -9223372036854775808 ≤ p0_3) (u_p0_3 : p0_3 ≤ 9223372036854775807) (l_p0_4 : -9223372036854775808 ≤ p0_4) (u_p0_4 : p0_4 ≤ 9223372036854775807) : P p0_0 p0_1 p0_2 p0_3 p0_4 := by
 delta P sq0 sq1 sq2 sq3 sq4 sq5 sq6 sq7 sq8 sq9 sq10 sq11 sq12 sq13 sq14 sL0 Pb Pm Pn PL Pl Pe Pd kZ
 have hd : i64B p0_1 := ⟨by omega, by omega⟩
 have ha : i64B p0_2 := ⟨by omega, by omega⟩
 have hb : i64B p0_3 := ⟨by omega, by omega⟩
 have hn : i64B p0_4 := ⟨by omega, by omega⟩
 have s1 := qQo hd.1 hd.2
 have s2 := qQo ha.1 ha.2
 have s3 := qQo hb.1 hb.2
 have s4 := qQo hn.1 hn.2
 have s0 := slen_onm p0_0
 have n0 := qXb p0_0
 have hB := texI_byt (op := p0_0) hd ha hb hn
 obtain ⟨d1, d2, d3, d4⟩ := fld_r (s := (onmZ p0_0)) (by omega) hd
 obtain ⟨a1, a2, a3, a4⟩ := fld_r (s := (catZ (catZ (catZ (onmZ p0_0) (qQq 1 (qQq (qQq 32 0) 0))) (qQq 1 (qQq (qQq 114 0) 0))) (itoZ p0_1))) (by omega) ha
 obtain ⟨b1, b2, b3, b4⟩ := fld_r (s := (catZ (catZ (catZ (catZ (catZ (catZ (onmZ p0_0) (qQq 1 (qQq (qQq 32 0) 0))) (qQq 1 (qQq (qQq 114 0) 0))) (itoZ p0_1)) (qQq 1 (qQq (qQq 32 0) 0))) (qQq 1 (qQq (qQq 114 0) 0))) (itoZ p0_2))) (by omega) hb
 obtain ⟨e1, e2, e3, e4⟩ := fld_r (s := (onmZ p0_0)) (by omega) ha
 obtain ⟨x21, x22, x23⟩ := fld_n (s := (catZ (catZ (catZ (catZ (catZ (catZ (onmZ p0_0) (qQq 1 (qQq (qQq 32 0) 0))) (qQq 1 (qQq (qQq 114 0) 0))) (itoZ p0_1)) (qQq 1 (qQq (qQq 32 0) 0))) (qQq 1 (qQq (qQq 114 0) 0))) (itoZ p0_2))) (t := 2) (by omega) hn (by omega)
 obtain ⟨x31, x32, x33⟩ := fld_n (s := (catZ (catZ (catZ (catZ (catZ (catZ (onmZ p0_0) (qQq 1 (qQq (qQq 32 0) 0))) (qQq 1 (qQq (qQq 114 0) 0))) (itoZ p0_1)) (qQq 1 (qQq (qQq 32 0) 0))) (qQq 1 (qQq (qQq 114 0) 0))) (itoZ p0_2))) (t := 3) (by omega) hn (by omega)
 obtain ⟨y31, y32, y33⟩ := fld_n (s := (catZ (catZ (catZ (onmZ p0_0) (qQq 1 (qQq (qQq 32 0) 0))) (qQq 1 (qQq (qQq 114 0) 0))) (itoZ p0_1))) (t := 3) (by omega) hn (by omega)
 obtain ⟨z31, z32, z33⟩ := fld_n (s := (onmZ p0_0)) (t := 3) (by omega) hn (by omega)
 simp only [nrm, Int.reduceEq, Int.reduceNeg, reduceIte, qYc, texZ_I, qZm]
 intro y hy hyb
 refine And.intro (fun h => ?_) (fun h => ?_)
 ·refine ⟨?_, hy⟩
  rw [qZd, hB, if_neg (by omega), bytL_e]
 ·have hc : cckI p0_0 p0_1 p0_2 p0_3 p0_4 = 0 := by omega
  have hv : 1 ≤ p0_0 ∧ p0_0 ≤ 43 := by
   by_cases hv : p0_0 < 1 ∨ 43 < p0_0
   ·rw [cck_n hv] at hc; omega
   ·omega
  rw [if_pos hc] at hB
  unfold texL at hB
  have hs : (1 ≤ p0_0 ∧ p0_0 ≤ 23) ∨ (24 ≤ p0_0 ∧ p0_0 ≤ 30) ∨ (p0_0 = 31) ∨ (p0_0 = 32 ∨ (34 ≤ p0_0 ∧ p0_0 ≤ 38)) ∨ (p0_0 = 33 ∨ p0_0 = 40) ∨ (p0_0 = 39) ∨ (p0_0 = 41) ∨ (p0_0 = 42 ∨ p0_0 = 43) := by omega
  rcases hs with hr | hr | hr | hr | hr | hr | hr | hr
  ·have hk := hc
   rw [cck_0 hr] at hk
   obtain ⟨q0, q1, q2, q3⟩ := shp_0 hr
   rw [q0, q1, q2, q3] at hB
   repeat' (constructor <;> intro _)
   all_goals first
    | (exfalso; omega)
    | (refine ⟨?_, hc.symm⟩
       rw [qZd, hB, b4, a4, d4, n0]
       simp [fieL])
  ·have hk := hc
   rw [cck_1 hr] at hk
   obtain ⟨q0, q1, q2, q3⟩ := shp_1 hr
   rw [q0, q1, q2, q3] at hB
   repeat' (constructor <;> intro _)
   all_goals first
    | (exfalso; omega)
    | (refine ⟨?_, hc.symm⟩
       rw [qZd, hB, a4, d4, n0]
       simp [fieL])
  ·have hk := hc
   rw [cck_2 hr] at hk
   obtain ⟨q0, q1, q2, q3⟩ := shp_2 hr
   rw [q0, q1, q2, q3] at hB
   repeat' (constructor <;> intro _)
   all_goals first
    | (exfalso; omega)
    | (refine ⟨?_, hc.symm⟩
       rw [qZd, hB, x23, a4, d4, n0]
       simp [fieL])
  ·have hk := hc
   rw [cck_3 hr] at hk
   obtain ⟨q0, q1, q2, q3⟩ := shp_3 hr
   rw [q0, q1, q2, q3] at hB
   repeat' (constructor <;> intro _)
   all_goals first
    | (exfalso; omega)
    | (refine ⟨?_, hc.symm⟩
       rw [qZd, hB, x33, a4, d4, n0]
       simp [fieL])
  ·have hk := hc
   rw [cck_4 hr] at hk
   obtain ⟨q0, q1, q2, q3⟩ := shp_4 hr
   rw [q0, q1, q2, q3] at hB
   repeat' (constructor <;> intro _)
   all_goals first
    | (exfalso; omega)
    | (refine ⟨?_, hc.symm⟩
       rw [qZd, hB, y33, d4, n0]
       simp [fieL])
  ·have hk := hc
   rw [cck_5 hr] at hk
   obtain ⟨q0, q1, q2, q3⟩ := shp_5 hr
   rw [q0, q1, q2, q3] at hB
   repeat' (constructor <;> intro _)
   all_goals first
    | (exfalso; omega)
    | (refine ⟨?_, hc.symm⟩
       rw [qZd, hB, z33, n0]
       simp [fieL])
  ·have hk := hc
   rw [cck_6 hr] at hk
   obtain ⟨q0, q1, q2, q3⟩ := shp_6 hr
   rw [q0, q1, q2, q3] at hB
   repeat' (constructor <;> intro _)
   all_goals first
    | (exfalso; omega)
    | (refine ⟨?_, hc.symm⟩
       rw [qZd, hB, e4, n0]
       simp [fieL])
  ·have hk := hc
   rw [cck_7 hr] at hk
   obtain ⟨q0, q1, q2, q3⟩ := shp_7 hr
   rw [q0, q1, q2, q3] at hB
   repeat' (constructor <;> intro _)
   all_goals first
    | (exfalso; omega)
    | (refine ⟨?_, hc.symm⟩
       rw [qZd, hB, n0]
       simp [fieL])
theorem plain (i v ro p) : statR 2 rc tree ⟨i, fN, v, ro, p⟩ = P (i 0) (i 1) (i 2) (i 3) (i 4) := by kernel_rfl
theorem ran : ranR us (fun f _ => if [6].contains f then .unroll 400 else .auto) rc 2 tree = true := by kernel_rfl
theorem fineT : fineR 2 rc tree = true := by kernel_rfl
theorem ok : RcOk (cxOf 2) rc := okR us_ok ran fineT okb fun i v ro p hρ hcap hpre => by rw [plain]; have q := hρ.hi; exact holds _ _ _ _ _ (q 0 _ rfl).1 (q 0 _ rfl).2 (q 1 _ rfl).1 (q 1 _ rfl).2 (q 2 _ rfl).1 (q 2 _ rfl).2 (q 3 _ rfl).1 (q 3 _ rfl).2 (q 4 _ rfl).1 (q 4 _ rfl).2
end CRText14
namespace CRWords14
def rc : Rc := ⟨13, [none], [.str], [(.b .le .i64 (.f 21 (.v 0) (.c 0) (.c 0)) (.c 100000))], .one, [.row [.str] 9 (.f 137 (.v 0) (.c 0) (.c 0)) (.f 136 (.v 0) (.c 0) (.c 0))]⟩
theorem okb : rc.ok = true := by kernel_rfl
noncomputable def us : SMs := fun Γ ins n => smH (cxG n Γ ins) [] (smR (cxG n Γ ins) [])
theorem us_ok : SMsOk us := fun Γ ins n => qZb (tabsG n Γ ins) (qQs _) (qZw (tabsG n Γ ins) (qQt _))
def Q0 : E := (tC (.c 0) (.c 0))
def Q1 : E := (tC (.c 0) Q0)
def Q2 : E := (.cl 1003 0 4611686018427387904)
def Q3 : E := (.f 21 (.v 0) (.c 0) (.c 0))
def Q4 : E := (tp Q2 (.c 1))
def Q5 : E := (.b .psub .i64 Q4 Q2)
def Q6 : E := (.f 18 (tR (.v 0) (.c 1)) Q2 (.c 0))
def Q7 : E := (tC Q6 (.c 0))
def Q8 : E := (tC Q5 Q7)
def Q9 : E := (tl Q4 (.c 4611686018427387904))
def Q10 : E := (.cl 1001 0 1000000)
def Q11 : E := (.f 20 (.v 1002) Q1 (.c 0))
def Q12 : E := (.nt Q11)
def Q13 : E := (tp Q10 (.c 1))
def Q14 : E := (tl Q13 (.c 1000000))
def Q15 : E := (.f 14 (.v 1000) Q10 (.v 1002))
def tree : TT (List E) :=
 (.loop ⟨1000, [none, some (0, 1000000), none, some (0, 4611686018427387904)], [(.c 0), (.c 0), Q1, (.c 0)], 1005⟩ (.br (tl Q2 Q3) (.br (tk Q2 Q3) (.br (tn (.f 22 (.v 0) Q2 (.c 0)) (.c 32)) (.br (tl Q2 Q4) (.br (tl Q4 Q3) (.br (tl (tp (.f 21 (.v 1002) (.c 0) (.c 0)) (.f 21 Q8 (.c 0) (.c 0))) (.c 1000000)) (.br Q9 (.back [(.v 1000), Q10, (.f 23 (.v 1002) Q8 (.c 0)), Q4]) (.bad 303)) (.bad 200)) (.bad 200)) (.bad 200)) (.br Q12 (.br Q14 (.br Q14 (.br Q9 (.back [Q15, Q13, Q1, Q4]) (.bad 303)) (.bad 303)) (.bad 200)) (.br Q9 (.back [(.v 1000), Q10, (.v 1002), Q4]) (.bad 303)))) (.br Q12 (.br Q14 (.br Q14 (.br Q9 (.back [Q15, Q13, Q1, Q4]) (.bad 303)) (.bad 303)) (.bad 200)) (.br Q9 (.back [(.v 1000), Q10, (.v 1002), Q4]) (.bad 303)))) (.exit 0)) (.leaf [Q10, (.v 1000)]))
def sq0 (y2 y1 y3 y0 : Int) (m0 : Nat) (I1000 : Int → Int → Int → Int → Nat → Prop) : Prop := (Pb (Pe (seqZ y2 (kZ 0 (kZ 0 0))) 0) (Pm (PL (y1 + 1) 1000000) (Pm (PL (y1 + 1) 1000000) (Pm (PL (y3 + 1) 4611686018427387904) (∃ m', m' < m0 ∧ I1000 (updZ y0 y1 y2) (y1 + 1) (kZ 0 (kZ 0 0)) (y3 + 1) m')))) (Pm (PL (y3 + 1) 4611686018427387904) (∃ m', m' < m0 ∧ I1000 y0 y1 y2 (y3 + 1) m')))
def P (a : Int) : Prop :=
 ∃ I1000 : Int → Int → Int → Int → Nat → Prop, (∃ m, I1000 0 0 (kZ 0 (kZ 0 0)) 0 m) ∧ ∀ y0 y1 y2 y3 : Int, ∀ m0, (True ∧ (0 ≤ y1 ∧ y1 ≤ 1000000) ∧ True ∧ (0 ≤ y3 ∧ y3 ≤ 4611686018427387904) ∧ True) → I1000 y0 y1 y2 y3 m0 → (Pb (PL y3 (qQz a)) (Pb (Pl y3 (qQz a)) (Pb (Pd (qQy a y3) 32) (Pm (PL y3 (y3 + 1)) (Pm (PL (y3 + 1) (qQz a)) (Pm (PL ((qQz y2) + (qQz (kZ ((y3 + 1) - y3) (kZ (qQv (rdZ a 1) y3) 0)))) 1000000) (Pm (PL (y3 + 1) 4611686018427387904) (∃ m', m' < m0 ∧ I1000 y0 y1 (catZ y2 (kZ ((y3 + 1) - y3) (kZ (qQv (rdZ a 1) y3) 0))) (y3 + 1) m'))))) (sq0 y2 y1 y3 y0 m0 I1000)) (sq0 y2 y1 y3 y0 m0 I1000)) ((y1 : Int) = (wrdN a) ∧ rowEq [.str] y0 (wrdC a) y1 ∧ True))
theorem holds (s0 : Int) (h_pre0 : qQx (decide ((qQz s0)  ≤  100000)) ≠ 0) : P s0 := by
 delta P sq0 Pb Pm PL Pl Pe Pd kZ
 have hl := qZu s0
 have hs := qZo s0
 simp only [nrm, Int.reduceEq, Int.reduceNeg, reduceIte, slen_cut] at h_pre0 ⊢
 refine ⟨fun q n w i m => 0 ≤ i ∧ i ≤ qQz s0 + 1 ∧ n ≤ i ∧ qQz w ≤ i ∧ m = (qQz s0 + 1 - i).toNat ∧ ∃ W, n = (W.length : Int) ∧ Tx q W ∧ (i ≤ qQz s0 → W ++ wgo (bytL w) ((bytL s0).drop i.toNat) = wrdL s0) ∧ (qQz s0 < i → W = wrdL s0),
  ⟨_, by omega, by omega, by omega, by rw [slen_0]; omega, rfl, [], rfl, Tx.nil _, fun _ => by rw [bytL_e]; rfl, fun h => by omega⟩, ?_⟩
 rintro q n w i m hb ⟨h0, h1, h2, h3, rfl, W, h4, h5, h6, h7⟩
 have hw := qZu w
 refine ⟨fun hi => ?_, fun hi => ?_⟩
 ·have h6 := h6 hi
  refine ⟨fun hlt => ?_, fun hge => ?_⟩
  ·have hd := qVz h0 hlt
   rw [hd] at h6
   have hc := cut_byte h0 hlt
   refine ⟨fun hne => ?_, fun heq => ?_⟩
   ·have hx : UInt8.ofNat (qQy s0 i).toNat ≠ 32 := fun e => hne ((byte_eq (c := 32) (by omega)).1 e)
    unfold wgo at h6
    rw [if_neg hx] at h6
    have hcat : bytL (catZ w (qQq (i + 1 - i) (qQq (qQv (rdZ s0 1) i) 0))) = bytL w ++ [UInt8.ofNat (qQy s0 i).toNat] := by
     rw [qKn (by rw [slen_cut]; unfold qQf; omega), hc]
    have hsl := qKt w (qQq (i + 1 - i) (qQq (qQv (rdZ s0 1) i) 0)) (by rw [slen_cut]; unfold qQf; omega)
    rw [slen_cut] at hsl
    refine ⟨fun _ => ⟨fun _ => ⟨fun _ => ⟨fun _ => ⟨_, ?_, by omega, by omega, by omega, by rw [hsl]; omega, rfl, W, h4, h5, fun _ => by rw [hcat]; exact h6, fun h => by omega⟩, fun h => ?_⟩, fun h => ?_⟩, fun h => ?_⟩, fun h => ?_⟩ <;> omega
   ·have hx : UInt8.ofNat (qQy s0 i).toNat = 32 := (byte_eq (c := 32) (by omega)).2 heq
    unfold wgo at h6
    rw [if_pos hx] at h6
    refine ⟨fun hne => ?_, fun he => ?_⟩
    ·have hn : bytL w ≠ [] := fun e => (byt_nil.2 e) hne
     rw [if_neg hn] at h6
     refine ⟨fun _ => ⟨fun _ => ⟨fun _ => ⟨_, ?_, by omega, by omega, by omega, by rw [slen_0]; omega, rfl, W ++ [bytL w], by simp; omega, Tx.snoc h5 h4 rfl, fun _ => by rw [bytL_e, List.append_assoc]; exact h6, fun h => by omega⟩, fun h => ?_⟩, fun h => ?_⟩, fun h => ?_⟩ <;> omega
    ·have hn : bytL w = [] := byt_nil.1 he
     rw [if_pos hn] at h6
     refine ⟨fun _ => ⟨_, ?_, by omega, by omega, by omega, by omega, rfl, W, h4, h5, fun _ => by rw [hn]; exact h6, fun h => by omega⟩, fun h => ?_⟩ <;> omega
  ·have hd : (bytL s0).drop i.toNat = [] := List.drop_of_length_le (by omega)
   rw [hd] at h6
   unfold wgo at h6
   refine ⟨fun hne => ?_, fun he => ?_⟩
   ·have hn : bytL w ≠ [] := fun e => (byt_nil.2 e) hne
    rw [if_neg hn] at h6
    refine ⟨fun _ => ⟨fun _ => ⟨fun _ => ⟨_, ?_, by omega, by omega, by omega, by rw [slen_0]; omega, rfl, W ++ [bytL w], by simp; omega, Tx.snoc h5 h4 rfl, fun h => by omega, fun _ => h6⟩, fun h => ?_⟩, fun h => ?_⟩, fun h => ?_⟩ <;> omega
   ·have hn : bytL w = [] := byt_nil.1 he
    rw [if_pos hn, List.append_nil] at h6
    refine ⟨fun _ => ⟨_, ?_, by omega, by omega, by omega, by omega, rfl, W, h4, h5, fun h => by omega, fun _ => h6⟩, fun h => ?_⟩ <;> omega
 ·have e := h7 (by omega)
  subst e
  exact ⟨h4, Tx.eq h5 (qKa s0) (by omega)⟩
theorem plain (i v ro p) : statR 2 rc tree ⟨i, fN, v, ro, p⟩ = P (i 0) := by kernel_rfl
theorem ran : ranR us (fun _ _ => .auto) rc 2 tree = true := by kernel_rfl
theorem fineT : fineR 2 rc tree = true := by kernel_rfl
theorem ok : RcOk (cxOf 2) rc := okR us_ok ran fineT okb fun i v ro p hρ hcap hpre => by rw [plain]; have q := hρ.hi; exact holds _ (hpre _ (mg 0 rfl))
end CRWords14
end Go.Proofs.YtppiabilakeadaaGreatDoor
