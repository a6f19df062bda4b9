/-
  The law ImageBack answers true at every input: the law is run by the engine (a symbolic run, proved sound), the tree of its answers, as a plain statement, is shown to hold. No condition.
-/
import Derived.Test.YtkjbmbmdmhfbeabDoorKa
import Derived.Test.YtkjbmbmdmhfbeabDoorKb
import Derived.Test.YtkjbmbmdmhfbeabDoorKc
import Derived.Test.YtkjbmbmdmhfbeabDoorGab
import Derived.Test.YtkjbmbmdmhfbeabDoorGp4
import Derived.WalkKit
import Derived.ProofKit
import Derived.OpenShut
import Derived.LaidMore
import Derived.Stop.Joined
import Derived.SevenTiedAt
import Derived.SizedLaws
import Derived.Lay
import Derived.Test.YtkjbmbmdmhfbeabDoorCards
import Derived.Test.YtkjbmbmdmhfbeabDoorTie
namespace Go.Proofs.YtkjbmbmdmhfbeabDoor.imageBack
open Go.ChangeShapes Go.WideShapes Go.ChangeAt Go.Eng Go.RowKit
set_option linter.unusedVariables false
set_option linter.unusedSimpArgs false
set_option maxRecDepth 100000
def rc : Rc := ⟨3, [some 5, none], [.row [.int .u32] 140737488355328, .row [.int .i32] 140737488355328, .row [.bool] 140737488355328, .row [.int .i64] 140737488355328, .row [.int .i64] 140737488355328, .row [.int .u8] 140737488355328], [], .one, [.bool (.c 1)]⟩
theorem okb : rc.ok = true := by kernel_rfl
noncomputable def us : SMs := fun Γ ins n => smH (cxG n Γ ins) [] (smR (cxG n Γ ins) [CAwake22.rc, CIPut.rc, CIGet.rc, CICheck.rc, CRWords.rc, CRSame15.rc, CRBools.rc, CRSame17.rc])
theorem us_ok : SMsOk us := fun Γ ins n => qXi (tabsG n Γ ins) (qJf _) (qXd (tabsG n Γ ins) (qQs CAwake22.okb (rc_n CAwake22.ok) (qQs CIPut.okb (rc_n CIPut.ok) (qQs CIGet.okb (rc_n CIGet.ok) (qQs CICheck.okb (rc_n CICheck.ok) (qQs CRWords.okb (rc_n CRWords.ok) (qQs CRSame15.okb (rc_n CRSame15.ok) (qQs CRBools.okb (rc_n CRBools.ok) (qQs CRSame17.okb (rc_n CRSame17.ok) (qJh _))))))))))
def Q0 : E := (tC (.v 10) (.c 0))
def Q1 : E := (tC (.v 9) Q0)
def Q2 : E := (tC (.v 4) Q1)
def Q3 : E := (tC (.v 3) Q2)
def Q4 : E := (tC (.v 2) Q3)
def Q5 : E := (.f 84 (.v 0) (.v 1) Q4)
def Q6 : E := (te Q5 (.c 0))
def Q7 : E := (tC (.v 4) (.c 0))
def Q8 : E := (tC (.v 3) Q7)
def Q9 : E := (.f 124 (.v 0) (.v 1) Q8)
def Q10 : E := (.ite Q6 Q9 (.c 0))
def Q11 : E := (tC (.v 8) Q1)
def Q12 : E := (tC (.v 7) Q11)
def Q13 : E := (tC (.v 6) Q12)
def Q14 : E := (tC (.v 4) Q13)
def Q15 : E := (tC (.v 3) Q14)
def Q16 : E := (.f 125 (.v 0) (.v 1) Q15)
def Q17 : E := (.f 127 Q16 Q10 (.c 0))
def Q18 : E := (.f 127 Q16 Q10 (.c 1))
def Q19 : E := (.f 127 Q16 Q10 (.c 2))
def Q20 : E := (.f 127 Q16 Q10 (.c 3))
def Q21 : E := (.f 127 Q16 Q10 (.c 4))
def Q22 : E := (tl (.v 5) (.c 900000))
def Q23 : E := (.f 126 (.v 11) (.v 5) (.c 0))
def Q24 : E := (tn Q23 (.c 0))
def Q25 : E := (.f 127 (.v 11) (.v 5) (.c 0))
def Q26 : E := (tl (.c 0) Q25)
def Q27 : E := (tl Q25 (.c 1000000))
def Q28 : E := (te Q25 (.c 0))
def Q29 : E := (.f 128 (.v 11) (.c 0) (.c 0))
def Q30 : E := (.f 72 Q29 (.c 0) Q25)
def Q31 : E := (.ite Q28 Q30 (.c 0))
def Q32 : E := (.f 127 (.v 11) (.v 5) (.c 1))
def Q33 : E := (tl (.c 0) Q32)
def Q34 : E := (tl Q32 (.c 1000000))
def Q35 : E := (te Q32 (.c 0))
def Q36 : E := (.f 128 (.v 11) (.c 1) (.c 0))
def Q37 : E := (.f 72 Q36 (.c 0) Q32)
def Q38 : E := (.ite Q35 Q37 (.c 0))
def Q39 : E := (.f 127 (.v 11) (.v 5) (.c 2))
def Q40 : E := (tl (.c 0) Q39)
def Q41 : E := (tl Q39 (.c 1000000))
def Q42 : E := (te Q39 (.c 0))
def Q43 : E := (.f 128 (.v 11) (.c 2) (.c 0))
def Q44 : E := (.f 62 Q43 (.c 0) Q39)
def Q45 : E := (.ite Q42 Q44 (.c 0))
def Q46 : E := (.f 127 (.v 11) (.v 5) (.c 3))
def Q47 : E := (tl (.c 0) Q46)
def Q48 : E := (tl Q46 (.c 1000000))
def Q49 : E := (te Q46 (.c 0))
def Q50 : E := (.f 128 (.v 11) (.c 3) (.c 0))
def Q51 : E := (.f 32 Q50 (.c 0) Q46)
def Q52 : E := (.ite Q49 Q51 (.c 0))
def Q53 : E := (.f 127 (.v 11) (.v 5) (.c 4))
def Q54 : E := (tl (.c 0) Q53)
def Q55 : E := (tl Q53 (.c 1000000))
def Q56 : E := (te Q53 (.c 0))
def Q57 : E := (.f 128 (.v 11) (.c 4) (.c 0))
def Q58 : E := (.f 32 Q57 (.c 0) Q53)
def Q59 : E := (.ite Q56 Q58 (.c 0))
def Q60 : E := (tC Q57 (.c 0))
def Q61 : E := (tC Q50 Q60)
def Q62 : E := (tC Q53 Q61)
def Q63 : E := (tC Q46 Q62)
def Q64 : E := (tC Q39 Q63)
def Q65 : E := (.f 84 Q25 Q32 Q64)
def Q66 : E := (te Q65 (.c 0))
def Q67 : E := (tC Q53 (.c 0))
def Q68 : E := (tC Q46 Q67)
def Q69 : E := (.f 124 Q25 Q32 Q68)
def Q70 : E := (.ite Q66 Q69 (.c 0))
def Q71 : E := (tl (.c 0) Q70)
def Q72 : E := (tl Q70 (.c 1000000))
def Q73 : E := (tl (.v 5) (.c 1000000))
def Q74 : E := (tC Q43 Q61)
def Q75 : E := (tC Q36 Q74)
def Q76 : E := (tC Q29 Q75)
def Q77 : E := (tC Q53 Q76)
def Q78 : E := (tC Q46 Q77)
def Q79 : E := (.f 125 Q25 Q32 Q78)
def Q80 : E := (tC Q79 (.c 0))
def Q81 : E := (tC Q70 Q80)
def Q82 : E := (tC (.v 11) (.c 0))
def Q83 : E := (tC (.v 5) Q82)
def Q84 : E := (.f 20 Q81 Q83 (.c 0))
def tree : TT (List E) :=
 (.br (tl (.v 0) (.c 200)) (.br (tl (.v 1) (.c 2100)) (.br (tl (.v 2) (.c 2100)) (.br (tl (.v 3) (.c 300)) (.br (.nt (tl (.v 4) (.c 300))) (.leaf [(.c 1)]) (.br (tk (.c 3000) (.v 5)) (.leaf [(.c 1)]) (.br (tl (.v 0) (.c 1000000)) (.br (tl (.v 1) (.c 1000000)) (.br (tl (.v 2) (.c 1000000)) (.br (tl (.v 3) (.c 1000000)) (.br (tl (.v 4) (.c 1000000)) (.br (tl (.v 0) (.v 12)) (.br (tl (.v 1) (.v 13)) (.br (tl (.v 2) (.v 14)) (.br (tl (.v 3) (.v 15)) (.br (tl (.v 4) (.v 16)) (.new 1000 Q5 (.br (te (.cl 1000 0 9) (.c 0)) (.br (tl (.c 0) Q10) (.br (tl Q10 (.c 900000)) (.new 1001 (.f 126 Q16 Q10 (.c 0)) (.br (tn (.cl 1001 0 9) (.c 0)) (.leaf [(.c 0)]) (.br (tl (.c 0) Q17) (.br (tl Q17 (.c 1000000)) (.new 1002 (.ite (te Q17 (.v 0)) (.f 72 (.f 128 Q16 (.c 0) (.c 0)) (.v 6) Q17) (.c 0)) (.br (.cl
 1002 0 1) (.br (tl (.c 0) Q18) (.br (tl Q18 (.c 1000000)) (.new 1003 (.ite (te Q18 (.v 1)) (.f 72 (.f 128 Q16 (.c 1) (.c 0)) (.v 7) Q18) (.c 0)) (.br (.cl 1003 0 1) (.br (tl (.c 0) Q19) (.br (tl Q19 (.c 1000000)) (.br (.ite (te Q19 (.v 2)) (.f 62 (.f 128 Q16 (.c 2) (.c 0)) (.v 8) Q19) (.c 0)) (.br (tl (.c 0) Q20) (.br (tl Q20 (.c 1000000)) (.new 1004 (.ite (te Q20 (.v 3)) (.f 32 (.f 128 Q16 (.c 3) (.c 0)) (.v 9) Q20) (.c 0)) (.br (.cl 1004 0 1) (.br (tl (.c 0) Q21) (.br (tl Q21 (.c 1000000)) (.new 1005 (.ite (te Q21 (.v 4)) (.f 32 (.f 128 Q16 (.c 4) (.c 0)) (.v 10) Q21) (.c 0)) (.br (.nt (.cl 1005 0 1)) (.leaf [(.c 0)]) (.br Q22 (.br (tl (.v 5) (.v 17)) (.br Q24 (.br Q26 (.br Q27 (.new 1006 Q31 (.br (.cl 1006 0 1) (.br Q33 (.br Q34 (.new 1007 Q38 (.br (.cl 1007 0 1) (.br Q40 (.br Q41
 (.br Q45 (.br Q47 (.br Q48 (.new 1008 Q52 (.br (.cl 1008 0 1) (.br Q54 (.br Q55 (.new 1009 Q59 (.br (.cl 1009 0 1) (.leaf [(.c 1)]) (.leaf [(.c 0)]))) (.bad 200)) (.bad 200)) (.leaf [(.c 0)]))) (.bad 200)) (.bad 200)) (.leaf [(.c 0)])) (.bad 200)) (.bad 200)) (.leaf [(.c 0)]))) (.bad 200)) (.bad 200)) (.leaf [(.c 0)]))) (.bad 200)) (.bad 200)) (.br Q26 (.br Q27 (.br Q33 (.br Q34 (.br Q40 (.br Q41 (.br Q47 (.br Q48 (.br Q54 (.br Q55 (.new 1006 Q65 (.br (te (.cl 1006 0 9) (.c 0)) (.br Q71 (.br Q72 (.br Q73 (.br Q84 (.leaf [(.c 1)]) (.leaf [(.c 0)])) (.bad 200)) (.bad 200)) (.bad 200)) (.leaf [(.c 0)]))) (.bad 200)) (.bad 200)) (.bad 200)) (.bad 200)) (.bad 200)) (.bad 200)) (.bad 200)) (.bad 200)) (.bad 200)) (.bad 200))) (.bad 200)) (.bad 200)))) (.bad 200)) (.bad 200)) (.leaf [(.c 0)])))
 (.bad 200)) (.bad 200)) (.leaf [(.c 0)])) (.bad 200)) (.bad 200)) (.leaf [(.c 0)]))) (.bad 200)) (.bad 200)) (.leaf [(.c 0)]))) (.bad 200)) (.bad 200)))) (.bad 200)) (.bad 200)) (.br Q22 (.br (tl (.v 5) (.v 17)) (.br Q24 (.br Q26 (.br Q27 (.new 1001 Q31 (.br (.cl 1001 0 1) (.br Q33 (.br Q34 (.new 1002 Q38 (.br (.cl 1002 0 1) (.br Q40 (.br Q41 (.br Q45 (.br Q47 (.br Q48 (.new 1003 Q52 (.br (.cl 1003 0 1) (.br Q54 (.br Q55 (.new 1004 Q59 (.br (.cl 1004 0 1) (.leaf [(.c 1)]) (.leaf [(.c 0)]))) (.bad 200)) (.bad 200)) (.leaf [(.c 0)]))) (.bad 200)) (.bad 200)) (.leaf [(.c 0)])) (.bad 200)) (.bad 200)) (.leaf [(.c 0)]))) (.bad 200)) (.bad 200)) (.leaf [(.c 0)]))) (.bad 200)) (.bad 200)) (.br Q26 (.br Q27 (.br Q33 (.br Q34 (.br Q40 (.br Q41 (.br Q47 (.br Q48 (.br Q54 (.br Q55 (.new 1001 Q65
 (.br (te (.cl 1001 0 9) (.c 0)) (.br Q71 (.br Q72 (.br Q73 (.br Q84 (.leaf [(.c 1)]) (.leaf [(.c 0)])) (.bad 200)) (.bad 200)) (.bad 200)) (.leaf [(.c 0)]))) (.bad 200)) (.bad 200)) (.bad 200)) (.bad 200)) (.bad 200)) (.bad 200)) (.bad 200)) (.bad 200)) (.bad 200)) (.bad 200))) (.bad 200)) (.bad 200)))) (.bad 200)) (.bad 200)) (.bad 200)) (.bad 200)) (.bad 200)) (.bad 200)) (.bad 200)) (.bad 200)) (.bad 200)) (.bad 200)))) (.leaf [(.c 1)])) (.leaf [(.c 1)])) (.leaf [(.c 1)])) (.leaf [(.c 1)]))

noncomputable def sq0 (a b c d e j k : Int) : Int := (iteZ (Pe (chkZ a b (kZ c (kZ d (kZ e (kZ j (kZ k 0)))))) 0) (putN a b (kZ d (kZ e 0))) 0)
noncomputable def sq1 (a b d e g h i j k : Int) : Int := (putZ a b (kZ d (kZ e (kZ g (kZ h (kZ i (kZ j (kZ k 0))))))))
noncomputable def sq2 (l f : Int) : Int := (iteZ (Pe (chkZ (gtN l f 0) (gtN l f 1) (kZ (gtN l f 2) (kZ (gtN l f 3) (kZ (gtN l f 4) (kZ (gtC l 3) (kZ (gtC l 4) 0)))))) 0) (putN (gtN l f 0) (gtN l f 1) (kZ (gtN l f 3) (kZ (gtN l f 4) 0))) 0)
def sq3 (l f : Int) : Prop := (Pm (PL 0 (sq2 l f)) (Pm (PL (sq2 l f) 1000000) (Pm (PL f 1000000) (Pb (seqZ (kZ (sq2 l f) (kZ (putZ (gtN l f 0) (gtN l f 1) (kZ (gtN l f 3) (kZ (gtN l f 4) (kZ (gtC l 0) (kZ (gtC l 1) (kZ (gtC l 2) (kZ (gtC l 3) (kZ (gtC l 4) 0)))))))) 0)) (kZ f (kZ l 0))) Pt Pf))))
def P (a b c d e f g h i j k l n o p q r s : Int) : Prop :=
 (Pb (PL a 200) (Pb (PL b 2100) (Pb (PL c 2100) (Pb (PL d 300) (Pb (Pe (PL e 300) 0) Pt (Pb (Pl 3000 f) Pt (Pm (PL a 1000000) (Pm (PL b 1000000) (Pm (PL c 1000000) (Pm (PL d 1000000) (Pm (PL e 1000000) (Pm (PL a n) (Pm (PL b o) (Pm (PL c p) (Pm (PL d q) (Pm (PL e r) (Pn (chkZ a b (kZ c (kZ d (kZ e (kZ j (kZ k 0)))))) 0 9 fun y0 => (Pb (Pe y0 0) (Pm (PL 0 (sq0 a b c d e j k)) (Pm (PL (sq0 a b c d e j k) 900000) (Pn (gtE (sq1 a b d e g h i j k) (sq0 a b c d e j k)) 0 9 fun y1 => (Pb (Pd y1 0) Pf (Pm (PL 0 (gtN (sq1 a b d e g h i j k) (sq0 a b c d e j k) 0)) (Pm (PL (gtN (sq1 a b d e g h i j k) (sq0 a b c d e j k) 0) 1000000) (Pn (iteZ (Pe (gtN (sq1 a b d e g h i j k) (sq0 a b c d e j k) 0) a) (qJq (gtC (sq1 a b d e g h i j k) 0) g (gtN (sq1 a b d e g h i j k) (sq0 a b c d e j k) 0)) 0) 0
 1 fun y2 => (Pb y2 (Pm (PL 0 (gtN (sq1 a b d e g h i j k) (sq0 a b c d e j k) 1)) (Pm (PL (gtN (sq1 a b d e g h i j k) (sq0 a b c d e j k) 1) 1000000) (Pn (iteZ (Pe (gtN (sq1 a b d e g h i j k) (sq0 a b c d e j k) 1) b) (qJq (gtC (sq1 a b d e g h i j k) 1) h (gtN (sq1 a b d e g h i j k) (sq0 a b c d e j k) 1)) 0) 0 1 fun y3 => (Pb y3 (Pm (PL 0 (gtN (sq1 a b d e g h i j k) (sq0 a b c d e j k) 2)) (Pm (PL (gtN (sq1 a b d e g h i j k) (sq0 a b c d e j k) 2) 1000000) (Pb (iteZ (Pe (gtN (sq1 a b d e g h i j k) (sq0 a b c d e j k) 2) c) (sameB (gtC (sq1 a b d e g h i j k) 2) i (gtN (sq1 a b d e g h i j k) (sq0 a b c d e j k) 2)) 0) (Pm (PL 0 (gtN (sq1 a b d e g h i j k) (sq0 a b c d e j k) 3)) (Pm (PL (gtN (sq1 a b d e g h i j k) (sq0 a b c d e j k) 3) 1000000) (Pn (iteZ (Pe (gtN (sq1 a b d
 e g h i j k) (sq0 a b c d e j k) 3) d) (qXm (gtC (sq1 a b d e g h i j k) 3) j (gtN (sq1 a b d e g h i j k) (sq0 a b c d e j k) 3)) 0) 0 1 fun y4 => (Pb y4 (Pm (PL 0 (gtN (sq1 a b d e g h i j k) (sq0 a b c d e j k) 4)) (Pm (PL (gtN (sq1 a b d e g h i j k) (sq0 a b c d e j k) 4) 1000000) (Pn (iteZ (Pe (gtN (sq1 a b d e g h i j k) (sq0 a b c d e j k) 4) e) (qXm (gtC (sq1 a b d e g h i j k) 4) k (gtN (sq1 a b d e g h i j k) (sq0 a b c d e j k) 4)) 0) 0 1 fun y5 => (Pb (Pe y5 0) Pf (Pm (PL f 900000) (Pm (PL f s) (Pb (Pd (gtE l f) 0) (Pm (PL 0 (gtN l f 0)) (Pm (PL (gtN l f 0) 1000000) (Pn (iteZ (Pe (gtN l f 0) 0) (qJq (gtC l 0) 0 (gtN l f 0)) 0) 0 1 fun y6 => (Pb y6 (Pm (PL 0 (gtN l f 1)) (Pm (PL (gtN l f 1) 1000000) (Pn (iteZ (Pe (gtN l f 1) 0) (qJq (gtC l 1) 0 (gtN l f 1)) 0) 0 1 fun
 y7 => (Pb y7 (Pm (PL 0 (gtN l f 2)) (Pm (PL (gtN l f 2) 1000000) (Pb (iteZ (Pe (gtN l f 2) 0) (sameB (gtC l 2) 0 (gtN l f 2)) 0) (Pm (PL 0 (gtN l f 3)) (Pm (PL (gtN l f 3) 1000000) (Pn (iteZ (Pe (gtN l f 3) 0) (qXm (gtC l 3) 0 (gtN l f 3)) 0) 0 1 fun y8 => (Pb y8 (Pm (PL 0 (gtN l f 4)) (Pm (PL (gtN l f 4) 1000000) (Pn (iteZ (Pe (gtN l f 4) 0) (qXm (gtC l 4) 0 (gtN l f 4)) 0) 0 1 fun y9 => (Pb y9 Pt Pf)))) Pf)))) Pf))) Pf)))) Pf)))) (Pm (PL 0 (gtN l f 0)) (Pm (PL (gtN l f 0) 1000000) (Pm (PL 0 (gtN l f 1)) (Pm (PL (gtN l f 1) 1000000) (Pm (PL 0 (gtN l f 2)) (Pm (PL (gtN l f 2) 1000000) (Pm (PL 0 (gtN l f 3)) (Pm (PL (gtN l f 3) 1000000) (Pm (PL 0 (gtN l f 4)) (Pm (PL (gtN l f 4) 1000000) (Pn (chkZ (gtN l f 0) (gtN l f 1) (kZ (gtN l f 2) (kZ (gtN l f 3) (kZ (gtN l f 4) (kZ (gtC l 3)
 (kZ (gtC l 4) 0)))))) 0 9 fun y6 => (Pb (Pe y6 0) (sq3 l f) Pf))))))))))))))))))) Pf)))) Pf))) Pf)))) Pf)))))))) (Pm (PL f 900000) (Pm (PL f s) (Pb (Pd (gtE l f) 0) (Pm (PL 0 (gtN l f 0)) (Pm (PL (gtN l f 0) 1000000) (Pn (iteZ (Pe (gtN l f 0) 0) (qJq (gtC l 0) 0 (gtN l f 0)) 0) 0 1 fun y1 => (Pb y1 (Pm (PL 0 (gtN l f 1)) (Pm (PL (gtN l f 1) 1000000) (Pn (iteZ (Pe (gtN l f 1) 0) (qJq (gtC l 1) 0 (gtN l f 1)) 0) 0 1 fun y2 => (Pb y2 (Pm (PL 0 (gtN l f 2)) (Pm (PL (gtN l f 2) 1000000) (Pb (iteZ (Pe (gtN l f 2) 0) (sameB (gtC l 2) 0 (gtN l f 2)) 0) (Pm (PL 0 (gtN l f 3)) (Pm (PL (gtN l f 3) 1000000) (Pn (iteZ (Pe (gtN l f 3) 0) (qXm (gtC l 3) 0 (gtN l f 3)) 0) 0 1 fun y3 => (Pb y3 (Pm (PL 0 (gtN l f 4)) (Pm (PL (gtN l f 4) 1000000) (Pn (iteZ (Pe (gtN l f 4) 0) (qXm (gtC l 4) 0 (gtN l
 f 4)) 0) 0 1 fun y4 => (Pb y4 Pt Pf)))) Pf)))) Pf))) Pf)))) Pf)))) (Pm (PL 0 (gtN l f 0)) (Pm (PL (gtN l f 0) 1000000) (Pm (PL 0 (gtN l f 1)) (Pm (PL (gtN l f 1) 1000000) (Pm (PL 0 (gtN l f 2)) (Pm (PL (gtN l f 2) 1000000) (Pm (PL 0 (gtN l f 3)) (Pm (PL (gtN l f 3) 1000000) (Pm (PL 0 (gtN l f 4)) (Pm (PL (gtN l f 4) 1000000) (Pn (chkZ (gtN l f 0) (gtN l f 1) (kZ (gtN l f 2) (kZ (gtN l f 3) (kZ (gtN l f 4) (kZ (gtC l 3) (kZ (gtC l 4) 0)))))) 0 9 fun y1 => (Pb (Pe y1 0) (sq3 l f) Pf))))))))))))))))))))))))))))) Pt) Pt) Pt) Pt)

theorem holds (n0_0 n0_1 n0_2 n0_3 n0_4 n1 c0_0 c0_1 c0_2 c0_3 c0_4 c1 r0_0 r0_1 r0_2 r0_3 r0_4 r1 : Int) (l_n0_0 : 0 ≤ n0_0) (u_n0_0 : n0_0 ≤ 140737488355328) (l_n0_1 : 0 ≤ n0_1) (u_n0_1 : n0_1 ≤ 140737488355328) (l_n0_2 : 0 ≤ n0_2) (u_n0_2 : n0_2 ≤ 140737488355328) (l_n0_3 : 0 ≤ n0_3) (u_n0_3 : n0_3 ≤ 140737488355328) (l_n0_4 : 0 ≤ n0_4) (u_n0_4 : n0_4 ≤ 140737488355328) (l_n1 : 0 ≤ n1) (u_n1 : n1 ≤ 140737488355328) (h_n0_0 : n0_0 ≤ r0_0) (h_n0_1 : n0_1 ≤ r0_1) (h_n0_2 : n0_2 ≤ r0_2) (h_n0_3 : n0_3 ≤ r0_3) (h_n0_4 : n0_4 ≤ r0_4) (h_n1 : n1 ≤ r1) : P n0_0 n0_1 n0_2 n0_3 n0_4 n1 c0_0 c0_1 c0_2 c0_3 c0_4 c1 r0_0 r0_1 r0_2 r0_3 r0_4 r1 := by
  delta P sq0 sq1 sq2 sq3 Pb Pm Pn Pf Pt PL Pl Pe Pd kZ
  simp only [nrm, nro, Int.reduceEq, Int.reduceNeg, reduceIte]
  simp only [chk_ev, putN_ev, putZ_ev]
  have hw : ∀ c d : Int, ¬ qJq c d 0 = 0 := fun c d => by rw [sameW_one fun j h0 h1 => by omega]; decide
  have hb : ∀ c d : Int, ¬ sameB c d 0 = 0 := fun c d => by unfold sameB; rw [if_pos fun i hi => by omega]; decide
  have hz : ∀ c d : Int, ¬ qXm c d 0 = 0 := fun c d => (sameZ_iff c d 0).2 fun i hi => by omega
  refine ⟨fun a0 => ⟨fun a1 => ⟨fun a2 => ⟨fun a3 => ⟨fun _ => trivial, fun a4 => ⟨fun _ => trivial, fun a5 => ⟨by omega, by omega, by omega, by omega, by omega, by omega, by omega, by omega, by omega, by omega, ?_⟩⟩⟩, fun _ => trivial⟩, fun _ => trivial⟩, fun _ => trivial⟩, fun _ => trivial⟩
  rintro y0 h0 _
  refine ⟨fun hc => ?_, fun _ => ?_⟩
  case refine_2 =>
    refine ⟨by omega, by omega, fun e => ?_, fun e => ?_⟩
    · have z : ∀ k, gtN c1 n1 k = 0 := gtN_bad e
      simp only [z, if_true]
      refine ⟨by decide, by decide, ?_⟩
      rintro _ rfl _
      refine ⟨hw _ _, by decide, by decide, ?_⟩
      rintro _ rfl _
      refine ⟨hw _ _, by decide, by decide, hb _ _, by decide, by decide, ?_⟩
      rintro _ rfl _
      refine ⟨hz _ _, by decide, by decide, ?_⟩
      rintro _ rfl _
      exact hz _ _
    · obtain ⟨k0, k1, k2⟩ := get_put e
      have z0 : gtN c1 n1 0 = gnC c1 := qJm e 0
      have z1 : gtN c1 n1 1 = gnD c1 := qJm e 1
      have z2 : gtN c1 n1 2 = gnD c1 := qJm e 2
      have z3 : gtN c1 n1 3 = gnI c1 := qJm e 3
      have z4 : gtN c1 n1 4 = gnO c1 := qJm e 4
      have := gnC_bd c1; have := gnD_bd c1; have := gnI_bd c1; have := gnO_bd c1
      simp only [z0, z1, z2, z3, z4, k0, if_true]
      refine ⟨by omega, by omega, by omega, by omega, by omega, by omega, by omega, by omega, by omega, by omega, ?_⟩
      rintro y hy _
      refine ⟨hy, by omega, by omega, by omega, (seq_row (by omega) (by omega) (by omega) (by omega)).2 ⟨k1, fun i hi => k2 i (by omega)⟩⟩
  rw [hc] at h0
  have hchk := h0.symm
  obtain ⟨_, _, _, _, hS, _⟩ := chk_zero hchk
  subst hS
  have hp : 0 ≤ pN n0_0 n0_2 n0_3 n0_4 ∧ pN n0_0 n0_2 n0_3 n0_4 ≤ 100000 := by unfold pN; omega
  obtain ⟨pE, p0, p1, p2, p3, p4, q0, q1, q2, q3, q4⟩ := put_get (cC := c0_0) (cD := c0_1) (cS := c0_2) (cI := c0_3) (cO := c0_4) hchk l_n0_0 l_n0_1 l_n0_3 l_n0_4
  simp only [hchk, if_true]
  simp only [pE, p0, p1, p2, p3, p4, if_true]
  refine ⟨by omega, by omega, ?_⟩
  rintro y1 rfl _
  refine ⟨fun g => absurd rfl g, fun _ => ⟨by omega, by omega, ?_⟩⟩
  have s0 : qJq (gtC (slcZ (pC n0_0 n0_2 n0_3 n0_4 c0_0 c0_1 c0_2 c0_3 c0_4) (pN n0_0 n0_2 n0_3 n0_4)) 0) c0_0 n0_0 = 1 := sameW_one fun j h0 h1 => by
    have := q0 j.toNat (by omega)
    rw [Int.toNat_of_nonneg h0] at this
    rw [this]; exact Go.Eng.wrap_wrap .i32 .u32 _ (by decide)
  have s1 : qJq (gtC (slcZ (pC n0_0 n0_2 n0_3 n0_4 c0_0 c0_1 c0_2 c0_3 c0_4) (pN n0_0 n0_2 n0_3 n0_4)) 1) c0_1 n0_2 = 1 := sameW_one fun j h0 h1 => by
    have := q1 j.toNat (by omega)
    rw [Int.toNat_of_nonneg h0] at this
    rw [this]; exact Go.Eng.wrap_wrap .i32 .i32 _ (by decide)
  have s2 : ¬ sameB (gtC (slcZ (pC n0_0 n0_2 n0_3 n0_4 c0_0 c0_1 c0_2 c0_3 c0_4) (pN n0_0 n0_2 n0_3 n0_4)) 2) c0_2 n0_2 = 0 := by
    unfold sameB; rw [if_pos fun i hi => q2 i hi]; decide
  have s3 : ¬ qXm (gtC (slcZ (pC n0_0 n0_2 n0_3 n0_4 c0_0 c0_1 c0_2 c0_3 c0_4) (pN n0_0 n0_2 n0_3 n0_4)) 3) c0_3 n0_3 = 0 := (sameZ_iff _ _ _).2 fun i hi => by rw [q3 i hi, w64_id]
  have s4 : ¬ qXm (gtC (slcZ (pC n0_0 n0_2 n0_3 n0_4 c0_0 c0_1 c0_2 c0_3 c0_4) (pN n0_0 n0_2 n0_3 n0_4)) 4) c0_4 n0_4 = 0 := (sameZ_iff _ _ _).2 fun i hi => by rw [q4 i hi, w64_id]
  rintro _ rfl _
  refine ⟨by rw [s0]; decide, by omega, by omega, ?_⟩
  rintro _ rfl _
  refine ⟨by rw [s1]; decide, by omega, by omega, s2, by omega, by omega, ?_⟩
  rintro _ rfl _
  refine ⟨s3, by omega, by omega, ?_⟩
  rintro _ rfl _
  refine ⟨fun g => s4 g, fun _ => ?_⟩
  refine ⟨by omega, by omega, fun e => ?_, fun e => ?_⟩
  · have z : ∀ k, gtN c1 n1 k = 0 := gtN_bad e
    simp only [z, if_true]
    refine ⟨by decide, by decide, ?_⟩
    rintro _ rfl _
    refine ⟨hw _ _, by decide, by decide, ?_⟩
    rintro _ rfl _
    refine ⟨hw _ _, by decide, by decide, hb _ _, by decide, by decide, ?_⟩
    rintro _ rfl _
    refine ⟨hz _ _, by decide, by decide, ?_⟩
    rintro _ rfl _
    exact hz _ _
  · obtain ⟨k0, k1, k2⟩ := get_put e
    have z0 : gtN c1 n1 0 = gnC c1 := qJm e 0
    have z1 : gtN c1 n1 1 = gnD c1 := qJm e 1
    have z2 : gtN c1 n1 2 = gnD c1 := qJm e 2
    have z3 : gtN c1 n1 3 = gnI c1 := qJm e 3
    have z4 : gtN c1 n1 4 = gnO c1 := qJm e 4
    have := gnC_bd c1; have := gnD_bd c1; have := gnI_bd c1; have := gnO_bd c1
    simp only [z0, z1, z2, z3, z4, k0, if_true]
    refine ⟨by omega, by omega, by omega, by omega, by omega, by omega, by omega, by omega, by omega, by omega, ?_⟩
    rintro y hy _
    refine ⟨hy, by omega, by omega, by omega, (seq_row (by omega) (by omega) (by omega) (by omega)).2 ⟨k1, fun i hi => k2 i (by omega)⟩⟩

theorem plain (i v ro p) : statR 2 rc tree ⟨i, fN, v, ro, p⟩ = P (i 0) (i 1) (i 2) (i 3) (i 4) (i 5) (i 6) (i 7) (i 8) (i 9) (i 10) (i 11) (i 12) (i 13) (i 14) (i 15) (i 16) (i 17) := by kernel_rfl
theorem ran : ranR us (fun _ _ => .auto) rc 2 tree = true := by kernel_rfl
theorem fineT : fineR 2 rc tree = true := by kernel_rfl
theorem ok : RcOk (cxOf 2) rc := okR us_ok ran fineT okb fun i v ro p hρ hcap hpre => by rw [plain]; have q := hρ.hi; exact holds _ _ _ _ _ _ _ _ _ _ _ _ _ _ _ _ _ _ (q 0 _ rfl).1 (q 0 _ rfl).2 (q 1 _ rfl).1 (q 1 _ rfl).2 (q 2 _ rfl).1 (q 2 _ rfl).2 (q 3 _ rfl).1 (q 3 _ rfl).2 (q 4 _ rfl).1 (q 4 _ rfl).2 (q 5 _ rfl).1 (q 5 _ rfl).2 (hcap _ (mg 0 rfl)) (hcap _ (mg 1 rfl)) (hcap _ (mg 2 rfl)) (hcap _ (mg 3 rfl)) (hcap _ (mg 4 rfl)) (hcap _ (mg 5 rfl))
theorem laidMet_tail {P : Program} {x : String × DataW Unit} {rest : List (String × DataW Unit)} {W : World} (h : laidMet P (x :: rest) W) : laidMet P rest W := by
  obtain ⟨ps, hl, hn, hf⟩ := h
  obtain ⟨n, d⟩ := x
  obtain ⟨g, t, cs, fuel, p, q, _, _, _, _, hq, rfl⟩ := hl
  exact ⟨q, hq, (List.nodup_append.1 hn).2.1, fun b off hm => hf b off (List.mem_append_right _ hm)⟩
theorem listE_LZ (P : Program) (l : List Int) (ro : List RO) : ∀ zs : List Int, (qZw (zs.map E.c)).ev (envR P l ro) = LZ zs
  | [] => rfl
  | z :: zs => by
    have h : (qZw ((z :: zs).map E.c)).ev (envR P l ro) = qQj z ((qZw (zs.map E.c)).ev (envR P l ro)) := rfl
    rw [h, listE_LZ P l ro zs]
    unfold qQj
    rw [ZL_LZ]
def tab0 : List Int := [0, 4129, 8258, 12387, 16516, 20645, 24774, 28903, 33032, 37161, 41290, 45419, 49548, 53677, 57806, 61935]
theorem tabG0 : Tryd.prog.globalNamed "astrolabe/crc.four" = some 0 := by kernel_rfl
theorem tabW0 : ∀ z ∈ tab0, IntKind.wrap .i32 z = z := fun z hz => by
  have h := List.all_eq_true.1 (show tab0.all (fun z => decide (IntKind.wrap .i32 z = z)) = true by kernel_rfl) z hz
  simpa using h
theorem tabIs0 {W : World} (h : laidMetH Tryd.prog Rows.imageBackRow.laid W) : Lib.TabIs Tryd.prog W "astrolabe/crc.four" .i32 tab0 := by
  rw [MakeChecks.laidMetH_plain _ _ _ (by kernel_rfl)] at h
  exact Lib.tabIs_of_head tabG0 (t := 91) (e := 21) (n := 16) (by kernel_rfl) (by kernel_rfl) (by kernel_rfl) (by kernel_rfl) (by kernel_rfl) h

theorem walk (w : World) (a0_0 : RO) (k0_0 : a0_0.cks = [.int .u32]) (n0_0 : a0_0.a = none → a0_0.n = 0) (m0_0 : a0_0.n ≤ a0_0.cap) (t0_0 : RoAt w a0_0) (b0_0 : (a0_0.n : Int) ≤ 140737488355328) (a0_1 : RO) (k0_1 : a0_1.cks = [.int .i32]) (n0_1 : a0_1.a = none → a0_1.n = 0) (m0_1 : a0_1.n ≤ a0_1.cap) (t0_1 : RoAt w a0_1) (b0_1 : (a0_1.n : Int) ≤ 140737488355328) (a0_2 : RO) (k0_2 : a0_2.cks = [.bool]) (n0_2 : a0_2.a = none → a0_2.n = 0) (m0_2 : a0_2.n ≤ a0_2.cap) (t0_2 : RoAt w a0_2) (b0_2 : (a0_2.n : Int) ≤ 140737488355328) (a0_3 : RO) (k0_3 : a0_3.cks = [.int .i64]) (n0_3 : a0_3.a = none → a0_3.n = 0) (m0_3 : a0_3.n ≤ a0_3.cap) (t0_3 : RoAt w a0_3) (b0_3 : (a0_3.n : Int) ≤ 140737488355328) (a0_4 : RO) (k0_4 : a0_4.cks = [.int .i64]) (n0_4 : a0_4.a = none → a0_4.n = 0) (m0_4 : a0_4.n ≤ a0_4.cap) (t0_4 : RoAt w a0_4) (b0_4 : (a0_4.n : Int) ≤ 140737488355328) (a1 : RO) (k1 : a1.cks = [.int .u8]) (n1 : a1.a = none → a1.n = 0) (m1 : a1.n ≤ a1.cap) (t1 : RoAt w a1) (b1 : (a1.n : Int) ≤ 140737488355328) (tb0 : Lib.TabIs Tryd.prog w "astrolabe/crc.four" .i32 tab0) :
    Calls Tryd.prog 3 #[.agg #[.slice a0_0.a a0_0.n a0_0.cap, .slice a0_1.a a0_1.n a0_1.cap, .slice a0_2.a a0_2.n a0_2.cap, .slice a0_3.a a0_3.n a0_3.cap, .slice a0_4.a a0_4.n a0_4.cap], .slice a1.a a1.n a1.cap] w fun e w' => e = .returned (.bool true) ∧ Below w.heap.size w w' := by
  refine law_of (cx := cxOf 2) ok ⟨rfl, rfl, rfl⟩ (ρ := envR Tryd.prog [(a0_0.n : Int), (a0_1.n : Int), (a0_2.n : Int), (a0_3.n : Int), (a0_4.n : Int), (a1.n : Int), a0_0.c, a0_1.c, a0_2.c, a0_3.c, a0_4.c, a1.c, (a0_0.cap : Int), (a0_1.cap : Int), (a0_2.cap : Int), (a0_3.cap : Int), (a0_4.cap : Int), (a1.cap : Int)] [a0_0, a0_1, a0_2, a0_3, a0_4, a1, tabRo 0 .i32 tab0]) (envR_ok (cx := rc.cx (cxOf 2)) rfl rfl (bnd_cons ⟨Int.natCast_nonneg _, b0_0⟩ (bnd_cons ⟨Int.natCast_nonneg _, b0_1⟩ (bnd_cons ⟨Int.natCast_nonneg _, b0_2⟩ (bnd_cons ⟨Int.natCast_nonneg _, b0_3⟩ (bnd_cons ⟨Int.natCast_nonneg _, b0_4⟩ (bnd_cons ⟨Int.natCast_nonneg _, b1⟩ (bnd_nil _))))))) ⟨⟨k0_0, rfl, (Int.toNat_natCast _).symm, (Int.toNat_natCast _).symm, n0_0, fun g h => by cases h⟩, ⟨⟨k0_1, rfl, (Int.toNat_natCast _).symm, (Int.toNat_natCast _).symm, n0_1, fun g h => by cases h⟩, ⟨⟨k0_2, rfl, (Int.toNat_natCast _).symm, (Int.toNat_natCast _).symm, n0_2, fun g h => by cases h⟩, ⟨⟨k0_3, rfl, (Int.toNat_natCast _).symm, (Int.toNat_natCast _).symm, n0_3, fun g h => by cases h⟩, ⟨⟨k0_4, rfl, (Int.toNat_natCast _).symm, (Int.toNat_natCast _).symm, n0_4, fun g h => by cases h⟩, ⟨⟨k1, rfl, (Int.toNat_natCast _).symm, (Int.toNat_natCast _).symm, n1, fun g h => by cases h⟩, ⟨⟨rfl, (listE_LZ _ _ _ tab0).symm, rfl, rfl, (fun h => by cases h), fun g h => by cases h; rfl⟩, trivial⟩⟩⟩⟩⟩⟩⟩) (fun d hd => by
    simp only [show qXo rc.b rc.c rc.ls 0 0 0 = [⟨[.int .u32], .v 6, .v 0, .v 12, none⟩, ⟨[.int .i32], .v 7, .v 1, .v 13, none⟩, ⟨[.bool], .v 8, .v 2, .v 14, none⟩, ⟨[.int .i64], .v 9, .v 3, .v 15, none⟩, ⟨[.int .i64], .v 10, .v 4, .v 16, none⟩, ⟨[.int .u8], .v 11, .v 5, .v 17, none⟩] from rfl, List.mem_cons, List.not_mem_nil, or_false] at hd
    rcases hd with rfl | rfl | rfl | rfl | rfl | rfl
    · exact Int.ofNat_le.2 m0_0
    · exact Int.ofNat_le.2 m0_1
    · exact Int.ofNat_le.2 m0_2
    · exact Int.ofNat_le.2 m0_3
    · exact Int.ofNat_le.2 m0_4
    · exact Int.ofNat_le.2 m1) (roOk_of ⟨t0_0, ⟨t0_1, ⟨t0_2, ⟨t0_3, ⟨t0_4, ⟨t1, ⟨tabRo_at tb0 tabG0 tabW0, trivial⟩⟩⟩⟩⟩⟩⟩) ?_
  rw [show rc.args = [.agg [.sl (.inp 0) 1 (.c 0) (.v 0) (some (.v 12)), .sl (.inp 1) 1 (.c 0) (.v 1) (some (.v 13)), .sl (.inp 2) 1 (.c 0) (.v 2) (some (.v 14)), .sl (.inp 3) 1 (.c 0) (.v 3) (some (.v 15)), .sl (.inp 4) 1 (.c 0) (.v 4) (some (.v 16))], .sl (.inp 5) 1 (.c 0) (.v 5) (some (.v 17))] from rfl]
  simp only [SV.denL, SV.den, E.ev, map_addr_zero]
  rfl
theorem lifted (os : Os) (started : os.Started) (H : Type) (enc : TypeId × Value → H) :
    ReturnsInHanded {} Tryd.checked os 3 .any (fun w args => (Rows.imageBackSpec.pre enc Tryd.prog Tryd.f3 Rows.imageBackRow.domain false w args ∧ laidMetH Tryd.prog Rows.imageBackRow.laid w) ∧ sizedMet enc Tryd.prog Tryd.f3 (OpenSpec.ofChange Rows.imageBackSpec) false w args)
      (Rows.imageBackSpec.post enc Tryd.prog Tryd.f3 false true false false) := by
  refine returnsInHanded_of_change_and (C := Tryd.checked) (X := fun w _ => laidMetH Tryd.prog Rows.imageBackRow.laid w) (fun _ _ _ hh h => h.of_heap hh) own started (by kernel_rfl) Tryd.func3
    (ChangeSpec.witness_shaped (enc := enc) (C := Tryd.checked) (os := os) (X := fun w _ => laidMetH Tryd.prog Rows.imageBackRow.laid w) false (World.laidAll Tryd.prog os Rows.imageBackRow.laid) #[.agg #[.slice none 0 0, .slice none 0 0, .slice none 0 0, .slice none 0 0, .slice none 0 0], .slice none 0 0] 8 (World.laidAll_os _ _ _)
      (World.shaped_of_ZipB (by kernel_rfl) (by kernel_rfl)) (by kernel_rfl) (by kernel_rfl) (by kernel_rfl)
      (by rw [MakeChecks.laidMetH_plain _ _ _ (by kernel_rfl)]; exact laidMet_laidAll _ (by kernel_rfl) (by kernel_rfl))) ?_
  intro W base args ds gs before hval0 hW hcnd hw0 hL _
  have hval : ∀ (j : Nat) t v, Tryd.f3.params[j]? = some t → args[j]? = some v → Value.okWide Tryd.prog W .any base t v := hval0
  have hW' := hW
  obtain ⟨p, q, hA0, hV, rfl, hfz, hnd⟩ := hW
  have hA : DataW.TrodAll enc Tryd.prog W 0 (fun _ => true) true Tryd.f3.params.toList args.toList ds p := hA0
  have hw := hw0
  rw [Tryd.params3] at hA hval hw
  obtain ⟨v0, vs0, d0, ds0, p0, q0, hargs, rfl, rfl, h0, r0⟩ := trodAll_cons hA
  have h0k := h0
  obtain ⟨v1, vs1, d1, ds1, p1, q1, rfl, rfl, rfl, h1, r1⟩ := trodAll_cons r0
  have h1k := h1
  obtain ⟨rfl, rfl, rfl⟩ := trodAll_nil r1
  obtain rfl : args = #[v0, v1] := by cases args; simp_all
  obtain ⟨rfl, rfl⟩ := trodVars_none hV
  obtain ⟨ros0, hl0, rfl, hp0⟩ := Go.Eng.open_rows (kss := [[.int .u32], [.int .i32], [.bool], [.int .i64], [.int .i64]]) Tryd.underlying27 (by kernel_rfl) (by kernel_rfl) ⟨⟨⟨_, Tryd.underlying22, (ElT.one Tryd.underlying43 (by kernel_rfl)), of_decide_eq_true (by kernel_rfl), by kernel_rfl⟩, by decide⟩, ⟨⟨_, Tryd.underlying23, (ElT.one Tryd.underlying21 (by kernel_rfl)), of_decide_eq_true (by kernel_rfl), by kernel_rfl⟩, by decide⟩, ⟨⟨_, Tryd.underlying24, (ElT.one Tryd.underlying4 (by kernel_rfl)), of_decide_eq_true (by kernel_rfl), by kernel_rfl⟩, by decide⟩, ⟨⟨_, Tryd.underlying25, (ElT.one Tryd.underlying3 (by kernel_rfl)), of_decide_eq_true (by kernel_rfl), by kernel_rfl⟩, by decide⟩, ⟨⟨_, Tryd.underlying25, (ElT.one Tryd.underlying3 (by kernel_rfl)), of_decide_eq_true (by kernel_rfl), by kernel_rfl⟩, by decide⟩, trivial⟩ (hval 0 27 v0 rfl rfl) h0 (weights_of (gs := []) hw (j := 0) (t := 27) rfl rfl)
  obtain ⟨a0_0, ros0, rfl⟩ := List.exists_cons_of_length_eq_add_one hl0
  have hl0 := Nat.succ.inj hl0
  obtain ⟨a0_1, ros0, rfl⟩ := List.exists_cons_of_length_eq_add_one hl0
  have hl0 := Nat.succ.inj hl0
  obtain ⟨a0_2, ros0, rfl⟩ := List.exists_cons_of_length_eq_add_one hl0
  have hl0 := Nat.succ.inj hl0
  obtain ⟨a0_3, ros0, rfl⟩ := List.exists_cons_of_length_eq_add_one hl0
  have hl0 := Nat.succ.inj hl0
  obtain ⟨a0_4, ros0, rfl⟩ := List.exists_cons_of_length_eq_add_one hl0
  have hl0 := Nat.succ.inj hl0
  obtain rfl := List.eq_nil_of_length_eq_zero hl0
  obtain ⟨k0_0, n0_0, m0_0, t0_0, b0_0, _⟩ := hp0 0 _ _ rfl rfl
  obtain ⟨k0_1, n0_1, m0_1, t0_1, b0_1, _⟩ := hp0 1 _ _ rfl rfl
  obtain ⟨k0_2, n0_2, m0_2, t0_2, b0_2, _⟩ := hp0 2 _ _ rfl rfl
  obtain ⟨k0_3, n0_3, m0_3, t0_3, b0_3, _⟩ := hp0 3 _ _ rfl rfl
  obtain ⟨k0_4, n0_4, m0_4, t0_4, b0_4, _⟩ := hp0 4 _ _ rfl rfl
  obtain ⟨a1, k1, rfl, n1, m1, t1, b1, _⟩ := Go.Eng.open_row (ks := [.int .u8]) Tryd.underlying28 (ElT.one Tryd.underlying5 (by kernel_rfl)) (by decide) (of_decide_eq_true (by kernel_rfl)) (by kernel_rfl) (hval 1 28 v1 rfl rfl) h1 (weights_of (gs := []) hw (j := 1) (t := 28) rfl rfl)
  clear hA0 hval0
  refine (walk W a0_0 k0_0 n0_0 m0_0 t0_0 b0_0 a0_1 k0_1 n0_1 m0_1 t0_1 b0_1 a0_2 k0_2 n0_2 m0_2 t0_2 b0_2 a0_3 k0_3 n0_3 m0_3 t0_3 b0_3 a0_4 k0_4 n0_4 m0_4 t0_4 b0_4 a1 k1 n1 m1 t1 b1 (tabIs0 hL)).mono fun e W' ⟨he, hg⟩ => ?_
  subst he
  have hin0 : ∀ x ∈ p0, x ∈ p0 ++ (p1 ++ []) ++ [] := fun x hx => by simp [hx]
  have hlt0 : ∀ x ∈ p0, x.block < W.heap.size := fun x hx => by simpa using hW'.lt x (by simp [hx])
  have hin1 : ∀ x ∈ p1, x ∈ p0 ++ (p1 ++ []) ++ [] := fun x hx => by simp [hx]
  have hlt1 : ∀ x ∈ p1, x.block < W.heap.size := fun x hx => by simpa using hW'.lt x (by simp [hx])
  exact ⟨_, rfl, post_below (pa := _) (pv := []) hW' hg (fun _ _ _ => (trodAll_cons_mk (shut_bool Tryd.underlying4 _) trodAll_mk0)) (fun sp hsp => (trodAll_cons_mk (WideElems.Trod_stays laidOut (by kernel_rfl) (of_decide_eq_true (by kernel_rfl)) h0k (fun x hx => hg.same (hlt0 x hx)) (fun x hx => hsp x (hin0 x hx))) (trodAll_cons_mk (WideElems.Trod_stays laidOut (by kernel_rfl) (of_decide_eq_true (by kernel_rfl)) h1k (fun x hx => hg.same (hlt1 x hx)) (fun x hx => hsp x (hin1 x hx))) trodAll_mk0))) (fun _ _ => rfl) (by simp)
    (ok_one (by kernel_rfl) rfl (okWide_bool_mk Tryd.underlying4 _))⟩

theorem over : Rows.imageBackRow.holds Tryd.pinned (OpenSpec.ofChange Rows.imageBackSpec) :=
  OpenClaim.holds_of_wide 3 Tryd.f3 rfl rfl rfl rfl rfl rfl rfl ⟨rfl, rfl, rfl, rfl, rfl⟩ rfl rfl rfl rfl rfl (by kernel_rfl) Tryd.func3 (by kernel_rfl)
    (of_decide_eq_true (by kernel_rfl)) (by unfold Func.isWrapper; first | (rw [if_pos (by decide +kernel)]; kernel_rfl) | (rw [if_neg (by decide +kernel)]; exact ⟨rfl, rfl⟩))
    (fun os started H enc _ => lifted os started H enc)

/-- the statement -/
theorem proved : Rows.ImageBackCardSaid :=
  Claim7.holds_tied_plain_at .later [] [.data] true (true, "11d7d4fb31e0feca35ba10317138eef69cce713a8420837ce47994f5bd4c9744") true
    over (fun _ h => by cases h) (by kernel_rfl) (fun _ h => by cases h) imageBack_row_tie rfl ⟨rfl, rfl⟩ (by kernel_rfl) rfl
    (fun f fn hf hfn => by
      obtain rfl : f = 3 := Option.some.inj ((show Tryd.prog.funcNamed "astrolabe/astrolabelaw22.ImageBack" = some 3 by kernel_rfl).symm.trans hf) |>.symm
      obtain rfl : fn = Tryd.f3 := (Option.some.inj (Tryd.func3.symm.trans hfn)).symm
      exact ⟨by kernel_rfl, fun j t ht => by
        rw [Tryd.params3] at ht
        have h3 : t = 27 ∨ t = 28 := by
          rcases j with _ | _ | j
          · exact (.inl (by simpa using ht.symm))
          · exact (.inr (by simpa using ht.symm))
          · simp at ht
        rcases h3 with rfl | rfl
        · exact (show Tryd.prog.wantsStandIn 27 = false by kernel_rfl)
        · exact (show Tryd.prog.wantsStandIn 28 = false by kernel_rfl)⟩)
    (by kernel_rfl)
#print axioms proved
end Go.Proofs.YtkjbmbmdmhfbeabDoor.imageBack
