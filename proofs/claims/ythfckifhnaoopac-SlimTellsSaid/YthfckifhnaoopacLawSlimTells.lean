/-
  The law SlimTells answers true at every input: the law is run by the engine (a symbolic run, proved sound), the tree of its answers, as a plain statement, is shown to hold. No condition.
-/
import Derived.Test.YthfckifhnaoopacKc
import Derived.Test.YthfckifhnaoopacKf
import Derived.Test.YthfckifhnaoopacKg
import Derived.Test.YthfckifhnaoopacKh
import Derived.Test.YthfckifhnaoopacKi
import Derived.Test.YthfckifhnaoopacKk
import Derived.Test.YthfckifhnaoopacKl
import Derived.Test.YthfckifhnaoopacKm
import Derived.Test.YthfckifhnaoopacGab
import Derived.Test.YthfckifhnaoopacGib
import Derived.Test.YthfckifhnaoopacGp3
import Derived.Test.YthfckifhnaoopacGp1
import Derived.WalkKit
import Derived.ProofKit
import Derived.OpenShut
import Derived.LaidMore
import Derived.Stop.Joined
import Derived.SevenTiedAt
import Derived.SizedLaws
namespace Go.Proofs.Ythfckifhnaoopac.slimTells
open Go.ChangeShapes Go.WideShapes Go.ChangeAt Go.Eng Go.RowKit
set_option linter.unusedVariables false
set_option linter.unusedSimpArgs false
set_option maxRecDepth 100000
def rc : Rc := ⟨3, [some 5], [.row [.int .u32] 140737488355328, .row [.int .i32] 140737488355328, .row [.bool] 140737488355328, .row [.int .i64] 140737488355328, .row [.int .i64] 140737488355328], [], .one, [.bool (.c 1)]⟩
theorem okb : rc.ok = true := by kernel_rfl
def mk7_14 : qJy := [([0, 11], .num (0) (4611686018427387904)), ([0, 10], .arr [.int .u32] 36), ([0, 12], .wilds 4), ([0, 63], .wilds 62)]
noncomputable def us : SMs := fun Γ ins n => smH (cxG n Γ ins) [] (smAnd 34 (libGReach Γ ins n) (smAnd 16 (libClone16 Γ ins n) (smAnd 17 (libClone17 Γ ins n) (smAnd 18 (libClone18 Γ ins n) (smR (cxG n Γ ins) [CSSlim.rc, CSPlaces.rc, CRPlaces45.rc, CRNumber45.rc, CRReached18.rc, CRDec.rc, CREnc.rc, CRICheck.rc, CRSame17.rc, CRSame15.rc, CRBools.rc, CRWords.rc, CGNext.rc, CAwake45.rc])))))
theorem us_ok : SMsOk us := fun Γ ins n => qZp (tabsG n Γ ins) (qZk _) (qJz (libGReach_ok CGNext.nextC Γ ins n) (qJz (libClone16_ok Γ ins n) (qJz (libClone17_ok Γ ins n) (qJz (libClone18_ok Γ ins n) (qZo (tabsG n Γ ins) (qQe CSSlim.okb (rc_n CSSlim.ok) (qQe CSPlaces.okb (rc_n CSPlaces.ok) (qQe CRPlaces45.okb (rc_n CRPlaces45.ok) (qQe CRNumber45.okb (rc_n CRNumber45.ok) (qQe CRReached18.okb (rc_n CRReached18.ok) (qQe CRDec.okb (rc_n CRDec.ok) (qQe CREnc.okb (rc_n CREnc.ok) (qQe CRICheck.okb (rc_n CRICheck.ok) (qQe CRSame17.okb (rc_n CRSame17.ok) (qQe CRSame15.okb (rc_n CRSame15.ok) (qQe CRBools.okb (rc_n CRBools.ok) (qQe CRWords.okb (rc_n CRWords.ok) (qQe CGNext.okb (rc_n CGNext.ok) (qQe CAwake45.okb (rc_n CAwake45.ok) (qZy _))))))))))))))))))))
def Q0 : E := (tC (.v 9) (.c 0))
def Q1 : E := (tC (.v 8) Q0)
def Q2 : E := (tC (.v 4) Q1)
def Q3 : E := (tC (.v 3) Q2)
def Q4 : E := (tC (.v 2) Q3)
def Q5 : E := (.f 84 (.v 0) (.v 1) Q4)
def Q6 : E := (te Q5 (.c 0))
def Q7 : E := (.f 175 (.v 5) (.v 0) (.c 0))
def Q8 : E := (te Q7 (.c 0))
def Q9 : E := (.f 171 (.v 5) (.v 0) (.c 0))
def Q10 : E := (tl (.v 0) (.c 1000))
def Q11 : E := (.f 172 (.v 5) (.v 0) (.c 0))
def Q12 : E := (.f 32 Q11 Q11 Q9)
def Q13 : E := (te (.cl 1000 0 1000) (.c 0))
def Q14 : E := (.f 174 (.v 5) (.v 0) (.c 0))
def Q15 : E := (.f 72 Q14 (.c 0) (.cl 1000 0 1000))
def Q16 : E := (.ite Q13 Q15 (.c 0))
def Q17 : E := (.cl 1001 0 140737488355328)
def Q18 : E := (tl Q17 (.c 1000000))
def Q19 : E := (te Q17 (.c 0))
def Q20 : E := (.f 72 (.v 6) (.c 0) Q17)
def Q21 : E := (.ite Q19 Q20 (.c 0))
def Q22 : E := (.cl 1002 0 140737488355328)
def Q23 : E := (tl Q22 (.c 1000000))
def Q24 : E := (te Q22 (.c 0))
def Q25 : E := (.f 62 (.v 7) (.c 0) Q22)
def Q26 : E := (.ite Q24 Q25 (.c 0))
def Q27 : E := (.cl 1003 0 140737488355328)
def Q28 : E := (tl Q27 (.c 1000000))
def Q29 : E := (te Q27 (.c 0))
def Q30 : E := (.f 32 (.v 8) (.c 0) Q27)
def Q31 : E := (.ite Q29 Q30 (.c 0))
def Q32 : E := (.cl 1004 0 140737488355328)
def Q33 : E := (tl Q32 (.c 1000000))
def Q34 : E := (te Q32 (.c 0))
def Q35 : E := (.f 32 (.v 9) (.c 0) Q32)
def Q36 : E := (.ite Q34 Q35 (.c 0))
def Q37 : E := (.cl 1007 0 4611686018427387904)
def Q38 : E := (tR (.v 5) Q37)
def Q39 : E := (.w .u32 Q38)
def Q40 : E := (tp Q37 (.c 1))
def Q41 : E := (tl Q40 (.c 4611686018427387904))
def Q42 : E := (te (.cl 1005 0 12) (.c 12))
def Q43 : E := (.cl 1019 0 4611686018427387904)
def Q44 : E := (.cl 1021 (-9223372036854775808) 9223372036854775807)
def Q45 : E := (tR (.v 5) Q44)
def Q46 : E := (.w .u32 Q45)
def Q47 : E := (.cl 1028 0 4611686018427387904)
def Q48 : E := (.cl 1022 (-32768) 65535)
def Q49 : E := (tp Q47 (.c 1))
def Q50 : E := (.cl 1026 (-32768) 65535)
def Q51 : E := (.f 173 Q11 Q9 Q50)
def Q52 : E := (.cl 1023 (-32768) 65535)
def Q53 : E := (.cl 1024 (-32768) 65535)
def Q54 : E := (tl (.c 36) Q48)
def Q55 : E := (tl Q48 (.c 39))
def Q56 : E := (.b .pmul .i64 Q48 (.c 67108864))
def Q57 : E := (.b .pmul .i64 Q52 (.c 2097152))
def Q58 : E := (tp Q56 Q57)
def Q59 : E := (.b .pmul .i64 Q53 (.c 65536))
def Q60 : E := (tp Q58 Q59)
def Q61 : E := (.cl 1018 0 1000000)
def Q62 : E := (tp Q61 (.c 1))
def Q63 : E := (tl Q62 (.c 1000000))
def Q64 : E := (tp Q43 (.c 1))
def Q65 : E := (tl Q64 (.c 4611686018427387904))
def Q66 : E := (.f 14 (.v 1017) Q61 (.cl 1032 0 4294967295))
def Q67 : E := (.f 14 (.v 1017) Q61 Q46)
def tree : TT (List E) :=
 (.br (tl (.v 0) (.c 200)) (.br (tl (.v 1) (.c 2100)) (.br (tl (.v 2) (.c 2100)) (.br (tl (.v 3) (.c 300)) (.br (.nt (tl (.v 4) (.c 300))) (.leaf [(.c 1)]) (.br (tk (.c 40) (.v 0)) (.leaf [(.c 1)]) (.br (tl (.v 0) (.c 1000000)) (.br (tl (.v 1) (.c 1000000)) (.br (tl (.v 2) (.c 1000000)) (.br (tl (.v 3) (.c 1000000)) (.br (tl (.v 4) (.c 1000000)) (.br (tl (.v 0) (.v 10)) (.br (tl (.v 1) (.v 11)) (.br (tl (.v 2) (.v 12)) (.br (tl (.v 3) (.v 13)) (.br (tl (.v 4) (.v 14)) (.br (tl (.v 0) (.c 64)) (.new 1000 (.ite Q6 (.ite Q8 Q9 (.c 0)) (.c 0)) (.new 1001 (.ite Q6 (.ite Q8 (.v 1) (.c 0)) (.c 0)) (.new 1002 (.ite Q6 (.ite Q8 (.v 2) (.c 0)) (.c 0)) (.new 1003 (.ite Q6 (.ite Q8 (.v 3) (.c 0)) (.c 0)) (.new 1004 (.ite Q6 (.ite Q8 (.v 4) (.c 0)) (.c 0)) (.new 1005 (.ite Q6 (.ite Q8 (.c 0) (.c 12))
 Q5) (.new 1006 Q5 (.br (tn (.cl 1006 0 9) (.c 0)) (.br Q10 (.br Q12 (.new 1007 Q16 (.br (.cl 1007 0 1) (.br Q18 (.br Q21 (.br Q23 (.br Q26 (.br Q28 (.br Q31 (.br Q33 (.br Q36 (.br (te (.cl 1005 0 12) (.cl 1006 0 9)) (.leaf [(.c 1)]) (.leaf [(.c 0)])) (.leaf [(.c 0)])) (.bad 200)) (.leaf [(.c 0)])) (.bad 200)) (.leaf [(.c 0)])) (.bad 200)) (.leaf [(.c 0)])) (.bad 200)) (.leaf [(.c 0)]))) (.leaf [(.c 0)])) (.bad 200)) (.br Q10 (.loop ⟨1007, [some (0, 4611686018427387904)], [(.c 0)], 1015⟩ (.br (tk Q37 (.v 0)) (.new 1009 (.f 67 Q39 (.c 0) (.c 0)) (.new 1010 (.f 67 Q39 (.c 1) (.c 0)) (.new 1011 (.f 67 Q39 (.c 2) (.c 0)) (.new 1012 (.f 67 Q39 (.c 3) (.c 0)) (.new 1013 (.f 67 Q39 (.c 4) (.c 0)) (.new 1014 (.f 67 Q39 (.c 5) (.c 0)) (.br (te (.cl 1014 (-32768) 65535) (.c 0)) (.br (tR (.f 164 (.v
 5) (.v 0) (tC (.c 0) (tC (.c (-1)) (.c 0)))) Q37) (.br (te (.cl 1009 (-32768) 65535) (.c 40)) (.exit 0) (.br (te (.cl 1009 (-32768) 65535) (.c 41)) (.exit 1) (.br Q41 (.back [Q40]) (.bad 303)))) (.br Q41 (.back [Q40]) (.bad 303))) (.br Q41 (.back [Q40]) (.bad 303))))))))) (.exit 2)) (.br (te (.v 1015) (.c 0)) (.br Q12 (.new 1017 Q16 (.br (.cl 1017 0 1) (.br Q18 (.br Q21 (.br Q23 (.br Q26 (.br Q28 (.br Q31 (.br Q33 (.br Q36 (.br Q42 (.leaf [(.c 1)]) (.leaf [(.c 0)])) (.leaf [(.c 0)])) (.bad 200)) (.leaf [(.c 0)])) (.bad 200)) (.leaf [(.c 0)])) (.bad 200)) (.leaf [(.c 0)])) (.bad 200)) (.leaf [(.c 0)]))) (.leaf [(.c 0)])) (.br (te (.v 1015) (.c 1)) (.br Q12 (.new 1017 Q16 (.br (.cl 1017 0 1) (.br Q18 (.br Q21 (.br Q23 (.br Q26 (.br Q28 (.br Q31 (.br Q33 (.br Q36 (.br Q42 (.leaf [(.c 1)])
 (.leaf [(.c 0)])) (.leaf [(.c 0)])) (.bad 200)) (.leaf [(.c 0)])) (.bad 200)) (.leaf [(.c 0)])) (.bad 200)) (.leaf [(.c 0)])) (.bad 200)) (.leaf [(.c 0)]))) (.leaf [(.c 0)])) (.loop ⟨1017, [none, some (0, 1000000), some (0, 4611686018427387904)], [(.c 0), (.c 0), (.c 0)], 1033⟩ (.br (tk Q43 Q9) (.new 1021 (t6 (tR Q11 Q43)) (.br (tl (.c 0) Q44) (.br (tk Q44 (.v 0)) (.new 1022 (.f 67 Q46 (.c 0) (.c 0)) (.new 1023 (.f 67 Q46 (.c 1) (.c 0)) (.new 1024 (.f 67 Q46 (.c 2) (.c 0)) (.new 1025 (.f 67 Q46 (.c 3) (.c 0)) (.new 1026 (.f 67 Q46 (.c 4) (.c 0)) (.new 1027 (.f 67 Q46 (.c 5) (.c 0)) (.br (te (.cl 1027 (-32768) 65535) (.c 0)) (.loop ⟨1028, [some (0, 4611686018427387904)], [(.c 0)], 1030⟩ (.br (tk Q47 (.c 4)) (.br (te (t6 (tR (tC (.c 36) (tC (.c 37) (tC (.c 38) (tC (.c 39) (.c 0))))) Q47))
 Q48) (.exit 0) (.br (tl Q49 (.c 4611686018427387904)) (.back [Q49]) (.bad 303))) (.exit 1)) (.br (te (.v 1030) (.c 0)) (.br (tk Q51 Q9) (.br (te (.f 141 Q48 Q52 (tC Q53 (tC (.cl 1025 (-32768) 65535) (tC Q51 (.c 0))))) (.c 0)) (.br Q54 (.br Q55 (.new 1032 (.w .u32 (tp Q60 Q51)) (.br Q63 (.br Q63 (.br Q65 (.back [Q66, Q62, Q64]) (.bad 303)) (.bad 303)) (.bad 200))) (.bad 200)) (.bad 200)) (.bad 200)) (.br (te (.f 141 Q48 Q52 (tC Q53 (tC (.cl 1025 (-32768) 65535) (tC (.c 65535) (.c 0))))) (.c 0)) (.br Q54 (.br Q55 (.new 1032 (.w .u32 (tp Q60 (.c 65535))) (.br Q63 (.br Q63 (.br Q65 (.back [Q66, Q62, Q64]) (.bad 303)) (.bad 303)) (.bad 200))) (.bad 200)) (.bad 200)) (.bad 200))) (.br Q63 (.br Q63 (.br Q65 (.back [Q67, Q62, Q64]) (.bad 303)) (.bad 303)) (.bad 200)))) (.br Q63 (.br Q63 (.br Q65
 (.back [Q67, Q62, Q64]) (.bad 303)) (.bad 303)) (.bad 200))))))))) (.bad 200)) (.bad 200))) (.exit 0)) (.br Q12 (.new 1035 (.ite (te (.cl 1000 0 1000) Q61) (.f 72 Q14 (.v 1017) (.cl 1000 0 1000)) (.c 0)) (.br (.cl 1035 0 1) (.br Q18 (.br (.ite (te Q17 (.v 1)) (.f 72 (.v 6) (.v 6) Q17) (.c 0)) (.br Q23 (.br (.ite (te Q22 (.v 2)) (.f 62 (.v 7) (.v 7) Q22) (.c 0)) (.br Q28 (.br (.ite (te Q27 (.v 3)) (.f 32 (.v 8) (.v 8) Q27) (.c 0)) (.br Q33 (.br (.ite (te Q32 (.v 4)) (.f 32 (.v 9) (.v 9) Q32) (.c 0)) (.br (te (.cl 1005 0 12) (.c 0)) (.leaf [(.c 1)]) (.leaf [(.c 0)])) (.leaf [(.c 0)])) (.bad 200)) (.leaf [(.c 0)])) (.bad 200)) (.leaf [(.c 0)])) (.bad 200)) (.leaf [(.c 0)])) (.bad 200)) (.leaf [(.c 0)]))) (.leaf [(.c 0)])))))) (.bad 200)))))))))) (.bad 200)) (.bad 200)) (.bad 200)) (.bad
 200)) (.bad 200)) (.bad 200)) (.bad 200)) (.bad 200)) (.bad 200)) (.bad 200)) (.bad 200)))) (.leaf [(.c 1)])) (.leaf [(.c 1)])) (.leaf [(.c 1)])) (.leaf [(.c 1)]))

noncomputable def sq0 (f a : Int) : Int := (qXo (plcZ f a) (plcZ f a) (plcN f a))
noncomputable def sq1 (y22 y23 y24 f a y26 : Int) : Int := (U3 ((((y22 * 67108864) + (y23 * 2097152)) + (y24 * 65536)) + (cltZ (plcZ f a) (plcN f a) y26)))
def sq2 (f a y0 y1 b g y2 c h y3 d i y4 e j y5 : Int) : Prop := (∃ I1017 : Int → Int → Int → Nat → Prop, (∃ m, I1017 0 0 0 m) ∧ ∀ y17 y18 y19 : Int, ∀ m17, (True ∧ (0 ≤ y18 ∧ y18 ≤ 1000000) ∧ (0 ≤ y19 ∧ y19 ≤ 4611686018427387904) ∧ True) → I1017 y17 y18 y19 m17 → (Pb (Pl y19 (plcN f a)) (Pn (W6 (rdZ (plcZ f a) y19)) (-9223372036854775808) 9223372036854775807 fun y21 => (Pm (PL 0 y21) (Pm (Pl y21 a) (Pn (decZ (U3 (rdZ f y21)) 0) (-32768) 65535 fun y22 => Pn (decZ (U3 (rdZ f y21)) 1) (-32768) 65535 fun y23 => Pn (decZ (U3 (rdZ f y21)) 2) (-32768) 65535 fun y24 => Pn (decZ (U3 (rdZ f y21)) 3) (-32768) 65535 fun y25 => Pn (decZ (U3 (rdZ f y21)) 4) (-32768) 65535 fun y26 => Pn (decZ (U3 (rdZ f y21)) 5) (-32768) 65535 fun y27 => (Pb (Pe y27 0) (∃ I1028 : Int → Nat → Prop, (∃ m, I1028 0 m) ∧ ∀
 y28 : Int, ∀ m28, ((0 ≤ y28 ∧ y28 ≤ 4611686018427387904) ∧ True) → I1028 y28 m28 → (Pb (Pl y28 4) (Pb (Pe (W6 (rdZ (kZ 36 (kZ 37 (kZ 38 (kZ 39 0)))) y28)) y22) (Pb (Pe (0 : Int) 0) (Pb (Pl (cltZ (plcZ f a) (plcN f a) y26) (plcN f a)) (Pm (Pe (cckZ y22 y23 (kZ y24 (kZ y25 (kZ (cltZ (plcZ f a) (plcN f a) y26) 0)))) 0) (Pm (PL 36 y22) (Pm (PL y22 39) (Pn (sq1 y22 y23 y24 f a y26) 0 4294967295 fun y32 => (Pm (PL (y18 + 1) 1000000) (Pm (PL (y18 + 1) 1000000) (Pm (PL (y19 + 1) 4611686018427387904) (∃ m', m' < m17 ∧ I1017 (updZ y17 y18 y32) (y18 + 1) (y19 + 1) m')))))))) (Pm (Pe (cckZ y22 y23 (kZ y24 (kZ y25 (kZ 65535 0)))) 0) (Pm (PL 36 y22) (Pm (PL y22 39) (Pn (U3 ((((y22 * 67108864) + (y23 * 2097152)) + (y24 * 65536)) + 65535)) 0 4294967295 fun y32 => (Pm (PL (y18 + 1) 1000000) (Pm (PL (y18
 + 1) 1000000) (Pm (PL (y19 + 1) 4611686018427387904) (∃ m', m' < m17 ∧ I1017 (updZ y17 y18 y32) (y18 + 1) (y19 + 1) m'))))))))) (Pm (PL (y18 + 1) 1000000) (Pm (PL (y18 + 1) 1000000) (Pm (PL (y19 + 1) 4611686018427387904) (∃ m', m' < m17 ∧ I1017 (updZ y17 y18 (U3 (rdZ f y21))) (y18 + 1) (y19 + 1) m'))))) (Pm (PL (y28 + 1) 4611686018427387904) (∃ m', m' < m28 ∧ I1028 (y28 + 1) m'))) (Pb (Pe (1 : Int) 0) (Pb (Pl (cltZ (plcZ f a) (plcN f a) y26) (plcN f a)) (Pm (Pe (cckZ y22 y23 (kZ y24 (kZ y25 (kZ (cltZ (plcZ f a) (plcN f a) y26) 0)))) 0) (Pm (PL 36 y22) (Pm (PL y22 39) (Pn (sq1 y22 y23 y24 f a y26) 0 4294967295 fun y32 => (Pm (PL (y18 + 1) 1000000) (Pm (PL (y18 + 1) 1000000) (Pm (PL (y19 + 1) 4611686018427387904) (∃ m', m' < m17 ∧ I1017 (updZ y17 y18 y32) (y18 + 1) (y19 + 1) m')))))))) (Pm
 (Pe (cckZ y22 y23 (kZ y24 (kZ y25 (kZ 65535 0)))) 0) (Pm (PL 36 y22) (Pm (PL y22 39) (Pn (U3 ((((y22 * 67108864) + (y23 * 2097152)) + (y24 * 65536)) + 65535)) 0 4294967295 fun y32 => (Pm (PL (y18 + 1) 1000000) (Pm (PL (y18 + 1) 1000000) (Pm (PL (y19 + 1) 4611686018427387904) (∃ m', m' < m17 ∧ I1017 (updZ y17 y18 y32) (y18 + 1) (y19 + 1) m'))))))))) (Pm (PL (y18 + 1) 1000000) (Pm (PL (y18 + 1) 1000000) (Pm (PL (y19 + 1) 4611686018427387904) (∃ m', m' < m17 ∧ I1017 (updZ y17 y18 (U3 (rdZ f y21))) (y18 + 1) (y19 + 1) m'))))))) (Pm (PL (y18 + 1) 1000000) (Pm (PL (y18 + 1) 1000000) (Pm (PL (y19 + 1) 4611686018427387904) (∃ m', m' < m17 ∧ I1017 (updZ y17 y18 (U3 (rdZ f y21))) (y18 + 1) (y19 + 1) m'))))))))) (Pb (sq0 f a) (Pn (iteZ (Pe y0 y18) (qJe (slmZ f a) y17 y0) 0) 0 1 fun y35 => (Pb y35
 (Pm (PL y1 1000000) (Pb (iteZ (Pe y1 b) (qJe g g y1) 0) (Pm (PL y2 1000000) (Pb (iteZ (Pe y2 c) (sameB h h y2) 0) (Pm (PL y3 1000000) (Pb (iteZ (Pe y3 d) (qXo i i y3) 0) (Pm (PL y4 1000000) (Pb (iteZ (Pe y4 e) (qXo j j y4) 0) (Pb (Pe y5 0) Pt Pf) Pf)) Pf)) Pf)) Pf)) Pf)) Pf)))
def sq3 (f a y0 y1 g y2 h y3 i y4 j y5 : Int) : Prop := (Pb (sq0 f a) (Pn (iteZ (Pe y0 0) (qJe (slmZ f a) 0 y0) 0) 0 1 fun y17 => (Pb y17 (Pm (PL y1 1000000) (Pb (iteZ (Pe y1 0) (qJe g 0 y1) 0) (Pm (PL y2 1000000) (Pb (iteZ (Pe y2 0) (sameB h 0 y2) 0) (Pm (PL y3 1000000) (Pb (iteZ (Pe y3 0) (qXo i 0 y3) 0) (Pm (PL y4 1000000) (Pb (iteZ (Pe y4 0) (qXo j 0 y4) 0) (Pb (Pe y5 12) Pt Pf) Pf)) Pf)) Pf)) Pf)) Pf)) Pf)
def P (a b c d e f g h i j k l n o p : Int) : Prop :=
 (Pb (PL a 200) (Pb (PL b 2100) (Pb (PL c 2100) (Pb (PL d 300) (Pb (Pe (PL e 300) 0) Pt (Pb (Pl 40 a) Pt (Pm (PL a 1000000) (Pm (PL b 1000000) (Pm (PL c 1000000) (Pm (PL d 1000000) (Pm (PL e 1000000) (Pm (PL a k) (Pm (PL b l) (Pm (PL c n) (Pm (PL d o) (Pm (PL e p) (Pm (PL a 64) (Pn (iteZ (Pe (chkZ a b (kZ c (kZ d (kZ e (kZ i (kZ j 0)))))) 0) (iteZ (Pe (slmE f a) 0) (plcN f a) 0) 0) 0 1000 fun y0 => Pn (iteZ (Pe (chkZ a b (kZ c (kZ d (kZ e (kZ i (kZ j 0)))))) 0) (iteZ (Pe (slmE f a) 0) b 0) 0) 0 140737488355328 fun y1 => Pn (iteZ (Pe (chkZ a b (kZ c (kZ d (kZ e (kZ i (kZ j 0)))))) 0) (iteZ (Pe (slmE f a) 0) c 0) 0) 0 140737488355328 fun y2 => Pn (iteZ (Pe (chkZ a b (kZ c (kZ d (kZ e (kZ i (kZ j 0)))))) 0) (iteZ (Pe (slmE f a) 0) d 0) 0) 0 140737488355328 fun y3 => Pn (iteZ (Pe (chkZ a b
 (kZ c (kZ d (kZ e (kZ i (kZ j 0)))))) 0) (iteZ (Pe (slmE f a) 0) e 0) 0) 0 140737488355328 fun y4 => Pn (iteZ (Pe (chkZ a b (kZ c (kZ d (kZ e (kZ i (kZ j 0)))))) 0) (iteZ (Pe (slmE f a) 0) 0 12) (chkZ a b (kZ c (kZ d (kZ e (kZ i (kZ j 0))))))) 0 12 fun y5 => Pn (chkZ a b (kZ c (kZ d (kZ e (kZ i (kZ j 0)))))) 0 9 fun y6 => (Pb (Pd y6 0) (Pm (PL a 1000) (Pb (sq0 f a) (Pn (iteZ (Pe y0 0) (qJe (slmZ f a) 0 y0) 0) 0 1 fun y7 => (Pb y7 (Pm (PL y1 1000000) (Pb (iteZ (Pe y1 0) (qJe g 0 y1) 0) (Pm (PL y2 1000000) (Pb (iteZ (Pe y2 0) (sameB h 0 y2) 0) (Pm (PL y3 1000000) (Pb (iteZ (Pe y3 0) (qXo i 0 y3) 0) (Pm (PL y4 1000000) (Pb (iteZ (Pe y4 0) (qXo j 0 y4) 0) (Pb (Pe y5 y6) Pt Pf) Pf)) Pf)) Pf)) Pf)) Pf)) Pf)) (Pm (PL a 1000) (∃ I1007 : Int → Nat → Prop, (∃ m, I1007 0 m) ∧ ∀ y7 : Int, ∀
 m7, ((0 ≤ y7 ∧ y7 ≤ 4611686018427387904) ∧ True) → I1007 y7 m7 → (Pb (Pl y7 a) (Pn (decZ (U3 (rdZ f y7)) 0) (-32768) 65535 fun y9 => Pn (decZ (U3 (rdZ f y7)) 1) (-32768) 65535 fun y10 => Pn (decZ (U3 (rdZ f y7)) 2) (-32768) 65535 fun y11 => Pn (decZ (U3 (rdZ f y7)) 3) (-32768) 65535 fun y12 => Pn (decZ (U3 (rdZ f y7)) 4) (-32768) 65535 fun y13 => Pn (decZ (U3 (rdZ f y7)) 5) (-32768) 65535 fun y14 => (Pb (Pe y14 0) (Pb (rdZ (gfmZ f a (kZ 0 (kZ (-1) 0))) y7) (Pb (Pe y9 40) (Pb (Pe (0 : Int) 0) (sq3 f a y0 y1 g y2 h y3 i y4 j y5) (Pb (Pe (0 : Int) 1) (sq3 f a y0 y1 g y2 h y3 i y4 j y5) (sq2 f a y0 y1 b g y2 c h y3 d i y4 e j y5))) (Pb (Pe y9 41) (Pb (Pe (1 : Int) 0) (sq3 f a y0 y1 g y2 h y3 i y4 j y5) (Pb (Pe (1 : Int) 1) (sq3 f a y0 y1 g y2 h y3 i y4 j y5) (sq2 f a y0 y1 b g y2 c h y3 d i
 y4 e j y5))) (Pm (PL (y7 + 1) 4611686018427387904) (∃ m', m' < m7 ∧ I1007 (y7 + 1) m')))) (Pm (PL (y7 + 1) 4611686018427387904) (∃ m', m' < m7 ∧ I1007 (y7 + 1) m'))) (Pm (PL (y7 + 1) 4611686018427387904) (∃ m', m' < m7 ∧ I1007 (y7 + 1) m')))) (Pb (Pe (2 : Int) 0) (sq3 f a y0 y1 g y2 h y3 i y4 j y5) (Pb (Pe (2 : Int) 1) (sq3 f a y0 y1 g y2 h y3 i y4 j y5) (sq2 f a y0 y1 b g y2 c h y3 d i y4 e j y5))))))))))))))))))))) Pt) Pt) Pt) Pt)

set_option maxHeartbeats 4000000 in
theorem holds (n0_0 n0_1 n0_2 n0_3 n0_4 c0_0 c0_1 c0_2 c0_3 c0_4 r0_0 r0_1 r0_2 r0_3 r0_4 : Int) (l_n0_0 : 0 ≤ n0_0) (u_n0_0 : n0_0 ≤ 140737488355328) (l_n0_1 : 0 ≤ n0_1) (u_n0_1 : n0_1 ≤ 140737488355328) (l_n0_2 : 0 ≤ n0_2) (u_n0_2 : n0_2 ≤ 140737488355328) (l_n0_3 : 0 ≤ n0_3) (u_n0_3 : n0_3 ≤ 140737488355328) (l_n0_4 : 0 ≤ n0_4) (u_n0_4 : n0_4 ≤ 140737488355328) (h_n0_0 : n0_0 ≤ r0_0) (h_n0_1 : n0_1 ≤ r0_1) (h_n0_2 : n0_2 ≤ r0_2) (h_n0_3 : n0_3 ≤ r0_3) (h_n0_4 : n0_4 ≤ r0_4) : P n0_0 n0_1 n0_2 n0_3 n0_4 c0_0 c0_1 c0_2 c0_3 c0_4 r0_0 r0_1 r0_2 r0_3 r0_4 := by
  delta P sq0 sq1 sq2 sq3 Pb Pm Pn Pf Pt PL Pl Pe Pd W6 U3 kZ
  simp only [nrm, nro, Int.reduceEq, Int.reduceNeg, reduceIte]
  refine ⟨fun g1 => ⟨fun g2 => ⟨fun g3 => ⟨fun g4 => ⟨fun _ => trivial, fun g5 => ⟨fun _ => trivial, fun g6 => ?_⟩⟩, fun _ => trivial⟩, fun _ => trivial⟩, fun _ => trivial⟩, fun _ => trivial⟩
  refine ⟨by omega, by omega, by omega, by omega, by omega, h_n0_0, h_n0_1, h_n0_2, h_n0_3, h_n0_4, by omega, ?_⟩
  have hn : n0_0 ≤ 1000 := by omega
  have one : ¬(1 : Int) = 0 := by decide
  rintro x0 hx0 - x1 hx1 - x2 hx2 - x3 hx3 - x4 hx4 - x5 hx5 - ck hck -
  rw [← hck] at hx0 hx1 hx2 hx3 hx4 hx5
  simp only [sameZ_refl]
  refine ⟨fun h => ?_, fun h => ⟨hn, ?_⟩⟩
  · rw [if_neg h] at hx0 hx1 hx2 hx3 hx4 hx5
    subst hx0 hx1 hx2 hx3 hx4 hx5
    refine ⟨hn, one, ?_⟩
    simp only [if_true, sameW_0, sameZ_0, sameB_0]
    rintro u rfl -
    exact ⟨one, by omega, one, by omega, one, by omega, one, by omega, one, trivial⟩
  rw [if_pos h] at hx0 hx1 hx2 hx3 hx4 hx5
  refine ⟨fun p m => (0 ≤ p ∧ p ≤ n0_0) ∧ (∀ x : Nat, (x : Int) < p → Eng.Way (nxf c0_0 n0_0) (fun _ => False) 0 x → decZ (IntKind.wrap .u32 (rdZ c0_0 x)) 0 ≠ 40 ∧ decZ (IntKind.wrap .u32 (rdZ c0_0 x)) 0 ≠ 41) ∧ m = (n0_0 - p).toNat, ⟨_, ⟨by omega, by omega⟩, fun x hx => by omega, rfl⟩, ?_⟩
  rintro p m ⟨p8, p9⟩ ⟨⟨p0, p1⟩, hJ, rfl⟩
  refine ⟨fun plt => ?_, fun pge => ?_⟩
  · obtain ⟨x, rfl⟩ := Int.eq_ofNat_of_zero_le p0
    have hr := gfm_0 (c := c0_0) hn p0 plt
    rw [Int.toNat_natCast] at hr
    rintro y0 e0 - y1 - - y2 - - y3 - - y4 - - y5 e5 -
    have h2 := dec_two (rdZ c0_0 x)
    rw [← e0, ← e5] at h2
    have next : (Eng.Way (nxf c0_0 n0_0) (fun _ => False) 0 x → y0 ≠ 40 ∧ y0 ≠ 41) → (x : Int) + 1 ≤ 4611686018427387904 ∧ ∃ m', m' < (n0_0 - (x : Int)).toNat ∧ (0 ≤ (x : Int) + 1 ∧ (x : Int) + 1 ≤ n0_0) ∧ (∀ z : Nat, (z : Int) < (x : Int) + 1 → Eng.Way (nxf c0_0 n0_0) (fun _ => False) 0 z → decZ (IntKind.wrap .u32 (rdZ c0_0 z)) 0 ≠ 40 ∧ decZ (IntKind.wrap .u32 (rdZ c0_0 z)) 0 ≠ 41) ∧ m' = (n0_0 - ((x : Int) + 1)).toNat := fun g => ⟨by omega, _, by omega, ⟨by omega, by omega⟩, fun z hz hw => by
      by_cases e : z = x
      · subst e; rw [← e0]; exact g hw
      · exact hJ z (by omega) hw, rfl⟩
    have bad : Eng.Way (nxf c0_0 n0_0) (fun _ => False) 0 x → (y0 = 40 ∨ y0 = 41) → ¬slmE c0_0 n0_0 = 0 := fun hw hk => slmE_ne.2 ⟨x, plt, hw, by rw [← e0]; exact hk⟩
    have out : ¬slmE c0_0 n0_0 = 0 → ∀ u : Int, (u = if x0 = 0 then qJe (slmZ c0_0 n0_0) 0 x0 else 0) → ¬u = 0 ∧ x1 ≤ 1000000 ∧ ¬(if x1 = 0 then qJe c0_1 0 x1 else 0) = 0 ∧ x2 ≤ 1000000 ∧ ¬(if x2 = 0 then sameB c0_2 0 x2 else 0) = 0 ∧ x3 ≤ 1000000 ∧ ¬(if x3 = 0 then qXo c0_3 0 x3 else 0) = 0 ∧ x4 ≤ 1000000 ∧ ¬(if x4 = 0 then qXo c0_4 0 x4 else 0) = 0 ∧ x5 = 12 := fun hE => by
      rw [if_neg hE] at hx0 hx1 hx2 hx3 hx4 hx5
      subst hx0 hx1 hx2 hx3 hx4 hx5
      simp only [if_true, sameW_0, sameZ_0, sameB_0]
      rintro u rfl
      exact ⟨one, by omega, one, by omega, one, by omega, one, by omega, one, trivial⟩
    exact ⟨fun h5 => ⟨fun h0 => ⟨fun h40 => ⟨one, fun u hu _ => out (bad (hr.1 h0) (.inl h40)) u hu⟩, fun h40 => ⟨fun h41 => ⟨one, fun u hu _ => out (bad (hr.1 h0) (.inr h41)) u hu⟩, fun h41 => next fun _ => ⟨h40, h41⟩⟩⟩, fun h0 => next fun hw => absurd h0 (hr.2 hw)⟩, fun h5 => next fun _ => by clear next out bad; omega⟩
  · have e : p = n0_0 := by omega
    subst e
    have hE : slmE c0_0 p = 0 := Classical.byContradiction fun g => by
      obtain ⟨x, hx, hw, hk⟩ := slmE_ne.1 g
      have := hJ x hx hw
      omega
    rw [if_pos hE] at hx0 hx1 hx2 hx3 hx4 hx5
    have hb := plcN_bd c0_0 p
    refine ⟨fun q l k m => (0 ≤ k ∧ k ≤ plcN c0_0 p) ∧ SlD c0_0 p k q l ∧ m = (plcN c0_0 p - k).toNat, ⟨_, ⟨by omega, by omega⟩, SlD.zero, rfl⟩, ?_⟩
    rintro q l k m ⟨⟨l0, l1⟩, ⟨k8, k9⟩⟩ ⟨⟨k0, k1⟩, hD, rfl⟩
    have hlen := hD.len
    refine ⟨fun klt => ?_, fun kge => ?_⟩
    · obtain ⟨x, hx, hxw, hxn, hs⟩ := plc_at (c := c0_0) hn k0 klt
      rintro u hu -
      rw [hxw] at hu
      subst hu
      refine ⟨by omega, hxn, ?_⟩
      rintro y0 e0 - y1 e1 - y2 e2 - y3 e3 - y4 e4 - y5 e5 -
      have h2 := dec_two (rdZ c0_0 x)
      rw [← e0, ← e5] at h2
      have hl1 : l + 1 ≤ 1000000 := by omega
      have hk2 : k + 1 ≤ 4611686018427387904 := by omega
      have hm1 : (plcN c0_0 p - (k + 1)).toNat < (plcN c0_0 p - k).toNat := by omega
      have hp1 : 0 ≤ k + 1 ∧ k + 1 ≤ plcN c0_0 p := by omega
      have back : ∀ w : Int, w = slmW c0_0 p x → l + 1 ≤ 1000000 ∧ l + 1 ≤ 1000000 ∧ k + 1 ≤ 4611686018427387904 ∧ ∃ m', m' < (plcN c0_0 p - k).toNat ∧ (0 ≤ k + 1 ∧ k + 1 ≤ plcN c0_0 p) ∧ SlD c0_0 p (k + 1) (updZ q l w) (l + 1) ∧ m' = (plcN c0_0 p - (k + 1)).toNat := fun w hw => ⟨hl1, hl1, hk2, _, hm1, hp1, hD.put hn k0 klt hx hw, rfl⟩
      have dflt : ¬(y0 = 36 ∨ y0 = 37 ∨ y0 = 38 ∨ y0 = 39) → _ := fun h => back _ (slm_no (n := p) e0 h).symm
      refine ⟨fun h5 => ?_, fun h5 => dflt (by clear dflt back; omega)⟩
      refine ⟨fun j m => (0 ≤ j ∧ j ≤ 4) ∧ (∀ z : Nat, (z : Int) < j → y0 ≠ 36 + z) ∧ m = (4 - j).toNat, ⟨_, ⟨by clear dflt back; omega, by clear dflt back; omega⟩, fun z hz => by clear dflt back; omega, rfl⟩, ?_⟩
      rintro j m ⟨j8, j9⟩ ⟨⟨j0, j1⟩, hT, rfl⟩
      have ht := fun h => tB_at j0 h
      unfold tB at ht
      refine ⟨fun jlt => ?_, fun jge => dflt ?_⟩
      · rw [ht jlt]
        refine ⟨fun he => ?_, fun he => ⟨by clear dflt back; omega, _, ?_, ⟨by clear dflt back; omega, by clear dflt back; omega⟩, fun z hz => ?_, rfl⟩⟩
        · obtain ⟨a1, a2⟩ := slm_br (n := p) e0 e1 e2 e3 e4 (by clear dflt back; omega)
          have hck := clt_le (c := plcZ c0_0 p) (t := y4) hb.1 (by clear dflt back; omega)
          refine ⟨fun hlt => ?_, fun hge => ?_⟩
          · obtain ⟨b1, b2⟩ := a2 (by clear dflt back; omega)
            refine ⟨b1, by clear dflt back; omega, by clear dflt back; omega, ?_⟩
            rintro w hw -
            exact back w (hw.trans b2)
          · obtain ⟨b1, b2⟩ := a1 (by clear dflt back; omega)
            refine ⟨b1, by clear dflt back; omega, by clear dflt back; omega, ?_⟩
            rintro w hw -
            exact back w (hw.trans b2)
        · clear dflt back; omega
        · by_cases g : (z : Int) = j
          · clear dflt back; omega
          · exact hT z (by clear dflt back; omega)
      · have h0 := hT 0 (by clear dflt back; omega)
        have h1 := hT 1 (by clear dflt back; omega)
        have h2 := hT 2 (by clear dflt back; omega)
        have h3 := hT 3 (by clear dflt back; omega)
        clear dflt back
        omega
    · obtain ⟨f1, f2⟩ := hD.fin hn k0 (by omega)
      rw [f1, hx0, hx1, hx2, hx3, hx4, hx5]
      simp only [if_true, f2, sameW_refl, sameB_refl]
      refine ⟨one, ?_⟩
      rintro u rfl -
      exact ⟨one, by omega, one, by omega, one, by omega, one, by omega, one, trivial⟩

theorem plain (i v ro p) : statR 2 rc tree ⟨i, fN, v, ro, p⟩ = P (i 0) (i 1) (i 2) (i 3) (i 4) (i 5) (i 6) (i 7) (i 8) (i 9) (i 10) (i 11) (i 12) (i 13) (i 14) := by kernel_rfl
theorem ran : ranR us (fun f i => match f, i with | 7, 14 => .tmpl (some mk7_14) | _, _ => .auto) rc 2 tree = true := by kernel_rfl
theorem fineT : fineR 2 rc tree = true := by kernel_rfl
theorem ok : RcOk (cxOf 2) rc := okR us_ok ran fineT okb fun i v ro p hρ hcap hpre => by rw [plain]; have q := hρ.hi; exact holds _ _ _ _ _ _ _ _ _ _ _ _ _ _ _ (q 0 _ rfl).1 (q 0 _ rfl).2 (q 1 _ rfl).1 (q 1 _ rfl).2 (q 2 _ rfl).1 (q 2 _ rfl).2 (q 3 _ rfl).1 (q 3 _ rfl).2 (q 4 _ rfl).1 (q 4 _ rfl).2 (hcap _ (mg 0 rfl)) (hcap _ (mg 1 rfl)) (hcap _ (mg 2 rfl)) (hcap _ (mg 3 rfl)) (hcap _ (mg 4 rfl))

theorem walk (w : World) (a0_0 : RO) (k0_0 : a0_0.cks = [.int .u32]) (n0_0 : a0_0.a = none → a0_0.n = 0) (m0_0 : a0_0.n ≤ a0_0.cap) (t0_0 : RoAt w a0_0) (b0_0 : (a0_0.n : Int) ≤ 140737488355328) (a0_1 : RO) (k0_1 : a0_1.cks = [.int .i32]) (n0_1 : a0_1.a = none → a0_1.n = 0) (m0_1 : a0_1.n ≤ a0_1.cap) (t0_1 : RoAt w a0_1) (b0_1 : (a0_1.n : Int) ≤ 140737488355328) (a0_2 : RO) (k0_2 : a0_2.cks = [.bool]) (n0_2 : a0_2.a = none → a0_2.n = 0) (m0_2 : a0_2.n ≤ a0_2.cap) (t0_2 : RoAt w a0_2) (b0_2 : (a0_2.n : Int) ≤ 140737488355328) (a0_3 : RO) (k0_3 : a0_3.cks = [.int .i64]) (n0_3 : a0_3.a = none → a0_3.n = 0) (m0_3 : a0_3.n ≤ a0_3.cap) (t0_3 : RoAt w a0_3) (b0_3 : (a0_3.n : Int) ≤ 140737488355328) (a0_4 : RO) (k0_4 : a0_4.cks = [.int .i64]) (n0_4 : a0_4.a = none → a0_4.n = 0) (m0_4 : a0_4.n ≤ a0_4.cap) (t0_4 : RoAt w a0_4) (b0_4 : (a0_4.n : Int) ≤ 140737488355328) :
    Calls Try.prog 3 #[.agg #[.slice a0_0.a a0_0.n a0_0.cap, .slice a0_1.a a0_1.n a0_1.cap, .slice a0_2.a a0_2.n a0_2.cap, .slice a0_3.a a0_3.n a0_3.cap, .slice a0_4.a a0_4.n a0_4.cap]] w fun e w' => e = .returned (.bool true) ∧ Below w.heap.size w w' := by
  refine law_of (cx := cxOf 2) ok ⟨rfl, rfl, rfl⟩ (ρ := envR Try.prog [(a0_0.n : Int), (a0_1.n : Int), (a0_2.n : Int), (a0_3.n : Int), (a0_4.n : Int), a0_0.c, a0_1.c, a0_2.c, a0_3.c, a0_4.c, (a0_0.cap : Int), (a0_1.cap : Int), (a0_2.cap : Int), (a0_3.cap : Int), (a0_4.cap : Int)] [a0_0, a0_1, a0_2, a0_3, a0_4]) (envR_ok (cx := rc.cx (cxOf 2)) rfl rfl (bnd_cons ⟨Int.natCast_nonneg _, b0_0⟩ (bnd_cons ⟨Int.natCast_nonneg _, b0_1⟩ (bnd_cons ⟨Int.natCast_nonneg _, b0_2⟩ (bnd_cons ⟨Int.natCast_nonneg _, b0_3⟩ (bnd_cons ⟨Int.natCast_nonneg _, b0_4⟩ (bnd_nil _)))))) ⟨⟨k0_0, rfl, (Int.toNat_natCast _).symm, (Int.toNat_natCast _).symm, n0_0, fun g h => by cases h⟩, ⟨⟨k0_1, rfl, (Int.toNat_natCast _).symm, (Int.toNat_natCast _).symm, n0_1, fun g h => by cases h⟩, ⟨⟨k0_2, rfl, (Int.toNat_natCast _).symm, (Int.toNat_natCast _).symm, n0_2, fun g h => by cases h⟩, ⟨⟨k0_3, rfl, (Int.toNat_natCast _).symm, (Int.toNat_natCast _).symm, n0_3, fun g h => by cases h⟩, ⟨⟨k0_4, rfl, (Int.toNat_natCast _).symm, (Int.toNat_natCast _).symm, n0_4, fun g h => by cases h⟩, trivial⟩⟩⟩⟩⟩) (fun d hd => by
    simp only [show qXe rc.b rc.c rc.ls 0 0 0 = [⟨[.int .u32], .v 5, .v 0, .v 10, none⟩, ⟨[.int .i32], .v 6, .v 1, .v 11, none⟩, ⟨[.bool], .v 7, .v 2, .v 12, none⟩, ⟨[.int .i64], .v 8, .v 3, .v 13, none⟩, ⟨[.int .i64], .v 9, .v 4, .v 14, none⟩] from rfl, List.mem_cons, List.not_mem_nil, or_false] at hd
    rcases hd with rfl | rfl | rfl | rfl | rfl
    · exact Int.ofNat_le.2 m0_0
    · exact Int.ofNat_le.2 m0_1
    · exact Int.ofNat_le.2 m0_2
    · exact Int.ofNat_le.2 m0_3
    · exact Int.ofNat_le.2 m0_4) (roOk_of ⟨t0_0, ⟨t0_1, ⟨t0_2, ⟨t0_3, ⟨t0_4, trivial⟩⟩⟩⟩⟩) ?_
  rw [show rc.args = [.agg [.sl (.inp 0) 1 (.c 0) (.v 0) (some (.v 10)), .sl (.inp 1) 1 (.c 0) (.v 1) (some (.v 11)), .sl (.inp 2) 1 (.c 0) (.v 2) (some (.v 12)), .sl (.inp 3) 1 (.c 0) (.v 3) (some (.v 13)), .sl (.inp 4) 1 (.c 0) (.v 4) (some (.v 14))]] from rfl]
  simp only [SV.denL, SV.den, E.ev, qXt]
  rfl
theorem lifted (os : Os) (started : os.Started) (H : Type) (enc : TypeId × Value → H) :
    ReturnsInHanded {} Try.checked os 3 .any (Rows.slimTellsSpec.pre6 enc Try.prog Try.f3 Rows.slimTellsRow.domain false) (Rows.slimTellsSpec.post enc Try.prog Try.f3 false true false false) := by
  refine returnsInHanded_of_change_sized (C := Try.checked) own started (by kernel_rfl) Try.func3
    (ChangeSpec.witness6 (enc := enc) (C := Try.checked) false ⟨#[], #[.agg #[.slice none 0 0, .slice none 0 0, .slice none 0 0, .slice none 0 0, .slice none 0 0]], []⟩ 8 (by kernel_rfl) (by kernel_rfl) (by kernel_rfl) (by kernel_rfl)) ?_
  intro W base args ds gs before hval0 hW hcnd hw0 _
  have hval : ∀ (j : Nat) t v, Try.f3.params[j]? = some t → args[j]? = some v → Value.okWide Try.prog W .any base t v := hval0
  have hW' := hW
  obtain ⟨p, q, hA0, hV, rfl, hfz, hnd⟩ := hW
  have hA : DataW.TrodAll enc Try.prog W 0 (fun _ => true) true Try.f3.params.toList args.toList ds p := hA0
  have hw := hw0
  rw [Try.params3] at hA hval hw
  obtain ⟨v0, vs0, d0, ds0, p0, q0, hargs, rfl, rfl, h0, r0⟩ := trodAll_cons hA
  have h0k := h0
  obtain ⟨rfl, rfl, rfl⟩ := trodAll_nil r0
  obtain rfl : args = #[v0] := by cases args; simp_all
  obtain ⟨rfl, rfl⟩ := trodVars_none hV
  obtain ⟨ros0, hl0, rfl, hp0⟩ := Go.Eng.open_rows (kss := [[.int .u32], [.int .i32], [.bool], [.int .i64], [.int .i64]]) Try.underlying27 (by kernel_rfl) (by kernel_rfl) ⟨⟨⟨_, Try.underlying22, (ElT.one Try.underlying36 (by kernel_rfl)), of_decide_eq_true (by kernel_rfl), by kernel_rfl⟩, by decide⟩, ⟨⟨_, Try.underlying23, (ElT.one Try.underlying21 (by kernel_rfl)), of_decide_eq_true (by kernel_rfl), by kernel_rfl⟩, by decide⟩, ⟨⟨_, Try.underlying24, (ElT.one Try.underlying4 (by kernel_rfl)), of_decide_eq_true (by kernel_rfl), by kernel_rfl⟩, by decide⟩, ⟨⟨_, Try.underlying25, (ElT.one Try.underlying3 (by kernel_rfl)), of_decide_eq_true (by kernel_rfl), by kernel_rfl⟩, by decide⟩, ⟨⟨_, Try.underlying25, (ElT.one Try.underlying3 (by kernel_rfl)), of_decide_eq_true (by kernel_rfl), by kernel_rfl⟩, by decide⟩, trivial⟩ (hval 0 27 v0 rfl rfl) h0 (weights_of (gs := []) hw (j := 0) (t := 27) rfl rfl)
  obtain ⟨a0_0, ros0, rfl⟩ := List.exists_cons_of_length_eq_add_one hl0
  have hl0 := Nat.succ.inj hl0
  obtain ⟨a0_1, ros0, rfl⟩ := List.exists_cons_of_length_eq_add_one hl0
  have hl0 := Nat.succ.inj hl0
  obtain ⟨a0_2, ros0, rfl⟩ := List.exists_cons_of_length_eq_add_one hl0
  have hl0 := Nat.succ.inj hl0
  obtain ⟨a0_3, ros0, rfl⟩ := List.exists_cons_of_length_eq_add_one hl0
  have hl0 := Nat.succ.inj hl0
  obtain ⟨a0_4, ros0, rfl⟩ := List.exists_cons_of_length_eq_add_one hl0
  have hl0 := Nat.succ.inj hl0
  obtain rfl := List.eq_nil_of_length_eq_zero hl0
  obtain ⟨k0_0, n0_0, m0_0, t0_0, b0_0, _⟩ := hp0 0 _ _ rfl rfl
  obtain ⟨k0_1, n0_1, m0_1, t0_1, b0_1, _⟩ := hp0 1 _ _ rfl rfl
  obtain ⟨k0_2, n0_2, m0_2, t0_2, b0_2, _⟩ := hp0 2 _ _ rfl rfl
  obtain ⟨k0_3, n0_3, m0_3, t0_3, b0_3, _⟩ := hp0 3 _ _ rfl rfl
  obtain ⟨k0_4, n0_4, m0_4, t0_4, b0_4, _⟩ := hp0 4 _ _ rfl rfl
  clear hA0 hval0
  refine (walk W a0_0 k0_0 n0_0 m0_0 t0_0 b0_0 a0_1 k0_1 n0_1 m0_1 t0_1 b0_1 a0_2 k0_2 n0_2 m0_2 t0_2 b0_2 a0_3 k0_3 n0_3 m0_3 t0_3 b0_3 a0_4 k0_4 n0_4 m0_4 t0_4 b0_4).mono fun e W' ⟨he, hg⟩ => ?_
  subst he
  have hin0 : ∀ x ∈ p0, x ∈ p0 ++ [] ++ [] := fun x hx => by simp [hx]
  have hlt0 : ∀ x ∈ p0, x.block < W.heap.size := fun x hx => by simpa using hW'.lt x (by simp [hx])
  exact ⟨_, rfl, post_below (pa := _) (pv := []) hW' hg (fun _ _ _ => (trodAll_cons_mk (shut_bool Try.underlying4 _) trodAll_mk0)) (fun sp hsp => (trodAll_cons_mk (WideElems.Trod_stays laidOut (by kernel_rfl) (of_decide_eq_true (by kernel_rfl)) h0k (fun x hx => hg.same (hlt0 x hx)) (fun x hx => hsp x (hin0 x hx))) trodAll_mk0)) (fun _ _ => rfl) (by simp)
    (ok_one (by kernel_rfl) rfl (okWide_bool_mk Try.underlying4 _))⟩

theorem over : Rows.slimTellsRow.holds Try.pinned (OpenSpec.ofChange Rows.slimTellsSpec) :=
  OpenClaim.holds_of_wide 3 Try.f3 rfl rfl rfl rfl rfl rfl rfl ⟨rfl, rfl, rfl, rfl, rfl⟩ rfl rfl rfl rfl rfl (by kernel_rfl) Try.func3 (by kernel_rfl)
    (of_decide_eq_true (by kernel_rfl)) (by unfold Func.isWrapper; first | (rw [if_pos (by decide +kernel)]; kernel_rfl) | (rw [if_neg (by decide +kernel)]; exact ⟨rfl, rfl⟩))
    (fun os started H enc _ => lifted os started H enc)

/-- the statement -/
theorem proved : Rows.SlimTellsSaid :=
  over
#print axioms proved
end Go.Proofs.Ythfckifhnaoopac.slimTells
