/-
  What functions of the program answer, as numbers of what they are handed: their runs by the engine, the plain statements behind them. No condition.
-/
import Derived.Test.YtfkdlidcogpncaaGreatDoorKd
import Derived.Test.YtfkdlidcogpncaaGreatDoorKj
import Derived.Test.YtfkdlidcogpncaaGreatDoorGab
import Derived.Test.YtfkdlidcogpncaaGreatDoorGmQ
import Derived.Test.YtfkdlidcogpncaaGreatDoorGmC
set_option linter.unusedVariables false
set_option linter.unusedSimpArgs false
set_option maxRecDepth 100000
namespace Go.Proofs.YtfkdlidcogpncaaGreatDoor
open Go.Eng Go.RowKit
namespace CRFTell
def rc : Rc := ⟨7, [some 5, none], [.row [.int .u32] 1000000, .row [.int .i32] 1000000, .row [.bool] 1000000, .row [.int .i64] 1000000, .row [.int .i64] 1000000, .int .i64], [(.b .le .i64 (.v 5) (.c 300))], .tup [some 3, none], [.row [.int .i64, .int .i64, .int .i64] 40 (.f 13 (.f 97 (.v 6) (.v 0) (qQv [(.v 1), (.v 5), (.v 7), (.v 8)])) (.c 0) (.c 0)) (.ite (.b .eq .i64 (.f 84 (.v 0) (.v 1) (qQv [(.v 2), (.v 3), (.v 4), (.v 9), (.v 10)])) (.c 0)) (.w .i64 (.f 13 (.f 97 (.v 6) (.v 0) (qQv [(.v 1), (.v 5), (.v 7), (.v 8)])) (.c 1) (.c 0))) (.c 0)), .int .i64 (.ite (.b .eq .i64 (.f 84 (.v 0) (.v 1) (qQv [(.v 2), (.v 3), (.v 4), (.v 9), (.v 10)])) (.c 0)) (.w .i64 (.f 13 (.f 97 (.v 6) (.v 0) (qQv [(.v 1), (.v 5), (.v 7), (.v 8)])) (.c 2) (.c 0))) (.c 0)), .int .i64 (.ite (.b .eq .i64 (.f 84 (.v 0) (.v 1) (qQv [(.v 2), (.v 3), (.v 4), (.v 9), (.v 10)])) (.c 0)) (.w .i64 (.f 13 (.f 97 (.v 6) (.v 0) (qQv [(.v 1), (.v 5), (.v 7), (.v 8)])) (.c 3) (.c 0))) (.c 0)), .int .i64 (.ite (.b .eq .i64 (.f 84 (.v 0) (.v 1) (qQv [(.v 2), (.v 3), (.v 4), (.v 9), (.v 10)])) (.c 0)) (.w .i64 (.f 13 (.f 97 (.v 6) (.v 0) (qQv [(.v 1), (.v 5), (.v 7), (.v 8)])) (.c 4) (.c 0))) (.f 84 (.v 0) (.v 1) (qQv [(.v 2), (.v 3), (.v 4), (.v 9), (.v 10)])))]⟩
theorem okb : rc.ok = true := by kernel_rfl
noncomputable def us : SMs := fun Γ ins n => smH (cxG n Γ ins) [CRFStep.rk.rh] (smR (cxG n Γ ins) [CRICheck.rc])
theorem us_ok : SMsOk us := fun Γ ins n => qQp (tabsG n Γ ins) (qZn CRFStep.okh (rh_n CRFStep.ok) (qQa _)) (qQn (tabsG n Γ ins) (qQk CRICheck.okb (rc_n CRICheck.ok) (qQb _)))
def Q0 : E := (.cl 1001 0 4611686018427387904)
def Q1 : E := (tR (.v 8) Q0)
def Q2 : E := (.cl 1003 0 1000000)
def Q3 : E := (tp Q2 (.c 1))
def Q4 : E := (tl Q3 (.c 1000000))
def Q5 : E := (.cl 1005 0 1000000)
def Q6 : E := (tp Q5 (.c 1))
def Q7 : E := (tl Q6 (.c 1000000))
def Q8 : E := (tp Q0 (.c 1))
def Q9 : E := (tl Q8 (.c 4611686018427387904))
def Q10 : E := (.nt Q1)
def Q11 : E := (.f 14 (.v 1004) Q5 Q10)
def Q12 : E := (.cl 1009 0 4611686018427387904)
def Q13 : E := (.cl 1014 (-9223372036854775808) 9223372036854775807)
def Q14 : E := (.cl 1013 0 1000000)
def Q15 : E := (.cl 1015 (-9223372036854775808) 9223372036854775807)
def Q16 : E := (tC Q14 (.c 0))
def Q17 : E := (tC (.v 1012) Q16)
def Q18 : E := (tC Q13 Q17)
def Q19 : E := (tC Q15 Q18)
def Q20 : E := (tC (.v 1017) Q19)
def Q21 : E := (tC (.v 1016) Q20)
def Q22 : E := (tC (.v 1011) Q21)
def Q23 : E := (tC (.v 1010) Q22)
def Q24 : E := (tC Q2 Q23)
def Q25 : E := (.f 101 (.v 6) (.v 0) Q24)
def Q26 : E := (tp Q12 (.c 1))
def Q27 : E := (tR Q25 (.c 7))
def Q28 : E := (t6 Q27)
def Q29 : E := (tR Q25 (.c 6))
def Q30 : E := (tR Q25 (.c 5))
def Q31 : E := (t6 Q30)
def Q32 : E := (tR Q25 (.c 4))
def Q33 : E := (t6 Q32)
def tree : TT (List E) :=
 (.br (tl (.v 0) (.v 11)) (.br (tl (.v 1) (.v 12)) (.br (tl (.v 2) (.v 13)) (.br (tl (.v 3) (.v 14)) (.br (tl (.v 4) (.v 15)) (.new 1000 (.f 84 (.v 0) (.v 1) (tC (.v 2) (tC (.v 3) (tC (.v 4) (tC (.v 9) (tC (.v 10) (.c 0))))))) (.br (tn (.cl 1000 0 9) (.c 0)) (.leaf [(.c 0), (.c 0), (.c 0), (.c 0), (.cl 1000 0 9)]) (.loop ⟨1001, [some (0, 4611686018427387904), none, some (0, 1000000), none, some (0, 1000000)], [(.c 0), (.c 0), (.c 0), (.c 0), (.c 0)], 1007⟩ (.br (tk Q0 (.v 1)) (.br (tk Q0 (.v 2)) (.br Q1 (.br Q4 (.br Q7 (.br Q9 (.br Q4 (.br Q7 (.back [Q8, (.f 14 (.v 1002) Q2 (.c 0)), Q3, Q11, Q6]) (.bad 303)) (.bad 303)) (.bad 303)) (.bad 200)) (.bad 200)) (.br Q4 (.br Q7 (.br Q9 (.br Q4 (.br Q7 (.back [Q8, (.f 14 (.v 1002) Q2 (t3 (tR (.v 7) Q0))), Q3, Q11, Q6]) (.bad 303)) (.bad 303))
 (.bad 303)) (.bad 200)) (.bad 200))) (.bad 200)) (.exit 0)) (.loop ⟨1009, [some (0, 4611686018427387904), none, none, none, some (0, 1000000), some (-9223372036854775808, 9223372036854775807), some (-9223372036854775808, 9223372036854775807), none, none], [(.c 0), (tC (.c 0) (tC (.c 0) (tC (.c 0) (tC (.c 0) (tC (.c 0) (tC (.c 0) (tC (.c 0) (tC (.c 0) (tC (.c 0) (tC (.c 0) (tC (.c 0) (tC (.c 0) (tC (.c 0) (tC (.c 0) (tC (.c 0) (tC (.c 0) (tC (.c 0) (tC (.c 0) (tC (.c 0) (tC (.c 0) (tC (.c 0) (tC (.c 0) (tC (.c 0) (tC (.c 0) (tC (.c 0) (tC (.c 0) (tC (.c 0) (tC (.c 0) (tC (.c 0) (tC (.c 0) (tC (.c 0) (tC (.c 0) (.c 0))))))))))))))))))))))))))))))))), (tC (.c 1) (tC (.c 1) (tC (.c 1) (tC (.c 1) (tC (.c 1) (tC (.c 1) (tC (.c 1) (tC (.c 1) (tC (.c 1) (tC (.c 1) (tC (.c 1) (tC (.c 1) (tC (.c
 1) (tC (.c 1) (tC (.c 1) (tC (.c 1) (tC (.c 1) (tC (.c 1) (tC (.c 1) (tC (.c 1) (tC (.c 1) (tC (.c 1) (tC (.c 1) (tC (.c 1) (tC (.c 1) (tC (.c 1) (tC (.c 1) (tC (.c 1) (tC (.c 1) (tC (.c 1) (tC (.c 1) (tC (.c 1) (.c 0))))))))))))))))))))))))))))))))), (.c 0), (.c 0), (.c 0), (.c 0), (.v 1002), (.v 1004)], 1019⟩ (.br (tk Q12 (.v 5)) (.br (tk Q12 (.c 1048576)) (.br (te Q13 (.c 0)) (.br (tl (.c 0) Q13) (.br (tl Q13 (.c 0)) (.br (tl Q14 (.c 999999)) (.br (tl Q2 (.c 2048)) (.br (tl Q5 (.c 2048)) (.br (tl (.v 0) (.c 16384)) (.br (te Q2 Q5) (.br (.nt (tR Q25 (.c 8))) (.exit 0) (.br (tl Q26 (.c 4611686018427387904)) (.br (tl (.c 0) Q28) (.br (tl Q28 (.c 1000000)) (.back [Q26, (tR Q25 (.c 0)), (tR Q25 (.c 1)), Q29, Q28, Q31, Q33, (tR Q25 (.c 2)), (tR Q25 (.c 3))]) (.bad 303)) (.bad 303)) (.bad
 303))) (.bad 200)) (.bad 200)) (.bad 200)) (.bad 200)) (.bad 200)) (.bad 200)) (.bad 200)) (.exit 1)) (.exit 2)) (.exit 3)) (.br (te (.v 1019) (.c 0)) (.leaf [Q28, Q29, Q31, Q33, (.c 12)]) (.br (te (.v 1019) (.c 1)) (.leaf [Q14, (.v 1012), Q13, Q15, (.c 0)]) (.br (te (.v 1019) (.c 2)) (.leaf [Q14, (.v 1012), Q13, Q15, (.c 0)]) (.leaf [Q14, (.v 1012), Q13, Q15, (.c 0)])))))))) (.bad 200)) (.bad 200)) (.bad 200)) (.bad 200)) (.bad 200))
noncomputable def sq0 (g a y3 y10 y11 y16 y17 y15 y14 y12 y13 : Int) : Int := (rfsZ g a (kZ y3 (kZ y10 (kZ y11 (kZ y16 (kZ y17 (kZ y15 (kZ y14 (kZ y12 (kZ y13 0))))))))))
def sL0 (a b c d e j k g f h i z0 z2 z4 z5 z7 z9 : Int) : Prop := (z0 : Int) = (iteZ (Pe (chkZ a b (kZ c (kZ d (kZ e (kZ j (kZ k 0)))))) 0) (W6 (rdZ (ftlZ g a (kZ b (kZ f (kZ h (kZ i 0))))) 1)) 0) ∧ qQw [.int .i64, .int .i64, .int .i64] z2 (rdZ (ftlZ g a (kZ b (kZ f (kZ h (kZ i 0))))) 0) z4 ∧ (z5 : Int) = (iteZ (Pe (chkZ a b (kZ c (kZ d (kZ e (kZ j (kZ k 0)))))) 0) (W6 (rdZ (ftlZ g a (kZ b (kZ f (kZ h (kZ i 0))))) 2)) 0) ∧ (z7 : Int) = (iteZ (Pe (chkZ a b (kZ c (kZ d (kZ e (kZ j (kZ k 0)))))) 0) (W6 (rdZ (ftlZ g a (kZ b (kZ f (kZ h (kZ i 0))))) 3)) 0) ∧ (z9 : Int) = (iteZ (Pe (chkZ a b (kZ c (kZ d (kZ e (kZ j (kZ k 0)))))) 0) (W6 (rdZ (ftlZ g a (kZ b (kZ f (kZ h (kZ i 0))))) 4)) (chkZ a b (kZ c (kZ d (kZ e (kZ j (kZ k 0))))))) ∧ True
def P (a b c d e f g h i j k l n o p q : Int) : Prop :=
 (Pm (PL a l) (Pm (PL b n) (Pm (PL c o) (Pm (PL d p) (Pm (PL e q) (Pn (chkZ a b (kZ c (kZ d (kZ e (kZ j (kZ k 0)))))) 0 9 fun y0 => (Pb (Pd y0 0) (sL0 a b c d e j k g f h i 0 0 0 0 0 y0) (∃ I1001 : Int → Int → Int → Int → Int → Nat → Prop, (∃ m, I1001 0 0 0 0 0 m) ∧ ∀ y1 y2 y3 y4 y5 : Int, ∀ m1, ((0 ≤ y1 ∧ y1 ≤ 4611686018427387904) ∧ True ∧ (0 ≤ y3 ∧ y3 ≤ 1000000) ∧ True ∧ (0 ≤ y5 ∧ y5 ≤ 1000000) ∧ True) → I1001 y1 y2 y3 y4 y5 m1 → (Pb (Pl y1 b) (Pm (Pl y1 c) (Pb (rdZ i y1) (Pm (PL (y3 + 1) 1000000) (Pm (PL (y5 + 1) 1000000) (Pm (PL (y1 + 1) 4611686018427387904) (Pm (PL (y3 + 1) 1000000) (Pm (PL (y5 + 1) 1000000) (∃ m', m' < m1 ∧ I1001 (y1 + 1) (updZ y2 y3 0) (y3 + 1) (updZ y4 y5 (Pe (rdZ i y1) 0)) (y5 + 1) m')))))) (Pm (PL (y3 + 1) 1000000) (Pm (PL (y5 + 1) 1000000) (Pm (PL (y1 + 1)
 4611686018427387904) (Pm (PL (y3 + 1) 1000000) (Pm (PL (y5 + 1) 1000000) (∃ m', m' < m1 ∧ I1001 (y1 + 1) (updZ y2 y3 (W3 (rdZ h y1))) (y3 + 1) (updZ y4 y5 (Pe (rdZ i y1) 0)) (y5 + 1) m')))))))) (∃ I1009 : Int → Int → Int → Int → Int → Int → Int → Int → Int → Nat → Prop, (∃ m, I1009 0 z32 (kZ 1 (kZ 1 (kZ 1 (kZ 1 (kZ 1 (kZ 1 (kZ 1 (kZ 1 (kZ 1 (kZ 1 (kZ 1 (kZ 1 (kZ 1 (kZ 1 (kZ 1 (kZ 1 (kZ 1 (kZ 1 (kZ 1 (kZ 1 (kZ 1 (kZ 1 (kZ 1 (kZ 1 (kZ 1 (kZ 1 (kZ 1 (kZ 1 (kZ 1 (kZ 1 (kZ 1 (kZ 1 0)))))))))))))))))))))))))))))))) 0 0 0 0 y2 y4 m) ∧ ∀ y9 y10 y11 y12 y13 y14 y15 y16 y17 : Int, ∀ m9, ((0 ≤ y9 ∧ y9 ≤ 4611686018427387904) ∧ True ∧ True ∧ True ∧ (0 ≤ y13 ∧ y13 ≤ 1000000) ∧ ((-9223372036854775808) ≤ y14 ∧ y14 ≤ 9223372036854775807) ∧ ((-9223372036854775808) ≤ y15 ∧ y15 ≤ 9223372036854775807) ∧ True
 ∧ True ∧ True) → I1009 y9 y10 y11 y12 y13 y14 y15 y16 y17 m9 → (Pb (Pl y9 f) (Pb (Pl y9 1048576) (Pb (Pe y14 0) (Pm (PL 0 y14) (Pm (PL y14 0) (Pm (PL y13 999999) (Pm (PL y3 2048) (Pm (PL y5 2048) (Pm (PL a 16384) (Pm (Pe y3 y5) (Pb (Pe (rdZ (sq0 g a y3 y10 y11 y16 y17 y15 y14 y12 y13) 8) 0) (Pb (Pe (0 : Int) 0) (sL0 a b c d e j k g f h i (W6 (rdZ (sq0 g a y3 y10 y11 y16 y17 y15 y14 y12 y13) 7)) (rdZ (sq0 g a y3 y10 y11 y16 y17 y15 y14 y12 y13) 6) (W6 (rdZ (sq0 g a y3 y10 y11 y16 y17 y15 y14 y12 y13) 7)) (W6 (rdZ (sq0 g a y3 y10 y11 y16 y17 y15 y14 y12 y13) 5)) (W6 (rdZ (sq0 g a y3 y10 y11 y16 y17 y15 y14 y12 y13) 4)) 12) (Pb (Pe (0 : Int) 1) (sL0 a b c d e j k g f h i y13 y12 y13 y14 y15 0) (Pb (Pe (0 : Int) 2) (sL0 a b c d e j k g f h i y13 y12 y13 y14 y15 0) (sL0 a b c d e j k g f h i
 y13 y12 y13 y14 y15 0)))) (Pm (PL (y9 + 1) 4611686018427387904) (Pm (PL 0 (W6 (rdZ (sq0 g a y3 y10 y11 y16 y17 y15 y14 y12 y13) 7))) (Pm (PL (W6 (rdZ (sq0 g a y3 y10 y11 y16 y17 y15 y14 y12 y13) 7)) 1000000) (∃ m', m' < m9 ∧ I1009 (y9 + 1) (rdZ (sq0 g a y3 y10 y11 y16 y17 y15 y14 y12 y13) 0) (rdZ (sq0 g a y3 y10 y11 y16 y17 y15 y14 y12 y13) 1) (rdZ (sq0 g a y3 y10 y11 y16 y17 y15 y14 y12 y13) 6) (W6 (rdZ (sq0 g a y3 y10 y11 y16 y17 y15 y14 y12 y13) 7)) (W6 (rdZ (sq0 g a y3 y10 y11 y16 y17 y15 y14 y12 y13) 5)) (W6 (rdZ (sq0 g a y3 y10 y11 y16 y17 y15 y14 y12 y13) 4)) (rdZ (sq0 g a y3 y10 y11 y16 y17 y15 y14 y12 y13) 2) (rdZ (sq0 g a y3 y10 y11 y16 y17 y15 y14 y12 y13) 3) m')))))))))))) (Pb (Pe (1 : Int) 0) (sL0 a b c d e j k g f h i (W6 (rdZ (sq0 g a y3 y10 y11 y16 y17 y15 y14 y12 y13)
 7)) (rdZ (sq0 g a y3 y10 y11 y16 y17 y15 y14 y12 y13) 6) (W6 (rdZ (sq0 g a y3 y10 y11 y16 y17 y15 y14 y12 y13) 7)) (W6 (rdZ (sq0 g a y3 y10 y11 y16 y17 y15 y14 y12 y13) 5)) (W6 (rdZ (sq0 g a y3 y10 y11 y16 y17 y15 y14 y12 y13) 4)) 12) (Pb (Pe (1 : Int) 1) (sL0 a b c d e j k g f h i y13 y12 y13 y14 y15 0) (Pb (Pe (1 : Int) 2) (sL0 a b c d e j k g f h i y13 y12 y13 y14 y15 0) (sL0 a b c d e j k g f h i y13 y12 y13 y14 y15 0))))) (Pb (Pe (2 : Int) 0) (sL0 a b c d e j k g f h i (W6 (rdZ (sq0 g a y3 y10 y11 y16 y17 y15 y14 y12 y13) 7)) (rdZ (sq0 g a y3 y10 y11 y16 y17 y15 y14 y12 y13) 6) (W6 (rdZ (sq0 g a y3 y10 y11 y16 y17 y15 y14 y12 y13) 7)) (W6 (rdZ (sq0 g a y3 y10 y11 y16 y17 y15 y14 y12 y13) 5)) (W6 (rdZ (sq0 g a y3 y10 y11 y16 y17 y15 y14 y12 y13) 4)) 12) (Pb (Pe (2 : Int) 1) (sL0 a b
 c d e j k g f h i y13 y12 y13 y14 y15 0) (Pb (Pe (2 : Int) 2) (sL0 a b c d e j k g f h i y13 y12 y13 y14 y15 0) (sL0 a b c d e j k g f h i y13 y12 y13 y14 y15 0))))) (Pb (Pe (3 : Int) 0) (sL0 a b c d e j k g f h i (W6 (rdZ (sq0 g a y3 y10 y11 y16 y17 y15 y14 y12 y13) 7)) (rdZ (sq0 g a y3 y10 y11 y16 y17 y15 y14 y12 y13) 6) (W6 (rdZ (sq0 g a y3 y10 y11 y16 y17 y15 y14 y12 y13) 7)) (W6 (rdZ (sq0 g a y3 y10 y11 y16 y17 y15 y14 y12 y13) 5)) (W6 (rdZ (sq0 g a y3 y10 y11 y16 y17 y15 y14 y12 y13) 4)) 12) (Pb (Pe (3 : Int) 1) (sL0 a b c d e j k g f h i y13 y12 y13 y14 y15 0) (Pb (Pe (3 : Int) 2) (sL0 a b c d e j k g f h i y13 y12 y13 y14 y15 0) (sL0 a b c d e j k g f h i y13 y12 y13 y14 y15 0)))))))))))))))
set_option maxHeartbeats 4000000 in
theorem holds (n0_0 n0_1 n0_2 n0_3 n0_4 p1 c0_0 c0_1 c0_2 c0_3 c0_4 r0_0 r0_1 r0_2 r0_3 r0_4 : Int) (l_n0_0 : 0 ≤ n0_0) (u_n0_0 : n0_0 ≤ 1000000) (l_n0_1 : 0 ≤ n0_1) (u_n0_1 : n0_1 ≤ 1000000) (l_n0_2 : 0 ≤ n0_2) (u_n0_2 : n0_2 ≤ 1000000) (l_n0_3 : 0 ≤ n0_3) (u_n0_3 : n0_3 ≤ 1000000) (l_n0_4 : 0 ≤ n0_4) (u_n0_4 : n0_4 ≤ 1000000) (l_p1 : -9223372036854775808 ≤ p1) (u_p1 : p1 ≤ 9223372036854775807) (h_n0_0 : n0_0 ≤ r0_0) (h_n0_1 : n0_1 ≤ r0_1) (h_n0_2 : n0_2 ≤ r0_2) (h_n0_3 : n0_3 ≤ r0_3) (h_n0_4 : n0_4 ≤ r0_4) (h_pre0 : qQz (decide (p1  ≤  300)) ≠ 0) : P n0_0 n0_1 n0_2 n0_3 n0_4 p1 c0_0 c0_1 c0_2 c0_3 c0_4 r0_0 r0_1 r0_2 r0_3 r0_4 := by
 delta P sq0 sL0 Pb Pm Pn PL Pl Pe Pd W6 W3 kZ z32
 have hp : p1 ≤ 300 := by simpa [qQz] using h_pre0
 simp only [nrm, nro, Int.reduceEq, Int.reduceNeg, reduceIte]
 simp only [chk_ev]
 refine ⟨h_n0_0, h_n0_1, h_n0_2, h_n0_3, h_n0_4, ?_⟩
 rintro x rfl -
 refine ⟨fun h => ?_, fun h => ?_⟩
 ·rw [if_neg h, if_neg h, if_neg h, if_neg h]
  exact ⟨rfl, rowEq_nil _ _ _ (Int.le_refl _), rfl, rfl, rfl⟩
 obtain ⟨k1, k2, k3, k4, k5, k6, k7, k8⟩ := chk_zero h
 generalize hT : ftlZ c0_0 n0_0 _ = T
 simp only [h, if_true]
 refine ⟨fun i rm nr hv nh m => nr = i ∧ nh = i ∧ i ≤ n0_1 ∧ (∀ j : Int, 0 ≤ j → j < i → (rdZ c0_2 j ≠ 0 → IntKind.wrap .i32 (rdZ rm j) = 0 ∧ rdZ hv j = 0) ∧ (rdZ c0_2 j = 0 → IntKind.wrap .i32 (rdZ rm j) = IntKind.wrap .i32 (rdZ c0_1 j) ∧ rdZ hv j ≠ 0)) ∧ m = (n0_1 - i).toNat,
  ⟨_, rfl, rfl, l_n0_1, fun j a b => by omega, rfl⟩, fun i rm nr hv nh m hb hI => ?_⟩
 obtain ⟨rfl, hnh, hi, hj, rfl⟩ := hI
 subst hnh
 refine ⟨fun h1 => ?_, fun h1 => ?_⟩
 ·refine ⟨by omega, fun g => ⟨by omega, by omega, by omega, by omega, by omega, _, ?_, rfl, rfl, by omega, ram_more hj (by omega) ⟨fun _ => rfl, fun e => absurd e g⟩, rfl⟩, fun g => ⟨by omega, by omega, by omega, by omega, by omega, _, ?_, rfl, rfl, by omega, ram_more hj (by omega) ⟨fun e => absurd g e, fun _ => rfl⟩, rfl⟩⟩ <;> omega
 have e1 : nh = n0_1 := by omega
 subst e1
 have fin : ∀ {nm mq st pc e : Int}, (nm = IntKind.wrap .i64 (rdZ T 1) ∧ mq = rdZ T 0 ∧ st = IntKind.wrap .i64 (rdZ T 2) ∧ pc = IntKind.wrap .i64 (rdZ T 3) ∧ e = IntKind.wrap .i64 (rdZ T 4)) →
   nm = IntKind.wrap .i64 (rdZ T 1) ∧ qQw [.int .i64, .int .i64, .int .i64] mq (rdZ T 0) nm ∧ st = IntKind.wrap .i64 (rdZ T 2) ∧ pc = IntKind.wrap .i64 (rdZ T 3) ∧ e = IntKind.wrap .i64 (rdZ T 4) := by
  rintro _ _ _ _ _ ⟨h1, rfl, h3⟩
  exact ⟨h1, qQx _ _ _, h3⟩
 refine ⟨fun i rx rk mq nm st pc rm hv m => Rt c0_0 n0_0 nh c0_1 c0_2 i rx rk rm hv pc st mq nm ∧ (i ≤ p1 ∨ i = 0) ∧ m = (p1 - i).toNat,
  ⟨_, rt_nu (rx := rowZ 32 0) (rk := rowZ 32 1) (fun j a b => by rw [rd_row 0 32 j a b]; decide) (fun j a b => by rw [rd_row 1 32 j a b]; decide) hj, .inr rfl, rfl⟩, fun i rx rk mq nm st pc rm hv m hb hI => ?_⟩
 obtain ⟨hR, hif, rfl⟩ := hI
 have hnm := rt_nm hR
 have hi3 : i ≤ 1000000 := by omega
 refine ⟨fun g1 => ⟨fun g2 => ⟨fun g3 => ?_, fun g3 => fin (rt_end hR (.inl g3) hif hi3 hT.symm)⟩, fun g2 => by omega⟩, fun g1 => fin (rt_end hR (.inr (by omega)) hif hi3 hT.symm)⟩
 obtain ⟨hy, hn⟩ := rt_step hR g3 hi3 g1 hT.symm
 refine ⟨by omega, by omega, by omega, k2, k2, k1, rfl, fun e => fin (hn e), fun e => ?_⟩
 have hS := hy e
 have hN := rt_nm hS
 exact ⟨by omega, hN.1, by omega, _, by omega, hS, .inl (by omega), rfl⟩
theorem plain (i v ro p) : statR 2 rc tree ⟨i, fN, v, ro, p⟩ = P (i 0) (i 1) (i 2) (i 3) (i 4) (i 5) (i 6) (i 7) (i 8) (i 9) (i 10) (i 11) (i 12) (i 13) (i 14) (i 15) := by kernel_rfl
theorem ran : ranR us (fun f i => if f = 7 then (match i with | 6 => .unroll 400 | _ => .auto) else .auto) rc 2 tree = true := by kernel_rfl
theorem fineT : fineR 2 rc tree = true := by kernel_rfl
theorem ok : RcOk (cxOf 2) rc := okR us_ok ran fineT okb fun i v ro p hρ hcap hpre => by rw [plain]; have q := hρ.hi; exact holds _ _ _ _ _ _ _ _ _ _ _ _ _ _ _ _ (q 0 _ rfl).1 (q 0 _ rfl).2 (q 1 _ rfl).1 (q 1 _ rfl).2 (q 2 _ rfl).1 (q 2 _ rfl).2 (q 3 _ rfl).1 (q 3 _ rfl).2 (q 4 _ rfl).1 (q 4 _ rfl).2 (q 5 _ rfl).1 (q 5 _ rfl).2 (hcap _ (mg 0 rfl)) (hcap _ (mg 1 rfl)) (hcap _ (mg 2 rfl)) (hcap _ (mg 3 rfl)) (hcap _ (mg 4 rfl)) (hpre _ (mg 0 rfl))
end CRFTell
namespace CRSame16
def rc : Rc := ⟨8, [none, none], [.row [.int .i64, .int .i64, .int .i64] 1000000, .row [.int .i64, .int .i64, .int .i64] 1000000], [], .one, [.bool (.ite (.b .eq .i64 (.v 0) (.v 1)) (.f 71 (.v 2) (.v 3) (.v 0)) (.c 0))]⟩
theorem okb : rc.ok = true := by kernel_rfl
noncomputable def us : SMs := fun Γ ins n => smH (cxG n Γ ins) [] (smR (cxG n Γ ins) [])
theorem us_ok : SMsOk us := fun Γ ins n => qQp (tabsG n Γ ins) (qQa _) (qQn (tabsG n Γ ins) (qQb _))
def Q0 : E := (.cl 1000 0 4611686018427387904)
def Q1 : E := (tR (.v 2) Q0)
def Q2 : E := (tR (.v 3) Q0)
def Q3 : E := (tp Q0 (.c 1))
def tree : TT (List E) :=
 (.br (tn (.v 0) (.v 1)) (.leaf [(.c 0)]) (.loop ⟨1000, [some (0, 4611686018427387904)], [(.c 0)], 1008⟩ (.br (tk Q0 (.v 0)) (.new 1002 (t6 (tR Q1 (.c 0))) (.new 1003 (t6 (tR Q1 (.c 1))) (.new 1004 (t6 (tR Q1 (.c 2))) (.br (tk Q0 (.v 1)) (.new 1005 (t6 (tR Q2 (.c 0))) (.new 1006 (t6 (tR Q2 (.c 1))) (.new 1007 (t6 (tR Q2 (.c 2))) (.br (.nt (.ite (te (.cl 1002 (-9223372036854775808) 9223372036854775807) (.cl 1005 (-9223372036854775808) 9223372036854775807)) (.ite (te (.cl 1003 (-9223372036854775808) 9223372036854775807) (.cl 1006 (-9223372036854775808) 9223372036854775807)) (te (.cl 1004 (-9223372036854775808) 9223372036854775807) (.cl 1007 (-9223372036854775808) 9223372036854775807)) (.c 0)) (.c 0))) (.exit 0) (.br (tl Q3 (.c 4611686018427387904)) (.back [Q3]) (.bad 303)))))) (.bad
 200))))) (.exit 1)) (.br (te (.v 1008) (.c 0)) (.leaf [(.c 0)]) (.leaf [(.c 1)]))))
def P (a b c d e f : Int) : Prop :=
 (Pb (Pd a b) (((0 : Int) ≠ 0 ↔ ((iteZ (Pe a b) (sameM c d a) 0) : Int) ≠ 0) ∧ True) (∃ I1000 : Int → Nat → Prop, (∃ m, I1000 0 m) ∧ ∀ y0 : Int, ∀ m0, ((0 ≤ y0 ∧ y0 ≤ 4611686018427387904) ∧ True) → I1000 y0 m0 → (Pb (Pl y0 a) (Pn (W6 (rdZ (rdZ c y0) 0)) (-9223372036854775808) 9223372036854775807 fun y2 => Pn (W6 (rdZ (rdZ c y0) 1)) (-9223372036854775808) 9223372036854775807 fun y3 => Pn (W6 (rdZ (rdZ c y0) 2)) (-9223372036854775808) 9223372036854775807 fun y4 => (Pm (Pl y0 b) (Pn (W6 (rdZ (rdZ d y0) 0)) (-9223372036854775808) 9223372036854775807 fun y5 => Pn (W6 (rdZ (rdZ d y0) 1)) (-9223372036854775808) 9223372036854775807 fun y6 => Pn (W6 (rdZ (rdZ d y0) 2)) (-9223372036854775808) 9223372036854775807 fun y7 => (Pb (Pe (iteZ (Pe y2 y5) (iteZ (Pe y3 y6) (Pe y4 y7) 0) 0) 0) (Pb (Pe (0 :
 Int) 0) (((0 : Int) ≠ 0 ↔ ((iteZ (Pe a b) (sameM c d a) 0) : Int) ≠ 0) ∧ True) (((1 : Int) ≠ 0 ↔ ((iteZ (Pe a b) (sameM c d a) 0) : Int) ≠ 0) ∧ True)) (Pm (PL (y0 + 1) 4611686018427387904) (∃ m', m' < m0 ∧ I1000 (y0 + 1) m')))))) (Pb (Pe (1 : Int) 0) (((0 : Int) ≠ 0 ↔ ((iteZ (Pe a b) (sameM c d a) 0) : Int) ≠ 0) ∧ True) (((1 : Int) ≠ 0 ↔ ((iteZ (Pe a b) (sameM c d a) 0) : Int) ≠ 0) ∧ True)))))
theorem sameM_iff (c d n : Int) : sameM c d n ≠ 0 ↔ ∀ i : Nat, (i : Int) < n → mk c i 0 = mk d i 0 ∧ mk c i 1 = mk d i 1 ∧ mk c i 2 = mk d i 2 := by
 unfold sameM; split <;> simp_all
theorem holds (n0 n1 c0 c1 r0 r1 : Int) (l_n0 : 0 ≤ n0) (u_n0 : n0 ≤ 1000000) (l_n1 : 0 ≤ n1) (u_n1 : n1 ≤ 1000000) (h_n0 : n0 ≤ r0) (h_n1 : n1 ≤ r1) : P n0 n1 c0 c1 r0 r1 := by
 delta P Pb Pm Pn PL Pl Pe Pd W6
 simp only [nrm, Int.reduceEq, Int.reduceNeg, reduceIte]
 refine ⟨fun h => by simp [h], fun h => ?_⟩
 subst h
 simp only [if_true]
 have hs := sameM_iff c0 c1 n0
 refine ⟨fun i m => (∀ k : Nat, (k : Int) < i → mk c0 k 0 = mk c1 k 0 ∧ mk c0 k 1 = mk c1 k 1 ∧ mk c0 k 2 = mk c1 k 2) ∧ i ≤ n0 ∧ m = (n0 - i).toNat, ⟨_, fun k hk => by omega, l_n0, rfl⟩, fun i m hb hI => ?_⟩
 obtain ⟨hI, hi, rfl⟩ := hI
 obtain ⟨j, rfl⟩ : ∃ j : Nat, i = j := ⟨i.toNat, by omega⟩
 refine ⟨fun h1 => ?_, fun h1 => by have := hs.2 fun k hk => hI k (by omega); simp_all⟩
 rintro _ rfl _ _ rfl _ _ rfl _
 refine ⟨fun h2 => ?_, fun h2 => by omega⟩
 rintro _ rfl _ _ rfl _ _ rfl _
 simp only [wrap_rd]
 by_cases q : mk c0 j 0 = mk c1 j 0 ∧ mk c0 j 1 = mk c1 j 1 ∧ mk c0 j 2 = mk c1 j 2
 ·obtain ⟨q0, q1, q2⟩ := q
  simp only [q0, q1, q2, if_true]
  refine ⟨fun h => by simp [qQz] at h, fun _ => ⟨fun _ => ⟨_, ?_, fun k hk => ?_, by omega, rfl⟩, fun h4 => by omega⟩⟩
  ·omega
  ·by_cases e : k = j
   ·subst e; exact ⟨q0, q1, q2⟩
   ·exact hI k (by omega)
 ·have hn : ¬ (sameM c0 c1 n0 ≠ 0) := fun h => q (hs.1 h j h1)
  refine ⟨fun _ => by simp_all, fun h => absurd ?_ h⟩
  by_cases q0 : mk c0 j 0 = mk c1 j 0
  ·refine (if_pos q0).trans ?_
   by_cases q1 : mk c0 j 1 = mk c1 j 1
   ·refine (if_pos q1).trans ?_
    have q2 : ¬ mk c0 j 2 = mk c1 j 2 := fun e => q ⟨q0, q1, e⟩
    simp [qQz, q2]
   ·exact if_neg q1
  ·exact if_neg q0
theorem plain (i v ro p) : statR 2 rc tree ⟨i, fN, v, ro, p⟩ = P (i 0) (i 1) (i 2) (i 3) (i 4) (i 5) := by kernel_rfl
theorem ran : ranR us (fun _ _ => .auto) rc 2 tree = true := by kernel_rfl
theorem fineT : fineR 2 rc tree = true := by kernel_rfl
theorem ok : RcOk (cxOf 2) rc := okR us_ok ran fineT okb fun i v ro p hρ hcap hpre => by rw [plain]; have q := hρ.hi; exact holds _ _ _ _ _ _ (q 0 _ rfl).1 (q 0 _ rfl).2 (q 1 _ rfl).1 (q 1 _ rfl).2 (hcap _ (mg 0 rfl)) (hcap _ (mg 1 rfl))
end CRSame16
end Go.Proofs.YtfkdlidcogpncaaGreatDoor
