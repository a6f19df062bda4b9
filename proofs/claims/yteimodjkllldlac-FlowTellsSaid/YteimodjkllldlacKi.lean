/-
  What functions of the program answer, as numbers of what they are handed: their runs by the engine, the plain statements behind them. No condition.
-/
import Derived.Test.YteimodjkllldlacKe
import Derived.Test.YteimodjkllldlacKf
import Derived.Test.YteimodjkllldlacKh
import Derived.Test.YteimodjkllldlacGab
import Derived.Test.YteimodjkllldlacGp4
import Derived.Test.YteimodjkllldlacGp1
import Derived.Test.YteimodjkllldlacGp5
set_option linter.unusedVariables false
set_option linter.unusedSimpArgs false
set_option maxRecDepth 100000
namespace Go.Proofs.Yteimodjkllldlac
open Go.Eng Go.RowKit
namespace CRFCheck
def rc : Rc := ⟨7, [some 5], [.row [.int .u32] 1000000, .row [.int .i32] 1000000, .row [.bool] 1000000, .row [.int .i64] 1000000, .row [.int .i64] 1000000], [], .agg 2, [.int .i64 (.ite (.b .ne .i64 (.f 84 (.v 0) (.v 1) (qQs [(.v 2), (.v 3), (.v 4), (.v 8), (.v 9)])) (.c 0)) (.f 84 (.v 0) (.v 1) (qQs [(.v 2), (.v 3), (.v 4), (.v 8), (.v 9)])) (.f 104 (.v 5) (.v 0) (qQs [(.v 1), (.v 7), (.v 8), (.v 3)]))), .int .i64 (.ite (.b .ne .i64 (.f 84 (.v 0) (.v 1) (qQs [(.v 2), (.v 3), (.v 4), (.v 8), (.v 9)])) (.c 0)) (.c (-1)) (.f 105 (.v 5) (.v 0) (qQs [(.v 1), (.v 7), (.v 8), (.v 3)])))]⟩
theorem okb : rc.ok = true := by kernel_rfl
noncomputable def us : SMs := fun Γ ins n => smH (cxG n Γ ins) [] (smR (cxG n Γ ins) [CRICheck.rc, CRLevels.rc, CRDec.rc, CRAny.rc])
theorem us_ok : SMsOk us := fun Γ ins n => qJx (tabsG n Γ ins) (qZc _) (qJj (tabsG n Γ ins) (qQo CRICheck.okb (rc_n CRICheck.ok) (qQo CRLevels.okb (rc_n CRLevels.ok) (qQo CRDec.okb (rc_n CRDec.ok) (qQo CRAny.okb (rc_n CRAny.ok) (qZe _))))))
def Q0 : E := (.cl 1001 0 4611686018427387904)
def Q1 : E := (tR (.v 8) Q0)
def Q2 : E := (t6 Q1)
def Q3 : E := (tp Q0 (.c 1))
def Q4 : E := (.cl 1005 0 4611686018427387904)
def Q5 : E := (tR (.v 5) Q4)
def Q6 : E := (.w .u32 Q5)
def Q7 : E := (tC (.v 7) (.c 0))
def Q8 : E := (tC (.v 1) Q7)
def Q9 : E := (.f 103 (.v 5) (.v 0) Q8)
def Q10 : E := (tR Q9 Q4)
def Q11 : E := (.cl 1008 (-32768) 65535)
def Q12 : E := (.cl 1009 (-32768) 65535)
def Q13 : E := (.cl 1010 (-32768) 65535)
def Q14 : E := (.cl 1007 (-32768) 65535)
def Q15 : E := (tR Q10 (.c 1))
def Q16 : E := (tR Q10 (.c 2))
def Q17 : E := (tR Q10 (.c 3))
def Q18 : E := (tR Q10 (.c 4))
def Q19 : E := (tR Q10 (.c 5))
def Q20 : E := (tR Q10 (.c 6))
def Q21 : E := (tR Q10 (.c 7))
def Q22 : E := (tR Q10 (.c 8))
def Q23 : E := (tR Q10 (.c 9))
def Q24 : E := (tR Q10 (.c 10))
def Q25 : E := (tR Q10 (.c 11))
def Q26 : E := (tR Q10 (.c 12))
def Q27 : E := (tR Q10 (.c 13))
def Q28 : E := (tR Q10 (.c 14))
def Q29 : E := (tR Q10 (.c 15))
def Q30 : E := (tR Q10 (.c 16))
def Q31 : E := (tR Q10 (.c 17))
def Q32 : E := (tR Q10 (.c 18))
def Q33 : E := (tR Q10 (.c 19))
def Q34 : E := (tR Q10 (.c 20))
def Q35 : E := (tR Q10 (.c 21))
def Q36 : E := (tR Q10 (.c 22))
def Q37 : E := (tR Q10 (.c 23))
def Q38 : E := (tR Q10 (.c 24))
def Q39 : E := (tR Q10 (.c 25))
def Q40 : E := (tR Q10 (.c 26))
def Q41 : E := (tR Q10 (.c 27))
def Q42 : E := (tR Q10 (.c 28))
def Q43 : E := (tR Q10 (.c 29))
def Q44 : E := (tR Q10 (.c 30))
def Q45 : E := (tR Q10 (.c 31))
def Q46 : E := (tR Q10 (.c 32))
def Q47 : E := (tC Q46 (.c 0))
def Q48 : E := (tC Q45 Q47)
def Q49 : E := (tC Q44 Q48)
def Q50 : E := (tC Q43 Q49)
def Q51 : E := (tC Q42 Q50)
def Q52 : E := (tC Q41 Q51)
def Q53 : E := (tC Q40 Q52)
def Q54 : E := (tC Q39 Q53)
def Q55 : E := (tC Q38 Q54)
def Q56 : E := (tC Q37 Q55)
def Q57 : E := (tC Q36 Q56)
def Q58 : E := (tC Q35 Q57)
def Q59 : E := (tC Q34 Q58)
def Q60 : E := (tC Q33 Q59)
def Q61 : E := (tC Q32 Q60)
def Q62 : E := (tC Q31 Q61)
def Q63 : E := (tC Q30 Q62)
def Q64 : E := (tC Q29 Q63)
def Q65 : E := (tC Q28 Q64)
def Q66 : E := (tC Q27 Q65)
def Q67 : E := (tC Q26 Q66)
def Q68 : E := (tC Q25 Q67)
def Q69 : E := (tC Q24 Q68)
def Q70 : E := (tC Q23 Q69)
def Q71 : E := (tC Q22 Q70)
def Q72 : E := (tC Q21 Q71)
def Q73 : E := (tC Q20 Q72)
def Q74 : E := (tC Q19 Q73)
def Q75 : E := (tC Q18 Q74)
def Q76 : E := (tC Q17 Q75)
def Q77 : E := (tC Q16 Q76)
def Q78 : E := (tC Q15 Q77)
def Q79 : E := (tR Q78 Q12)
def Q80 : E := (tR Q78 Q13)
def Q81 : E := (tp Q4 (.c 1))
def Q82 : E := (tl Q81 (.c 4611686018427387904))
def Q83 : E := (tR Q78 Q11)
def Q84 : E := (.cl 1011 (-32768) 65535)
def tree : TT (List E) :=
 (.br (tl (.v 0) (.v 10)) (.br (tl (.v 1) (.v 11)) (.br (tl (.v 2) (.v 12)) (.br (tl (.v 3) (.v 13)) (.br (tl (.v 4) (.v 14)) (.new 1000 (.f 84 (.v 0) (.v 1) (tC (.v 2) (tC (.v 3) (tC (.v 4) (tC (.v 8) (tC (.v 9) (.c 0))))))) (.br (tn (.cl 1000 0 9) (.c 0)) (.leaf [(.cl 1000 0 9), (.c (-1))]) (.loop ⟨1001, [some (0, 4611686018427387904)], [(.c 0)], 1003⟩ (.br (tk Q0 (.v 3)) (.br (tl (.c 0) Q2) (.br (tk Q2 (.v 2)) (.br (.nt (tR (.v 7) Q2)) (.exit 0) (.br (tl Q3 (.c 4611686018427387904)) (.back [Q3]) (.bad 303))) (.bad 200)) (.bad 200)) (.exit 1)) (.br (te (.v 1003) (.c 0)) (.leaf [(.c 12), (.c (-1))]) (.br (tl (.v 0) (.c 16384)) (.br (tl (.v 1) (.c 2048)) (.br (te (.v 2) (.v 1)) (.loop ⟨1005, [some (0, 4611686018427387904)], [(.c 0)], 1013⟩ (.br (tk Q4 (.v 0)) (.new 1007 (.f 67 Q6 (.c 0)
 (.c 0)) (.new 1008 (.f 67 Q6 (.c 1) (.c 0)) (.new 1009 (.f 67 Q6 (.c 2) (.c 0)) (.new 1010 (.f 67 Q6 (.c 3) (.c 0)) (.new 1011 (.f 67 Q6 (.c 4) (.c 0)) (.new 1012 (.f 67 Q6 (.c 5) (.c 0)) (.br (tR Q10 (.c 0)) (.br (te (.cl 1012 (-32768) 65535) (.c 0)) (.br (tl (.c 0) Q11) (.br (tk Q11 (.c 32)) (.br (tl (.c 0) Q12) (.br (tk Q12 (.c 32)) (.br (tl (.c 0) Q13) (.br (tk Q13 (.c 32)) (.br (te Q14 (.c 22)) (.br Q79 (.exit 0) (.br Q80 (.exit 1) (.br Q82 (.back [Q81]) (.bad 303)))) (.br (te Q14 (.c 23)) (.br Q79 (.exit 2) (.br Q80 (.exit 3) (.br Q82 (.back [Q81]) (.bad 303)))) (.br (te Q14 (.c 34)) (.br Q79 (.exit 4) (.br Q82 (.back [Q81]) (.bad 303))) (.br (te Q14 (.c 35)) (.br (te Q12 (.c 0)) (.br Q83 (.br (tk Q84 (.v 2)) (.br (tl (.c 0) Q84) (.br (.nt (tR (.v 7) Q84)) (.exit 5) (.br Q82 (.back
 [Q81]) (.bad 303))) (.bad 200)) (.br Q82 (.back [Q81]) (.bad 303))) (.br Q82 (.back [Q81]) (.bad 303))) (.br Q79 (.exit 6) (.br Q83 (.br (.f 113 (.v 7) (.v 2) (.c 0)) (.exit 7) (.br Q82 (.back [Q81]) (.bad 303))) (.br Q82 (.back [Q81]) (.bad 303))))) (.br (te Q14 (.c 36)) (.br Q83 (.exit 8) (.br Q79 (.exit 9) (.br Q82 (.back [Q81]) (.bad 303)))) (.br (te Q14 (.c 37)) (.br Q83 (.exit 10) (.br Q79 (.exit 11) (.br Q82 (.back [Q81]) (.bad 303)))) (.br (te Q14 (.c 38)) (.br Q83 (.exit 12) (.br Q79 (.exit 13) (.br Q82 (.back [Q81]) (.bad 303)))) (.br (te Q14 (.c 41)) (.exit 14) (.br Q82 (.back [Q81]) (.bad 303)))))))))) (.bad 200)) (.bad 200)) (.bad 200)) (.bad 200)) (.bad 200)) (.bad 200)) (.br Q82 (.back [Q81]) (.bad 303))) (.br Q82 (.back [Q81]) (.bad 303))))))))) (.exit 15)) (.br (te (.v
 1013) (.c 0)) (.leaf [(.c 12), Q4]) (.br (te (.v 1013) (.c 1)) (.leaf [(.c 12), Q4]) (.br (te (.v 1013) (.c 2)) (.leaf [(.c 12), Q4]) (.br (te (.v 1013) (.c 3)) (.leaf [(.c 12), Q4]) (.br (te (.v 1013) (.c 4)) (.leaf [(.c 12), Q4]) (.br (te (.v 1013) (.c 5)) (.leaf [(.c 12), Q4]) (.br (te (.v 1013) (.c 6)) (.leaf [(.c 12), Q4]) (.br (te (.v 1013) (.c 7)) (.leaf [(.c 12), Q4]) (.br (te (.v 1013) (.c 8)) (.leaf [(.c 12), Q4]) (.br (te (.v 1013) (.c 9)) (.leaf [(.c 12), Q4]) (.br (te (.v 1013) (.c 10)) (.leaf [(.c 12), Q4]) (.br (te (.v 1013) (.c 11)) (.leaf [(.c 12), Q4]) (.br (te (.v 1013) (.c 12)) (.leaf [(.c 12), Q4]) (.br (te (.v 1013) (.c 13)) (.leaf [(.c 12), Q4]) (.br (te (.v 1013) (.c 14)) (.leaf [(.c 12), Q4]) (.leaf [(.c 0), (.c 0)]))))))))))))))))) (.bad 200)) (.bad 200)) (.bad
 200)))))) (.bad 200)) (.bad 200)) (.bad 200)) (.bad 200)) (.bad 200))
noncomputable def sq0 (f a b h y5 : Int) : Int := (kZ (rdZ (rdZ (levZ f a (kZ b (kZ h 0))) y5) 1) (kZ (rdZ (rdZ (levZ f a (kZ b (kZ h 0))) y5) 2) (kZ (rdZ (rdZ (levZ f a (kZ b (kZ h 0))) y5) 3) (kZ (rdZ (rdZ (levZ f a (kZ b (kZ h 0))) y5) 4) (kZ (rdZ (rdZ (levZ f a (kZ b (kZ h 0))) y5) 5) (kZ (rdZ (rdZ (levZ f a (kZ b (kZ h 0))) y5) 6) (kZ (rdZ (rdZ (levZ f a (kZ b (kZ h 0))) y5) 7) (kZ (rdZ (rdZ (levZ f a (kZ b (kZ h 0))) y5) 8) (kZ (rdZ (rdZ (levZ f a (kZ b (kZ h 0))) y5) 9) (kZ (rdZ (rdZ (levZ f a (kZ b (kZ h 0))) y5) 10) (kZ (rdZ (rdZ (levZ f a (kZ b (kZ h 0))) y5) 11) (kZ (rdZ (rdZ (levZ f a (kZ b (kZ h 0))) y5) 12) (kZ (rdZ (rdZ (levZ f a (kZ b (kZ h 0))) y5) 13) (kZ (rdZ (rdZ (levZ f a (kZ b (kZ h 0))) y5) 14) (kZ (rdZ (rdZ (levZ f a (kZ b (kZ h 0))) y5) 15) (kZ (rdZ (rdZ (levZ f a
 (kZ b (kZ h 0))) y5) 16) (kZ (rdZ (rdZ (levZ f a (kZ b (kZ h 0))) y5) 17) (kZ (rdZ (rdZ (levZ f a (kZ b (kZ h 0))) y5) 18) (kZ (rdZ (rdZ (levZ f a (kZ b (kZ h 0))) y5) 19) (kZ (rdZ (rdZ (levZ f a (kZ b (kZ h 0))) y5) 20) (kZ (rdZ (rdZ (levZ f a (kZ b (kZ h 0))) y5) 21) (kZ (rdZ (rdZ (levZ f a (kZ b (kZ h 0))) y5) 22) (kZ (rdZ (rdZ (levZ f a (kZ b (kZ h 0))) y5) 23) (kZ (rdZ (rdZ (levZ f a (kZ b (kZ h 0))) y5) 24) (kZ (rdZ (rdZ (levZ f a (kZ b (kZ h 0))) y5) 25) (kZ (rdZ (rdZ (levZ f a (kZ b (kZ h 0))) y5) 26) (kZ (rdZ (rdZ (levZ f a (kZ b (kZ h 0))) y5) 27) (kZ (rdZ (rdZ (levZ f a (kZ b (kZ h 0))) y5) 28) (kZ (rdZ (rdZ (levZ f a (kZ b (kZ h 0))) y5) 29) (kZ (rdZ (rdZ (levZ f a (kZ b (kZ h 0))) y5) 30) (kZ (rdZ (rdZ (levZ f a (kZ b (kZ h 0))) y5) 31) (kZ (rdZ (rdZ (levZ f a (kZ b (kZ h
 0))) y5) 32) 0))))))))))))))))))))))))))))))))
def sL0 (a b c d e i j f h z0 z2 : Int) : Prop := (z0 : Int) = (iteZ (Pd (chkZ a b (kZ c (kZ d (kZ e (kZ i (kZ j 0)))))) 0) (chkZ a b (kZ c (kZ d (kZ e (kZ i (kZ j 0)))))) (fwhZ f a (kZ b (kZ h (kZ i (kZ d 0)))))) ∧ (z2 : Int) = (iteZ (Pd (chkZ a b (kZ c (kZ d (kZ e (kZ i (kZ j 0)))))) 0) (-1) (fpcZ f a (kZ b (kZ h (kZ i (kZ d 0)))))) ∧ True
def sq1 (a b c f h d e i j : Int) : Prop := (Pm (PL a 16384) (Pm (PL b 2048) (Pm (Pe c b) (∃ I1005 : Int → Nat → Prop, (∃ m, I1005 0 m) ∧ ∀ y5 : Int, ∀ m5, ((0 ≤ y5 ∧ y5 ≤ 4611686018427387904) ∧ True) → I1005 y5 m5 → (Pb (Pl y5 a) (Pn (decZ (U3 (rdZ f y5)) 0) (-32768) 65535 fun y7 => Pn (decZ (U3 (rdZ f y5)) 1) (-32768) 65535 fun y8 => Pn (decZ (U3 (rdZ f y5)) 2) (-32768) 65535 fun y9 => Pn (decZ (U3 (rdZ f y5)) 3) (-32768) 65535 fun y10 => Pn (decZ (U3 (rdZ f y5)) 4) (-32768) 65535 fun y11 => Pn (decZ (U3 (rdZ f y5)) 5) (-32768) 65535 fun y12 => (Pb (rdZ (rdZ (levZ f a (kZ b (kZ h 0))) y5) 0) (Pb (Pe y12 0) (Pm (PL 0 y8) (Pm (Pl y8 32) (Pm (PL 0 y9) (Pm (Pl y9 32) (Pm (PL 0 y10) (Pm (Pl y10 32) (Pb (Pe y7 22) (Pb (rdZ (sq0 f a b h y5) y9) (sL0 a b c d e i j f h 12 y5) (Pb (rdZ (sq0 f a b
 h y5) y10) (sL0 a b c d e i j f h 12 y5) (Pm (PL (y5 + 1) 4611686018427387904) (∃ m', m' < m5 ∧ I1005 (y5 + 1) m')))) (Pb (Pe y7 23) (Pb (rdZ (sq0 f a b h y5) y9) (sL0 a b c d e i j f h 12 y5) (Pb (rdZ (sq0 f a b h y5) y10) (sL0 a b c d e i j f h 12 y5) (Pm (PL (y5 + 1) 4611686018427387904) (∃ m', m' < m5 ∧ I1005 (y5 + 1) m')))) (Pb (Pe y7 34) (Pb (rdZ (sq0 f a b h y5) y9) (sL0 a b c d e i j f h 12 y5) (Pm (PL (y5 + 1) 4611686018427387904) (∃ m', m' < m5 ∧ I1005 (y5 + 1) m'))) (Pb (Pe y7 35) (Pb (Pe y9 0) (Pb (rdZ (sq0 f a b h y5) y8) (Pb (Pl y11 c) (Pm (PL 0 y11) (Pb (Pe (rdZ h y11) 0) (sL0 a b c d e i j f h 12 y5) (Pm (PL (y5 + 1) 4611686018427387904) (∃ m', m' < m5 ∧ I1005 (y5 + 1) m')))) (Pm (PL (y5 + 1) 4611686018427387904) (∃ m', m' < m5 ∧ I1005 (y5 + 1) m'))) (Pm (PL (y5 + 1)
 4611686018427387904) (∃ m', m' < m5 ∧ I1005 (y5 + 1) m'))) (Pb (rdZ (sq0 f a b h y5) y9) (sL0 a b c d e i j f h 12 y5) (Pb (rdZ (sq0 f a b h y5) y8) (Pb (anyZ h c 0) (sL0 a b c d e i j f h 12 y5) (Pm (PL (y5 + 1) 4611686018427387904) (∃ m', m' < m5 ∧ I1005 (y5 + 1) m'))) (Pm (PL (y5 + 1) 4611686018427387904) (∃ m', m' < m5 ∧ I1005 (y5 + 1) m'))))) (Pb (Pe y7 36) (Pb (rdZ (sq0 f a b h y5) y8) (sL0 a b c d e i j f h 12 y5) (Pb (rdZ (sq0 f a b h y5) y9) (sL0 a b c d e i j f h 12 y5) (Pm (PL (y5 + 1) 4611686018427387904) (∃ m', m' < m5 ∧ I1005 (y5 + 1) m')))) (Pb (Pe y7 37) (Pb (rdZ (sq0 f a b h y5) y8) (sL0 a b c d e i j f h 12 y5) (Pb (rdZ (sq0 f a b h y5) y9) (sL0 a b c d e i j f h 12 y5) (Pm (PL (y5 + 1) 4611686018427387904) (∃ m', m' < m5 ∧ I1005 (y5 + 1) m')))) (Pb (Pe y7 38) (Pb (rdZ
 (sq0 f a b h y5) y8) (sL0 a b c d e i j f h 12 y5) (Pb (rdZ (sq0 f a b h y5) y9) (sL0 a b c d e i j f h 12 y5) (Pm (PL (y5 + 1) 4611686018427387904) (∃ m', m' < m5 ∧ I1005 (y5 + 1) m')))) (Pb (Pe y7 41) (sL0 a b c d e i j f h 12 y5) (Pm (PL (y5 + 1) 4611686018427387904) (∃ m', m' < m5 ∧ I1005 (y5 + 1) m')))))))))))))))) (Pm (PL (y5 + 1) 4611686018427387904) (∃ m', m' < m5 ∧ I1005 (y5 + 1) m'))) (Pm (PL (y5 + 1) 4611686018427387904) (∃ m', m' < m5 ∧ I1005 (y5 + 1) m')))) (sL0 a b c d e i j f h 0 0))))))
def P (a b c d e f g h i j k l n o p : Int) : Prop :=
 (Pm (PL a k) (Pm (PL b l) (Pm (PL c n) (Pm (PL d o) (Pm (PL e p) (Pn (chkZ a b (kZ c (kZ d (kZ e (kZ i (kZ j 0)))))) 0 9 fun y0 => (Pb (Pd y0 0) (sL0 a b c d e i j f h y0 (-1)) (∃ I1001 : Int → Nat → Prop, (∃ m, I1001 0 m) ∧ ∀ y1 : Int, ∀ m1, ((0 ≤ y1 ∧ y1 ≤ 4611686018427387904) ∧ True) → I1001 y1 m1 → (Pb (Pl y1 d) (Pm (PL 0 (W6 (rdZ i y1))) (Pm (Pl (W6 (rdZ i y1)) c) (Pb (Pe (rdZ h (W6 (rdZ i y1))) 0) (Pb (Pe (0 : Int) 0) (sL0 a b c d e i j f h 12 (-1)) (sq1 a b c f h d e i j)) (Pm (PL (y1 + 1) 4611686018427387904) (∃ m', m' < m1 ∧ I1001 (y1 + 1) m'))))) (Pb (Pe (1 : Int) 0) (sL0 a b c d e i j f h 12 (-1)) (sq1 a b c f h d e i j)))))))))))
set_option maxHeartbeats 4000000 in
theorem holds (n0_0 n0_1 n0_2 n0_3 n0_4 c0_0 c0_1 c0_2 c0_3 c0_4 r0_0 r0_1 r0_2 r0_3 r0_4 : Int) (l_n0_0 : 0 ≤ n0_0) (u_n0_0 : n0_0 ≤ 1000000) (l_n0_1 : 0 ≤ n0_1) (u_n0_1 : n0_1 ≤ 1000000) (l_n0_2 : 0 ≤ n0_2) (u_n0_2 : n0_2 ≤ 1000000) (l_n0_3 : 0 ≤ n0_3) (u_n0_3 : n0_3 ≤ 1000000) (l_n0_4 : 0 ≤ n0_4) (u_n0_4 : n0_4 ≤ 1000000) (h_n0_0 : n0_0 ≤ r0_0) (h_n0_1 : n0_1 ≤ r0_1) (h_n0_2 : n0_2 ≤ r0_2) (h_n0_3 : n0_3 ≤ r0_3) (h_n0_4 : n0_4 ≤ r0_4) : P n0_0 n0_1 n0_2 n0_3 n0_4 c0_0 c0_1 c0_2 c0_3 c0_4 r0_0 r0_1 r0_2 r0_3 r0_4 := by
 delta P sq0 sq1 sL0 Pb Pm Pn PL Pl Pe Pd W6 U3 kZ
 simp only [c32_def]
 simp only [nrm, nro, Int.reduceEq, Int.reduceNeg, reduceIte]
 refine ⟨h_n0_0, h_n0_1, h_n0_2, h_n0_3, h_n0_4, ?_⟩
 rintro x rfl -
 simp only [chk_ev]
 generalize hC : chk7 n0_0 n0_1 n0_2 n0_3 n0_4 c0_3 c0_4 = C
 refine ⟨fun h => by rw [if_pos h, if_pos h]; exact ⟨rfl, rfl⟩, fun h => ?_⟩
 obtain ⟨k1, k2, k3, k4, k5, k6, k7, k8⟩ := chk_zero (hC.trans h)
 have i0 : ∀ x y : Int, (if ¬ C = 0 then x else y) = y := fun x y => if_neg (fun g => g h)
 simp only [i0]
 subst k5
 refine ⟨fun i m => (0 ≤ i ∧ i ≤ n0_3) ∧ (∀ j, 0 ≤ j → j < i → rdZ c0_2 (IntKind.wrap .i64 (rdZ c0_3 j)) ≠ 0) ∧ m = (n0_3 - i).toNat, ⟨_, ⟨by decide, l_n0_3⟩, fun j _ _ => by omega, rfl⟩, ?_⟩
 rintro i m hb ⟨⟨z0, z1⟩, hI, rfl⟩
 refine ⟨fun hi => ?_, fun hi => ?_⟩
 ·obtain ⟨a0, a1, _⟩ := ad_at k6 hb hi k2
  refine ⟨a0, a1, fun hz => ?_, fun hz => ⟨by omega, _, ?_, ⟨by omega, by omega⟩, fun j j0 j1 => ?_, rfl⟩⟩
  ·have ho : openIn c0_2 c0_3 n0_3 := ⟨i, z0, hi, hz⟩
   obtain ⟨e1, e2⟩ := fwh_ev rfl (fpc_open ho (w := c0_0) (nc := n0_0) (nr := n0_2))
   rw [e1, e2, if_pos (by omega), if_pos (by omega)]; exact ⟨rfl, rfl⟩
  ·omega
  ·by_cases e : j = i
   ·subst e; exact hz
   ·exact hI j j0 (by omega)
 have ho : ¬ openIn c0_2 c0_3 n0_3 := fun ⟨j, j0, j1, hz⟩ => hI j j0 (by omega) hz
 refine ⟨k1, k2, rfl, ?_⟩
 refine ⟨fun p m => (0 ≤ p ∧ p ≤ n0_0) ∧ (∀ k, 0 ≤ k → k < p → ¬ qZn c0_0 n0_2 c0_2 (qQd c0_0 n0_0 n0_2 c0_2) k) ∧ m = (n0_0 - p).toNat, ⟨_, ⟨by decide, l_n0_0⟩, fun j _ _ => by omega, rfl⟩, ?_⟩
 rintro p m - ⟨⟨p0, p1⟩, hI2, rfl⟩
 refine ⟨fun hp => ?_, fun hp => ?_⟩
 ·rintro op hop - d hd - a ha - b hb - n hn - e he -
  have back : ¬ qZn c0_0 n0_2 c0_2 (qQd c0_0 n0_0 n0_2 c0_2) p → p + 1 ≤ 4611686018427387904 ∧ ∃ m', m' < (n0_0 - p).toNat ∧ (0 ≤ p + 1 ∧ p + 1 ≤ n0_0) ∧ (∀ k, 0 ≤ k → k < p + 1 → ¬ qZn c0_0 n0_2 c0_2 (qQd c0_0 n0_0 n0_2 c0_2) k) ∧ m' = (n0_0 - (p + 1)).toNat := fun g =>
   ⟨by omega, _, by omega, ⟨by omega, by omega⟩, fun k q0 q1 => by
    by_cases e : k = p
    ·subst e; exact g
    ·exact hI2 k q0 (by omega), rfl⟩
  have found : qZn c0_0 n0_2 c0_2 (qQd c0_0 n0_0 n0_2 c0_2) p → 12 = fwhZ c0_0 n0_0 (qQq n0_2 (qQq c0_2 (qQq c0_3 (qQq n0_3 0)))) ∧ p = fpcZ c0_0 n0_0 (qQq n0_2 (qQq c0_2 (qQq c0_3 (qQq n0_3 0)))) := fun g => by
   obtain ⟨e1, e2⟩ := fwh_ev rfl (fpc_found ho p0 hp g hI2)
   rw [e1, e2, if_pos hp, if_pos hp]; exact ⟨rfl, rfl⟩
  obtain ⟨lr, ls⟩ := lev_rd (w := c0_0) (nr := n0_2) (cS := c0_2) p0 hp
  have any := any_open (c := c0_2) (n := n0_2)
  refine ⟨fun hre => ⟨fun hE => ?_, fun hE => back fun g => hE (he.trans g.2.1)⟩, fun hre => back fun g => lr.2 g.1 hre⟩
  have h5 : decZ (IntKind.wrap .u32 (rdZ c0_0 p)) 5 = 0 := he.symm.trans hE
  obtain ⟨⟨o0, o1⟩, ⟨d0, d1⟩, ⟨a0, a1⟩, ⟨b0, b1⟩, ⟨n0, n1⟩⟩ := dec_in (rdZ c0_0 p) h5
  have hn0 := dec_n0 h5
  rw [← hop, ← hn] at hn0
  rw [← hop] at o0 o1
  rw [← hd] at d0 d1
  rw [← ha] at a0 a1
  rw [← hb] at b0 b1
  have sa := ls a a0 a1
  have sb := ls b b0 b1
  have sd := ls d d0 d1
  generalize rdZ (c32 (rdZ (levZ c0_0 n0_0 (qQq n0_2 (qQq c0_2 0))) p)) a = A at sa ⊢
  generalize rdZ (c32 (rdZ (levZ c0_0 n0_0 (qQq n0_2 (qQq c0_2 0))) p)) b = B at sb ⊢
  generalize rdZ (c32 (rdZ (levZ c0_0 n0_0 (qQq n0_2 (qQq c0_2 0))) p)) d = D at sd ⊢
  generalize anyZ c0_2 n0_2 0 = Y at any ⊢
  have hW : qZn c0_0 n0_2 c0_2 (qQd c0_0 n0_0 n0_2 c0_2) p ↔ ((op = 22 ∨ op = 23) ∧ (A ≠ 0 ∨ B ≠ 0)) ∨ (op = 34 ∧ A ≠ 0) ∨ (op = 35 ∧ a = 0 ∧ D ≠ 0 ∧ n < n0_2 ∧ rdZ c0_2 n = 0) ∨ (op = 35 ∧ a ≠ 0 ∧ (A ≠ 0 ∨ (D ≠ 0 ∧ Y ≠ 0))) ∨ ((op = 36 ∨ op = 37 ∨ op = 38) ∧ (D ≠ 0 ∨ A ≠ 0)) ∨ op = 41 := by
   unfold qZn wrongP
   rw [← hop, ← hd, ← ha, ← hb, ← hn, ← sa, ← sb, ← sd, any, ← he]
   exact ⟨fun g => g.2.2, fun g => ⟨lr.1 hre, hE, g⟩⟩
  have hf := fun g => found (hW.2 g)
  have hk := fun g => back (mt hW.1 g)
  clear found back hW sa sb sd any ls lr
  generalize rdZ c0_2 n = N at hf hk ⊢
  refine ⟨d0, d1, a0, a1, b0, b1, ?_⟩
  repeat' (first | refine And.intro (fun _ => ?_) (fun _ => ?_) | fail)
  all_goals first
   | exact hf (by omega)
   | exact hk (by omega)
   | exact ⟨hn0 (by omega), fun _ => hf (by omega), fun _ => hk (by omega)⟩
 ·obtain ⟨e1, e2⟩ := fwh_ev rfl (fpc_none ho l_n0_0 (w := c0_0) (nr := n0_2) fun k q0 q1 => hI2 k q0 (by omega))
  rw [e1, e2, if_neg (by omega), if_neg (by omega)]; exact ⟨rfl, rfl⟩
theorem plain (i v ro p) : statR 2 rc tree ⟨i, fN, v, ro, p⟩ = P (i 0) (i 1) (i 2) (i 3) (i 4) (i 5) (i 6) (i 7) (i 8) (i 9) (i 10) (i 11) (i 12) (i 13) (i 14) := by kernel_rfl
theorem ran : ranR us (fun _ _ => .auto) rc 2 tree = true := by kernel_rfl
theorem fineT : fineR 2 rc tree = true := by kernel_rfl
theorem ok : RcOk (cxOf 2) rc := okR us_ok ran fineT okb fun i v ro p hρ hcap hpre => by rw [plain]; have q := hρ.hi; exact holds _ _ _ _ _ _ _ _ _ _ _ _ _ _ _ (q 0 _ rfl).1 (q 0 _ rfl).2 (q 1 _ rfl).1 (q 1 _ rfl).2 (q 2 _ rfl).1 (q 2 _ rfl).2 (q 3 _ rfl).1 (q 3 _ rfl).2 (q 4 _ rfl).1 (q 4 _ rfl).2 (hcap _ (mg 0 rfl)) (hcap _ (mg 1 rfl)) (hcap _ (mg 2 rfl)) (hcap _ (mg 3 rfl)) (hcap _ (mg 4 rfl))
end CRFCheck
namespace CRFSecrets
def rc : Rc := ⟨10, [some 5], [.row [.int .u32] 1000000, .row [.int .i32] 1000000, .row [.bool] 1000000, .row [.int .i64] 1000000, .row [.int .i64] 1000000], [], .one, [.row [.int .u32] 36 (.f 109 (.v 5) (.v 0) (qQs [(.v 1), (.v 7)])) (.ite (.b .ne .i64 (.f 84 (.v 0) (.v 1) (qQs [(.v 2), (.v 3), (.v 4), (.v 8), (.v 9)])) (.c 0)) (.c 0) (.v 0))]⟩
theorem okb : rc.ok = true := by kernel_rfl
noncomputable def us : SMs := fun Γ ins n => smH (cxG n Γ ins) [] (smR (cxG n Γ ins) [CRICheck.rc, CRLevels.rc])
theorem us_ok : SMsOk us := fun Γ ins n => qJx (tabsG n Γ ins) (qZc _) (qJj (tabsG n Γ ins) (qQo CRICheck.okb (rc_n CRICheck.ok) (qQo CRLevels.okb (rc_n CRLevels.ok) (qZe _))))
def Q0 : E := (.cl 1003 0 4611686018427387904)
def Q1 : E := (.cl 1006 (-4611686018427387904) 31)
def Q2 : E := (tp (.c 1) Q1)
def Q3 : E := (.b .psub .i64 Q1 (.c 1))
def Q4 : E := (tl (.c (-4611686018427387904)) Q3)
def Q5 : E := (.cl 1005 0 4294967295)
def Q6 : E := (.b .pmul .i64 (.c 2) Q5)
def Q7 : E := (.w .u32 Q6)
def Q8 : E := (.cl 1002 0 1000000)
def Q9 : E := (tp Q8 (.c 1))
def Q10 : E := (tl Q9 (.c 1000000))
def Q11 : E := (tp Q0 (.c 1))
def tree : TT (List E) :=
 (.br (tl (.v 0) (.v 10)) (.br (tl (.v 1) (.v 11)) (.br (tl (.v 2) (.v 12)) (.br (tl (.v 3) (.v 13)) (.br (tl (.v 4) (.v 14)) (.new 1000 (.f 84 (.v 0) (.v 1) (tC (.v 2) (tC (.v 3) (tC (.v 4) (tC (.v 8) (tC (.v 9) (.c 0))))))) (.br (tn (.cl 1000 0 9) (.c 0)) (.leaf [(.c 0), (.c 0)]) (.br (tl (.v 0) (.c 16384)) (.br (tl (.v 1) (.c 2048)) (.br (te (.v 2) (.v 1)) (.loop ⟨1001, [none, some (0, 1000000), some (0, 4611686018427387904)], [(.c 0), (.c 0), (.c 0)], 1009⟩ (.br (tk Q0 (.v 0)) (.loop ⟨1005, [some (0, 4294967295), some (-4611686018427387904, 31)], [(.c 0), (.c 31)], 1008⟩ (.br (tl (.c 0) Q1) (.br (tl (.c 0) Q2) (.br (tR (tR (.f 103 (.v 5) (.v 0) (tC (.v 1) (tC (.v 7) (.c 0)))) Q0) Q2) (.br Q4 (.back [(.w .u32 (tp Q7 (.c 1))), Q3]) (.bad 303)) (.br Q4 (.back [Q7, Q3]) (.bad 303))) (.bad
 200)) (.exit 0)) (.br Q10 (.br Q10 (.br (tl Q11 (.c 4611686018427387904)) (.back [(.f 14 (.v 1001) Q8 Q5), Q9, Q11]) (.bad 303)) (.bad 303)) (.bad 200))) (.exit 0)) (.leaf [Q8, (.v 1001)])) (.bad 200)) (.bad 200)) (.bad 200)))) (.bad 200)) (.bad 200)) (.bad 200)) (.bad 200)) (.bad 200))
def sL0 (a b c d e i j f h z0 z2 z4 : Int) : Prop := (z0 : Int) = (iteZ (Pd (chkZ a b (kZ c (kZ d (kZ e (kZ i (kZ j 0)))))) 0) 0 a) ∧ qQf [.int .u32] z2 (sctZ f a (kZ b (kZ h 0))) z4 ∧ True
def P (a b c d e f g h i j k l n o p : Int) : Prop :=
 (Pm (PL a k) (Pm (PL b l) (Pm (PL c n) (Pm (PL d o) (Pm (PL e p) (Pn (chkZ a b (kZ c (kZ d (kZ e (kZ i (kZ j 0)))))) 0 9 fun y0 => (Pb (Pd y0 0) (sL0 a b c d e i j f h 0 0 0) (Pm (PL a 16384) (Pm (PL b 2048) (Pm (Pe c b) (∃ I1001 : Int → Int → Int → Nat → Prop, (∃ m, I1001 0 0 0 m) ∧ ∀ y1 y2 y3 : Int, ∀ m1, (True ∧ (0 ≤ y2 ∧ y2 ≤ 1000000) ∧ (0 ≤ y3 ∧ y3 ≤ 4611686018427387904) ∧ True) → I1001 y1 y2 y3 m1 → (Pb (Pl y3 a) (∃ I1005 : Int → Int → Nat → Prop, (∃ m, I1005 0 31 m) ∧ ∀ y5 y6 : Int, ∀ m5, ((0 ≤ y5 ∧ y5 ≤ 4294967295) ∧ ((-4611686018427387904) ≤ y6 ∧ y6 ≤ 31) ∧ True) → I1005 y5 y6 m5 → (Pb (PL 0 y6) (Pm (PL 0 (1 + y6)) (Pb (rdZ (rdZ (levZ f a (kZ b (kZ h 0))) y3) (1 + y6)) (Pm (PL (-4611686018427387904) (y6 - 1)) (∃ m', m' < m5 ∧ I1005 (U3 ((U3 (2 * y5)) + 1)) (y6 - 1) m')) (Pm (PL
 (-4611686018427387904) (y6 - 1)) (∃ m', m' < m5 ∧ I1005 (U3 (2 * y5)) (y6 - 1) m')))) (Pm (PL (y2 + 1) 1000000) (Pm (PL (y2 + 1) 1000000) (Pm (PL (y3 + 1) 4611686018427387904) (∃ m', m' < m1 ∧ I1001 (updZ y1 y2 y5) (y2 + 1) (y3 + 1) m')))))) (sL0 a b c d e i j f h y2 y1 y2)))))))))))))
set_option maxHeartbeats 4000000 in
theorem holds (n0_0 n0_1 n0_2 n0_3 n0_4 c0_0 c0_1 c0_2 c0_3 c0_4 r0_0 r0_1 r0_2 r0_3 r0_4 : Int) (l_n0_0 : 0 ≤ n0_0) (u_n0_0 : n0_0 ≤ 1000000) (l_n0_1 : 0 ≤ n0_1) (u_n0_1 : n0_1 ≤ 1000000) (l_n0_2 : 0 ≤ n0_2) (u_n0_2 : n0_2 ≤ 1000000) (l_n0_3 : 0 ≤ n0_3) (u_n0_3 : n0_3 ≤ 1000000) (l_n0_4 : 0 ≤ n0_4) (u_n0_4 : n0_4 ≤ 1000000) (h_n0_0 : n0_0 ≤ r0_0) (h_n0_1 : n0_1 ≤ r0_1) (h_n0_2 : n0_2 ≤ r0_2) (h_n0_3 : n0_3 ≤ r0_3) (h_n0_4 : n0_4 ≤ r0_4) : P n0_0 n0_1 n0_2 n0_3 n0_4 c0_0 c0_1 c0_2 c0_3 c0_4 r0_0 r0_1 r0_2 r0_3 r0_4 := by
 delta P sL0 Pb Pm Pn PL Pl Pe Pd U3 kZ
 simp only [nrm, nro, Int.reduceEq, Int.reduceNeg, reduceIte]
 refine ⟨h_n0_0, h_n0_1, h_n0_2, h_n0_3, h_n0_4, ?_⟩
 rintro x rfl -
 simp only [chk_ev]
 generalize hC : chk7 n0_0 n0_1 n0_2 n0_3 n0_4 c0_3 c0_4 = C
 refine ⟨fun h => ⟨by rw [if_pos h], rowEq_nil _ _ _ (Int.le_refl _)⟩, fun h => ?_⟩
 obtain ⟨k1, k2, k3, k4, k5, k6, k7, k8⟩ := chk_zero (hC.trans h)
 have i0 : ∀ x y : Int, (if ¬ C = 0 then x else y) = y := fun x y => if_neg (fun g => g h)
 simp only [i0]
 subst k5
 refine ⟨k1, k2, rfl, ?_⟩
 have hz2 := qXr n0_2 c0_2
 refine ⟨fun c k j m => (0 ≤ j ∧ j ≤ n0_0) ∧ k = j ∧ (∀ i, 0 ≤ i → i < j → IntKind.wrap .u32 (rdZ c i) = IntKind.wrap .u32 (rdZ (sctZ c0_0 n0_0 (qQq n0_2 (qQq c0_2 0))) i)) ∧ m = (n0_0 - j).toNat, ⟨_, ⟨by decide, l_n0_0⟩, rfl, fun i _ _ => by omega, rfl⟩, ?_⟩
 rintro c k j m - ⟨⟨j0, j1⟩, e, hI, rfl⟩
 subst e
 refine ⟨fun hj => ?_, fun hj => ⟨by omega, row_u fun i i0 i1 => hI i i0 (by omega)⟩⟩
 obtain ⟨f, hf, hsum⟩ := sct_sum (w := c0_0) hz2.1 hz2.2 j0 hj
 obtain ⟨lr, ls⟩ := lev_rd (w := c0_0) (nr := n0_2) (cS := c0_2) j0 hj
 refine ⟨fun x r m => SbI f x r ∧ m = (r + 1).toNat, ⟨_, sb_start f, rfl⟩, ?_⟩
 rintro x r m - ⟨hS, rfl⟩
 have wu : ∀ y : Int, 0 ≤ y → y ≤ 4294967295 → IntKind.wrap .u32 y = y := fun y y0 y1 => by
  have : IntKind.wrap .u32 y = y % 4294967296 := by simp [IntKind.wrap, IntKind.bits, IntKind.signed]
  omega
 have hx0 := hS.2.1
 have hr := hS.1
 refine ⟨fun r0 => ⟨by omega, ?_⟩, fun r0 => ?_⟩
 ·have hl := ls r r0 (by omega)
  rw [c32_at _ r0 (by omega)] at hl
  have hfr := hf r.toNat
  rw [show ((r.toNat : Nat) : Int) = r by omega] at hfr
  refine ⟨fun hb => ⟨by omega, ?_⟩, fun hb => ⟨by omega, ?_⟩⟩
  ·obtain ⟨g1, g2⟩ := sb_step hS r0 (b := 1) (by rw [if_pos (hfr.2 (hl.1 hb))])
   rw [wu (2 * x) (by omega) (by omega), wu (2 * x + 1) (by omega) (by omega)]
   exact ⟨_, by omega, g1, rfl⟩
  ·obtain ⟨g1, g2⟩ := sb_step hS r0 (b := 0) (by rw [if_neg (fun k => hl.2 (hfr.1 k) hb)])
   rw [wu (2 * x) (by omega) (by omega)]
   rw [Int.add_zero] at g1
   exact ⟨_, by omega, g1, rfl⟩
 ·have hx := sb_end hS (by omega)
  refine ⟨by omega, by omega, by omega, _, ?_, ⟨by omega, by omega⟩, rfl, fun i i0 i1 => ?_, rfl⟩
  ·omega
  ·rw [qQh]
   by_cases e : i = k
   ·subst e
    rw [if_pos rfl, hsum, hx]
   ·rw [if_neg (by omega)]; exact hI i i0 (by omega)
theorem plain (i v ro p) : statR 2 rc tree ⟨i, fN, v, ro, p⟩ = P (i 0) (i 1) (i 2) (i 3) (i 4) (i 5) (i 6) (i 7) (i 8) (i 9) (i 10) (i 11) (i 12) (i 13) (i 14) := by kernel_rfl
theorem ran : ranR us (fun _ _ => .auto) rc 2 tree = true := by kernel_rfl
theorem fineT : fineR 2 rc tree = true := by kernel_rfl
theorem ok : RcOk (cxOf 2) rc := okR us_ok ran fineT okb fun i v ro p hρ hcap hpre => by rw [plain]; have q := hρ.hi; exact holds _ _ _ _ _ _ _ _ _ _ _ _ _ _ _ (q 0 _ rfl).1 (q 0 _ rfl).2 (q 1 _ rfl).1 (q 1 _ rfl).2 (q 2 _ rfl).1 (q 2 _ rfl).2 (q 3 _ rfl).1 (q 3 _ rfl).2 (q 4 _ rfl).1 (q 4 _ rfl).2 (hcap _ (mg 0 rfl)) (hcap _ (mg 1 rfl)) (hcap _ (mg 2 rfl)) (hcap _ (mg 3 rfl)) (hcap _ (mg 4 rfl))
end CRFSecrets
namespace CRWords
def rc : Rc := ⟨8, [none, none], [.row [.int .u32] 1000000, .row [.int .u32] 1000000], [], .one, [.bool (.ite (.b .eq .i64 (.v 0) (.v 1)) (.f 72 (.v 2) (.v 3) (.v 0)) (.c 0))]⟩
theorem okb : rc.ok = true := by kernel_rfl
noncomputable def us : SMs := fun Γ ins n => smH (cxG n Γ ins) [] (smR (cxG n Γ ins) [])
theorem us_ok : SMsOk us := fun Γ ins n => qJx (tabsG n Γ ins) (qZc _) (qJj (tabsG n Γ ins) (qZe _))
def tree : TT (List E) :=
(.br (.b .ne .i64 (.v 0) (.v 1))
 (.leaf [(.c 0)])
 (.loop ⟨1000, [some (0, 4611686018427387904)], [(.c 0)], 1002⟩
 (.br (.b .lt .i64 (.cl 1000 0 4611686018427387904) (.v 0))
 (.br (.b .lt .i64 (.cl 1000 0 4611686018427387904) (.v 1))
 (.br (.b .ne .i64 (.w .u32 (.f 13 (.v 2) (.cl 1000 0 4611686018427387904) (.c 0))) (.w .u32 (.f 13 (.v 3) (.cl 1000 0 4611686018427387904) (.c 0))))
 (.exit 0)
 (.br (.b .le .i64 (.b .padd .i64 (.cl 1000 0 4611686018427387904) (.c 1)) (.c 4611686018427387904))
 (.back [(.b .padd .i64 (.cl 1000 0 4611686018427387904) (.c 1))])
 (.bad 303)))
 (.bad 200))
 (.exit 1))
 (.br (.b .eq .i64 (.v 1002) (.c 0))
 (.leaf [(.c 0)])
 (.leaf [(.c 1)]))))
def P (n0 n1 c0 c1 r0 r1 : Int) : Prop :=
 (((qQz (n0 != n1)) ≠ 0 →
  ((0 : Int) ≠ 0 ↔ ((iteZ (qQz (n0 == n1)) (sameW c0 c1 n0) 0) : Int) ≠ 0) ∧ True) ∧ ((qQz (n0 != n1)) = 0 →
  ∃ I1000 : Int → Nat → Prop, (∃ m, I1000 0 m) ∧
  ∀ y1000 : Int, ∀ m1000, ((0 ≤ y1000 ∧ y1000 ≤ 4611686018427387904) ∧ True) → I1000 y1000 m1000 →
   (((qQz (decide (y1000 < n0))) ≠ 0 →
    (((qQz (decide (y1000 < n1))) ≠ 0 →
     (((qQz ((IntKind.wrap .u32 (rdZ c0 y1000)) != (IntKind.wrap .u32 (rdZ c1 y1000)))) ≠ 0 →
      (((qQz ((0 : Int) == 0)) ≠ 0 →
       ((0 : Int) ≠ 0 ↔ ((iteZ (qQz (n0 == n1)) (sameW c0 c1 n0) 0) : Int) ≠ 0) ∧ True) ∧ ((qQz ((0 : Int) == 0)) = 0 →
       ((1 : Int) ≠ 0 ↔ ((iteZ (qQz (n0 == n1)) (sameW c0 c1 n0) 0) : Int) ≠ 0) ∧ True))) ∧ ((qQz ((IntKind.wrap .u32 (rdZ c0 y1000)) != (IntKind.wrap .u32 (rdZ c1 y1000)))) = 0 →
      (((qQz (decide ((y1000 + 1) ≤ 4611686018427387904))) ≠ 0 →
       ∃ m', m' < m1000 ∧ I1000 (y1000 + 1) m') ∧ ((qQz (decide ((y1000 + 1) ≤ 4611686018427387904))) = 0 →
       False))))) ∧ ((qQz (decide (y1000 < n1))) = 0 →
     False))) ∧ ((qQz (decide (y1000 < n0))) = 0 →
    (((qQz ((1 : Int) == 0)) ≠ 0 →
     ((0 : Int) ≠ 0 ↔ ((iteZ (qQz (n0 == n1)) (sameW c0 c1 n0) 0) : Int) ≠ 0) ∧ True) ∧ ((qQz ((1 : Int) == 0)) = 0 →
     ((1 : Int) ≠ 0 ↔ ((iteZ (qQz (n0 == n1)) (sameW c0 c1 n0) 0) : Int) ≠ 0) ∧ True))))))
theorem sameU_iff (c d n : Int) : sameW c d n ≠ 0 ↔ ∀ i : Nat, (i : Int) < n → IntKind.wrap .u32 (rdZ c i) = IntKind.wrap .u32 (rdZ d i) := by
 have w : ∀ a b : Int, IntKind.wrap .i32 a = IntKind.wrap .i32 b ↔ IntKind.wrap .u32 a = IntKind.wrap .u32 b := fun a b =>
  ⟨fun h => by have := congrArg (IntKind.wrap .u32) h; rwa [Go.Eng.wrap_wrap .u32 .i32 _ (by decide), Go.Eng.wrap_wrap .u32 .i32 _ (by decide)] at this,
   fun h => by have := congrArg (IntKind.wrap .i32) h; rwa [Go.Eng.wrap_wrap .i32 .u32 _ (by decide), Go.Eng.wrap_wrap .i32 .u32 _ (by decide)] at this⟩
 unfold sameW
 split
 ·rename_i h; exact ⟨fun _ i hi => (w _ _).1 (h i hi), fun _ => by decide⟩
 ·rename_i h; exact ⟨fun k => absurd rfl k, fun k => absurd (fun i hi => (w _ _).2 (k i hi)) h⟩
theorem holds (n0 n1 c0 c1 r0 r1 : Int) (l_n0 : 0 ≤ n0) (u_n0 : n0 ≤ 1000000) (l_n1 : 0 ≤ n1) (u_n1 : n1 ≤ 1000000) (h_n0 : n0 ≤ r0) (h_n1 : n1 ≤ r1) : P n0 n1 c0 c1 r0 r1 := by
 unfold P
 simp only [nrm, Int.reduceEq, Int.reduceNeg, reduceIte]
 refine ⟨fun h => by simp [h], fun h => ?_⟩
 subst h
 simp only [if_true]
 have hs := sameU_iff c0 c1 n0
 refine ⟨fun i m => (∀ k : Nat, (k : Int) < i → IntKind.wrap .u32 (rdZ c0 k) = IntKind.wrap .u32 (rdZ c1 k)) ∧ i ≤ n0 ∧ m = (n0 - i).toNat, ⟨_, fun k hk => by omega, l_n0, rfl⟩, fun i m hb hI => ?_⟩
 obtain ⟨hI, hi, rfl⟩ := hI
 obtain ⟨j, rfl⟩ : ∃ j : Nat, i = j := ⟨i.toNat, by omega⟩
 refine ⟨fun h1 => ⟨fun h2 => ⟨fun h3 => by have : ¬ (sameW c0 c1 n0 ≠ 0) := fun h => h3 (hs.1 h j h1); simp_all, fun h3 => ⟨fun h4 => ⟨_, ?_, fun k hk => ?_, by omega, rfl⟩, fun h4 => by omega⟩⟩, fun h2 => by omega⟩, fun h1 => by have := hs.2 fun k hk => hI k (by omega); simp_all⟩
 ·omega
 ·by_cases e : k = j
  ·subst e; exact h3
  ·exact hI k (by omega)
theorem plain (i v ro p) : statR 2 rc tree ⟨i, fN, v, ro, p⟩ = P (i 0) (i 1) (i 2) (i 3) (i 4) (i 5) := by kernel_rfl
theorem ran : ranR us (fun _ _ => .auto) rc 2 tree = true := by kernel_rfl
theorem fineT : fineR 2 rc tree = true := by kernel_rfl
theorem ok : RcOk (cxOf 2) rc := okR us_ok ran fineT okb fun i v ro p hρ hcap hpre => by rw [plain]; have q := hρ.hi; exact holds _ _ _ _ _ _ (q 0 _ rfl).1 (q 0 _ rfl).2 (q 1 _ rfl).1 (q 1 _ rfl).2 (hcap _ (mg 0 rfl)) (hcap _ (mg 1 rfl))
end CRWords
end Go.Proofs.Yteimodjkllldlac
