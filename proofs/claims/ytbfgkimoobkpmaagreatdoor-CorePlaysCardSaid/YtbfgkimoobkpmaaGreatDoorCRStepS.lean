/-
  What astrolaberef16.Core).Step answers, as numbers of what it is handed: its run by the engine, and the plain statement behind it. No condition.
-/
import Derived.Test.YtbfgkimoobkpmaaGreatDoorGab
import Derived.Test.YtbfgkimoobkpmaaGreatDoorCRDec
import Derived.Test.YtbfgkimoobkpmaaGreatDoorCRDo
import Derived.Test.YtbfgkimoobkpmaaGreatDoorCRCost7
import Derived.Test.YtbfgkimoobkpmaaGreatDoorCRLow
import Derived.Test.YtbfgkimoobkpmaaGreatDoorCRSet
import Derived.Test.YtbfgkimoobkpmaaGreatDoorCRMark
import Derived.Test.YtbfgkimoobkpmaaGreatDoorCRGoes
import Derived.Test.YtbfgkimoobkpmaaGreatDoorGmD
import Derived.Test.YtbfgkimoobkpmaaGreatDoorGmE
namespace Go.Proofs.YtbfgkimoobkpmaaGreatDoor.CRStepS
open Go.Eng Go.RowKit
set_option linter.unusedVariables false
set_option linter.unusedSimpArgs false
set_option maxRecDepth 100000
def rk : Rk := ⟨10, [(-9223372036854775808, 9223372036854775807), (0, 0), (0, 16384), (0, 999999), (0, 2048)], 11, [.ptr 0 0], [.cells [.sl (.inp 0) 1 (.c 0) (.v 2) (some (.v 9)), .sl (.inp 1) 1 (.c 0) (.v 4) (some (.v 10)), .int .i32 (.w .i32 (.f 13 (.v 6) (.c 0) (.c 0))), .int .i32 (.w .i32 (.f 13 (.v 6) (.c 1) (.c 0))), .int .i32 (.w .i32 (.f 13 (.v 6) (.c 2) (.c 0))), .int .i32 (.w .i32 (.f 13 (.v 6) (.c 3) (.c 0))), .int .i32 (.w .i32 (.f 13 (.v 6) (.c 4) (.c 0))), .int .i32 (.w .i32 (.f 13 (.v 6) (.c 5) (.c 0))), .int .i32 (.w .i32 (.f 13 (.v 6) (.c 6) (.c 0))), .int .i32 (.w .i32 (.f 13 (.v 6) (.c 7) (.c 0))), .int .i32 (.w .i32 (.f 13 (.v 6) (.c 8) (.c 0))), .int .i32 (.w .i32 (.f 13 (.v 6) (.c 9) (.c 0))), .int .i32 (.w .i32 (.f 13 (.v 6) (.c 10) (.c 0))), .int .i32 (.w .i32 (.f 13 (.v 6) (.c 11) (.c 0))), .int .i32 (.w .i32 (.f 13 (.v 6) (.c 12) (.c 0))), .int .i32 (.w .i32 (.f 13 (.v 6) (.c 13) (.c 0))), .int .i32 (.w .i32 (.f 13 (.v 6) (.c 14) (.c 0))), .int .i32 (.w .i32 (.f 13 (.v 6) (.c 15) (.c 0))), .int .i32 (.w .i32 (.f 13 (.v 6) (.c 16) (.c 0))), .int .i32 (.w .i32 (.f 13 (.v 6) (.c 17) (.c 0))), .int .i32 (.w .i32 (.f 13 (.v 6) (.c 18) (.c 0))), .int .i32 (.w .i32 (.f 13 (.v 6) (.c 19) (.c 0))), .int .i32 (.w .i32 (.f 13 (.v 6) (.c 20) (.c 0))), .int .i32 (.w .i32 (.f 13 (.v 6) (.c 21) (.c 0))), .int .i32 (.w .i32 (.f 13 (.v 6) (.c 22) (.c 0))), .int .i32 (.w .i32 (.f 13 (.v 6) (.c 23) (.c 0))), .int .i32 (.w .i32 (.f 13 (.v 6) (.c 24) (.c 0))), .int .i32 (.w .i32 (.f 13 (.v 6) (.c 25) (.c 0))), .int .i32 (.w .i32 (.f 13 (.v 6) (.c 26) (.c 0))), .int .i32 (.w .i32 (.f 13 (.v 6) (.c 27) (.c 0))), .int .i32 (.w .i32 (.f 13 (.v 6) (.c 28) (.c 0))), .int .i32 (.w .i32 (.f 13 (.v 6) (.c 29) (.c 0))), .int .i32 (.w .i32 (.f 13 (.v 6) (.c 30) (.c 0))), .int .i32 (.w .i32 (.f 13 (.v 6) (.c 31) (.c 0))), .int .i64 (.v 0), .int .i64 (.v 1), .sl (.own 1) 3 (.c 0) (.v 3) none] 34 none, .arr [.int .i64, .int .i64, .int .i64] 47 (.v 8) (.v 3)], [(.f 83 (.v 5) (.v 2) (listE [(.v 6), (.v 4), (.v 0)]))], .tup [], [.cells [.sl (.inp 0) 1 (.c 0) (.v 2) (some (.v 9)), .sl (.own 2) 1 (.c 0) (.v 4) none, .int .i32 (.w .i32 (.f 13 (.v 1000000) (.c 0) (.c 0))), .int .i32 (.w .i32 (.f 13 (.v 1000000) (.c 1) (.c 0))), .int .i32 (.w .i32 (.f 13 (.v 1000000) (.c 2) (.c 0))), .int .i32 (.w .i32 (.f 13 (.v 1000000) (.c 3) (.c 0))), .int .i32 (.w .i32 (.f 13 (.v 1000000) (.c 4) (.c 0))), .int .i32 (.w .i32 (.f 13 (.v 1000000) (.c 5) (.c 0))), .int .i32 (.w .i32 (.f 13 (.v 1000000) (.c 6) (.c 0))), .int .i32 (.w .i32 (.f 13 (.v 1000000) (.c 7) (.c 0))), .int .i32 (.w .i32 (.f 13 (.v 1000000) (.c 8) (.c 0))), .int .i32 (.w .i32 (.f 13 (.v 1000000) (.c 9) (.c 0))), .int .i32 (.w .i32 (.f 13 (.v 1000000) (.c 10) (.c 0))), .int .i32 (.w .i32 (.f 13 (.v 1000000) (.c 11) (.c 0))), .int .i32 (.w .i32 (.f 13 (.v 1000000) (.c 12) (.c 0))), .int .i32 (.w .i32 (.f 13 (.v 1000000) (.c 13) (.c 0))), .int .i32 (.w .i32 (.f 13 (.v 1000000) (.c 14) (.c 0))), .int .i32 (.w .i32 (.f 13 (.v 1000000) (.c 15) (.c 0))), .int .i32 (.w .i32 (.f 13 (.v 1000000) (.c 16) (.c 0))), .int .i32 (.w .i32 (.f 13 (.v 1000000) (.c 17) (.c 0))), .int .i32 (.w .i32 (.f 13 (.v 1000000) (.c 18) (.c 0))), .int .i32 (.w .i32 (.f 13 (.v 1000000) (.c 19) (.c 0))), .int .i32 (.w .i32 (.f 13 (.v 1000000) (.c 20) (.c 0))), .int .i32 (.w .i32 (.f 13 (.v 1000000) (.c 21) (.c 0))), .int .i32 (.w .i32 (.f 13 (.v 1000000) (.c 22) (.c 0))), .int .i32 (.w .i32 (.f 13 (.v 1000000) (.c 23) (.c 0))), .int .i32 (.w .i32 (.f 13 (.v 1000000) (.c 24) (.c 0))), .int .i32 (.w .i32 (.f 13 (.v 1000000) (.c 25) (.c 0))), .int .i32 (.w .i32 (.f 13 (.v 1000000) (.c 26) (.c 0))), .int .i32 (.w .i32 (.f 13 (.v 1000000) (.c 27) (.c 0))), .int .i32 (.w .i32 (.f 13 (.v 1000000) (.c 28) (.c 0))), .int .i32 (.w .i32 (.f 13 (.v 1000000) (.c 29) (.c 0))), .int .i32 (.w .i32 (.f 13 (.v 1000000) (.c 30) (.c 0))), .int .i32 (.w .i32 (.f 13 (.v 1000000) (.c 31) (.c 0))), .int .i64 (.v 1000002), .int .i64 (.v 1000003), .sl (.own 3) 3 (.c 0) (.v 1000004) none] 34 none, .gone, .arr [.int .i32] 21 (.v 1000001) (.v 4), .arr [.int .i64, .int .i64, .int .i64] 47 (.v 1000005) (.v 1000004)], [.code [.int .i32] (.f 13 (.f 80 (.v 5) (.v 2) (listE [(.v 6), (.v 7), (.v 4), (.v 0), (.v 1), (.v 8), (.v 3)])) (.c 0) (.c 0)) (.c 32), .code [.int .i32] (.f 13 (.f 80 (.v 5) (.v 2) (listE [(.v 6), (.v 7), (.v 4), (.v 0), (.v 1), (.v 8), (.v 3)])) (.c 1) (.c 0)) (.v 4), .num (.w .i64 (.f 13 (.f 80 (.v 5) (.v 2) (listE [(.v 6), (.v 7), (.v 4), (.v 0), (.v 1), (.v 8), (.v 3)])) (.c 2) (.c 0))), .num (.w .i64 (.f 13 (.f 80 (.v 5) (.v 2) (listE [(.v 6), (.v 7), (.v 4), (.v 0), (.v 1), (.v 8), (.v 3)])) (.c 3) (.c 0))), .num (.w .i64 (.f 13 (.f 80 (.v 5) (.v 2) (listE [(.v 6), (.v 7), (.v 4), (.v 0), (.v 1), (.v 8), (.v 3)])) (.c 5) (.c 0))), .code [.int .i64, .int .i64, .int .i64] (.f 13 (.f 80 (.v 5) (.v 2) (listE [(.v 6), (.v 7), (.v 4), (.v 0), (.v 1), (.v 8), (.v 3)])) (.c 4) (.c 0)) (.w .i64 (.f 13 (.f 80 (.v 5) (.v 2) (listE [(.v 6), (.v 7), (.v 4), (.v 0), (.v 1), (.v 8), (.v 3)])) (.c 5) (.c 0)))], [⟨[.int .u32], (.v 5), (.v 2), (.v 9), none⟩, ⟨[.int .i32], (.v 7), (.v 4), (.v 10), none⟩]⟩
theorem okk : rk.ok = true := by kernel_rfl
theorem okh : rk.rh.ok = true := by kernel_rfl
noncomputable def us : SMs := fun Γ ins n => smH (cxG n Γ ins) [CRSet.rk.rh, CRMark.rk.rh, CRGoes.rk.rh] (smR (cxG n Γ ins) [CRDec.rc, CRDo.rc, CRCost7.rc, CRLow.rc])
theorem us_ok : SMsOk us := fun Γ ins n => smH_ok (tabsG n Γ ins) (rhs_cons CRSet.okh (rh_n CRSet.ok) (rhs_cons CRMark.okh (rh_n CRMark.ok) (rhs_cons CRGoes.okh (rh_n CRGoes.ok) (rhs_nil _)))) (smR_ok (tabsG n Γ ins) (rcs_cons CRDec.okb (rc_n CRDec.ok) (rcs_cons CRDo.okb (rc_n CRDo.ok) (rcs_cons CRCost7.okb (rc_n CRCost7.ok) (rcs_cons CRLow.okb (rc_n CRLow.ok) (rcs_nil _))))))
def Q0 : E := (tR (.v 5) (.v 0))
def Q1 : E := (.w .u32 Q0)
def Q2 : E := (.cl 1002 (-32768) 65535)
def Q3 : E := (.cl 1003 (-32768) 65535)
def Q4 : E := (.cl 1000 (-32768) 65535)
def Q5 : E := (tR (.v 6) Q2)
def Q6 : E := (t3 Q5)
def Q7 : E := (.cl 1004 (-32768) 65535)
def Q8 : E := (tp Q6 Q7)
def Q9 : E := (.cl 1001 (-32768) 65535)
def Q10 : E := (tl (.c 0) Q9)
def Q11 : E := (tl Q9 (.c 31))
def Q12 : E := (.cl 1006 (-2147516416) 2147549182)
def Q13 : E := (t3 Q12)
def Q14 : E := (tk Q13 (.c 0))
def Q15 : E := (tl (.v 4) Q13)
def Q16 : E := (tl (.c 0) Q13)
def Q17 : E := (tk Q13 (.v 4))
def Q18 : E := (tl (.c 1024) Q13)
def Q19 : E := (tR (.v 6) Q9)
def Q20 : E := (t3 Q19)
def Q21 : E := (.f 14 (.f 16 (.c 0) (.c 0) (.v 7)) Q13 Q20)
def Q22 : E := (tp (.v 0) (.c 1))
def Q23 : E := (t6 Q22)
def Q24 : E := (tp (.v 3) (.c 1))
def Q25 : E := (tl (.c 36) Q4)
def Q26 : E := (tl Q4 (.c 41))
def Q27 : E := (tl Q2 (.c 31))
def Q28 : E := (tR (.v 6) Q3)
def Q29 : E := (t3 Q28)
def tree : TT (List E) :=
 (.br (tk (.v 0) (.c 0)) (.bad 90) (.br (tl (.v 2) (.v 0)) (.bad 90) (.br (tl (.c 0) (.v 0)) (.br (tk (.v 0) (.v 2)) (.new 1000 (.f 67 Q1 (.c 0) (.c 0)) (.new 1001 (.f 67 Q1 (.c 1) (.c 0)) (.new 1002 (.f 67 Q1 (.c 2) (.c 0)) (.new 1003 (.f 67 Q1 (.c 3) (.c 0)) (.new 1004 (.f 67 Q1 (.c 4) (.c 0)) (.new 1005 (.f 67 Q1 (.c 5) (.c 0)) (.br (tn (.cl 1005 (-32768) 65535) (.c 0)) (.bad 90) (.br (tl (.c 0) Q2) (.br (tk Q2 (.c 32)) (.br (tl (.c 0) Q3) (.br (tk Q3 (.c 32)) (.br (te Q4 (.c 31)) (.new 1006 Q8 (.br Q10 (.br Q11 (.bad 90) (.bad 200)) (.bad 200))) (.br (te Q4 (.c 32)) (.new 1006 (.f 63 (.c 6) Q6 Q7) (.new 1007 (.f 64 (.c 6) Q6 Q7) (.br Q10 (.br Q11 (.bad 90) (.bad 200)) (.bad 200)))) (.br (te Q4 (.c 33)) (.br Q10 (.br Q11 (.bad 90) (.bad 200)) (.bad 200)) (.br (te Q4 (.c 34)) (.new 1006
 Q8 (.br Q14 (.bad 90) (.br Q15 (.bad 90) (.br Q16 (.br Q17 (.br Q10 (.br Q11 (.new 1007 (t3 (tR (.v 7) Q13)) (.br Q18 (.bad 90) (.bad 90))) (.bad 200)) (.bad 200)) (.bad 200)) (.bad 200))))) (.br (te Q4 (.c 35)) (.new 1006 Q8 (.br Q14 (.bad 90) (.br Q15 (.bad 90) (.br Q16 (.br Q17 (.br Q10 (.br (tk Q9 (.c 32)) (.br Q18 (.leaf [(.v 6), Q21, Q23, (.v 1), Q24, (.f 14 (.v 8) (.v 3) (tC (.v 0) (tC Q13 (tC (.c 3) (.c 0)))))]) (.leaf [(.v 6), Q21, Q23, (.v 1), Q24, (.f 14 (.v 8) (.v 3) (tC (.v 0) (tC Q13 (tC (.c 2) (.c 0)))))])) (.bad 200)) (.bad 200)) (.bad 200)) (.bad 200))))) (.br (te Q4 (.c 36)) (.br Q25 (.br Q26 (.br Q10 (.br Q11 (.br Q27 (.bad 90) (.bad 200)) (.bad 200)) (.bad 200)) (.bad 200)) (.bad 200)) (.br (te Q4 (.c 37)) (.br Q25 (.br Q26 (.br Q10 (.br Q11 (.br Q27 (.bad 90) (.bad
 200)) (.bad 200)) (.bad 200)) (.bad 200)) (.bad 200)) (.br (te Q4 (.c 38)) (.br Q25 (.br Q26 (.br Q10 (.br Q11 (.br Q27 (.bad 90) (.bad 200)) (.bad 200)) (.bad 200)) (.bad 200)) (.bad 200)) (.br (te Q4 (.c 39)) (.br Q25 (.br Q26 (.br Q10 (.br Q11 (.br Q27 (.bad 90) (.bad 200)) (.bad 200)) (.bad 200)) (.bad 200)) (.bad 200)) (.br (te Q4 (.c 40)) (.br Q25 (.br Q26 (.br Q10 (.br Q11 (.br Q27 (.bad 90) (.bad 200)) (.bad 200)) (.bad 200)) (.bad 200)) (.bad 200)) (.br (te Q4 (.c 41)) (.br Q25 (.br Q26 (.br Q10 (.br Q11 (.br Q27 (.bad 90) (.bad 200)) (.bad 200)) (.bad 200)) (.bad 200)) (.bad 200)) (.br (te Q4 (.c 42)) (.bad 90) (.br (te Q4 (.c 43)) (.bad 90) (.new 1006 (.f 63 Q4 Q6 Q29) (.new 1007 (.f 64 Q4 Q6 Q29) (.br (.nt (.cl 1007 0 1)) (.bad 90) (.br Q10 (.br Q11 (.new 1008 (.f 65 Q4 Q6
 (.c 0)) (.bad 90)) (.bad 200)) (.bad 200)))))))))))))))))) (.bad 200)) (.bad 200)) (.bad 200)) (.bad 200))))))))) (.bad 200)) (.bad 200))))

def sL0 (g f c h e a b i d y6 y1 z12 : Int) : Prop := rowEq [.int .i32] g (rdZ (rstZ f c (consZ g (consZ h (consZ e (consZ a (consZ b (consZ i (consZ d 0)))))))) 0) 32 ∧ rowEq [.int .i32] (updZ (appZ 0 0 h) (W3 y6) (W3 (rdZ g y1))) (rdZ (rstZ f c (consZ g (consZ h (consZ e (consZ a (consZ b (consZ i (consZ d 0)))))))) 1) e ∧ ((W6 (a + 1)) : Int) = (W6 (rdZ (rstZ f c (consZ g (consZ h (consZ e (consZ a (consZ b (consZ i (consZ d 0)))))))) 2)) ∧ (b : Int) = (W6 (rdZ (rstZ f c (consZ g (consZ h (consZ e (consZ a (consZ b (consZ i (consZ d 0)))))))) 3)) ∧ ((d + 1) : Int) = (W6 (rdZ (rstZ f c (consZ g (consZ h (consZ e (consZ a (consZ b (consZ i (consZ d 0)))))))) 5)) ∧ rowEq [.int .i64, .int .i64, .int .i64] z12 (rdZ (rstZ f c (consZ g (consZ h (consZ e (consZ a (consZ b (consZ i (consZ d
 0)))))))) 4) (W6 (rdZ (rstZ f c (consZ g (consZ h (consZ e (consZ a (consZ b (consZ i (consZ d 0)))))))) 5)) ∧ True
def P (a b c d e f g h i j k : Int) : Prop :=
 (Pb (Pl a 0) False (Pb (PL c a) False (Pm (PL 0 a) (Pm (Pl a c) (Pn (decZ (U3 (rdZ f a)) 0) (-32768) 65535 fun y0 => Pn (decZ (U3 (rdZ f a)) 1) (-32768) 65535 fun y1 => Pn (decZ (U3 (rdZ f a)) 2) (-32768) 65535 fun y2 => Pn (decZ (U3 (rdZ f a)) 3) (-32768) 65535 fun y3 => Pn (decZ (U3 (rdZ f a)) 4) (-32768) 65535 fun y4 => Pn (decZ (U3 (rdZ f a)) 5) (-32768) 65535 fun y5 => (Pb (Pd y5 0) False (Pm (PL 0 y2) (Pm (Pl y2 32) (Pm (PL 0 y3) (Pm (Pl y3 32) (Pb (Pe y0 31) (Pn ((W3 (rdZ g y2)) + y4) (-2147516416) 2147549182 fun y6 => (Pm (PL 0 y1) (Pm (PL y1 31) False))) (Pb (Pe y0 32) (Pn (aluV 6 (W3 (rdZ g y2)) y4) (-2147483648) 2147483647 fun y6 => Pn (aluK 6 (W3 (rdZ g y2)) y4) 0 1 fun y7 => (Pm (PL 0 y1) (Pm (PL y1 31) False))) (Pb (Pe y0 33) (Pm (PL 0 y1) (Pm (PL y1 31) False)) (Pb (Pe y0
 34) (Pn ((W3 (rdZ g y2)) + y4) (-2147516416) 2147549182 fun y6 => (Pb (Pl (W3 y6) 0) False (Pb (PL e (W3 y6)) False (Pm (PL 0 (W3 y6)) (Pm (Pl (W3 y6) e) (Pm (PL 0 y1) (Pm (PL y1 31) (Pn (W3 (rdZ h (W3 y6))) (-2147483648) 2147483647 fun y7 => (Pm (PL 1024 (W3 y6)) False))))))))) (Pb (Pe y0 35) (Pn ((W3 (rdZ g y2)) + y4) (-2147516416) 2147549182 fun y6 => (Pb (Pl (W3 y6) 0) False (Pb (PL e (W3 y6)) False (Pm (PL 0 (W3 y6)) (Pm (Pl (W3 y6) e) (Pm (PL 0 y1) (Pm (Pl y1 32) (Pb (PL 1024 (W3 y6)) (sL0 g f c h e a b i d y6 y1 (updZ i d (consZ a (consZ (W3 y6) (consZ 3 0))))) (sL0 g f c h e a b i d y6 y1 (updZ i d (consZ a (consZ (W3 y6) (consZ 2 0))))))))))))) (Pb (Pe y0 36) (Pm (PL 36 y0) (Pm (PL y0 41) (Pm (PL 0 y1) (Pm (PL y1 31) (Pm (PL y2 31) False))))) (Pb (Pe y0 37) (Pm (PL 36 y0) (Pm
 (PL y0 41) (Pm (PL 0 y1) (Pm (PL y1 31) (Pm (PL y2 31) False))))) (Pb (Pe y0 38) (Pm (PL 36 y0) (Pm (PL y0 41) (Pm (PL 0 y1) (Pm (PL y1 31) (Pm (PL y2 31) False))))) (Pb (Pe y0 39) (Pm (PL 36 y0) (Pm (PL y0 41) (Pm (PL 0 y1) (Pm (PL y1 31) (Pm (PL y2 31) False))))) (Pb (Pe y0 40) (Pm (PL 36 y0) (Pm (PL y0 41) (Pm (PL 0 y1) (Pm (PL y1 31) (Pm (PL y2 31) False))))) (Pb (Pe y0 41) (Pm (PL 36 y0) (Pm (PL y0 41) (Pm (PL 0 y1) (Pm (PL y1 31) (Pm (PL y2 31) False))))) (Pb (Pe y0 42) False (Pb (Pe y0 43) False (Pn (aluV y0 (W3 (rdZ g y2)) (W3 (rdZ g y3))) (-2147483648) 2147483647 fun y6 => Pn (aluK y0 (W3 (rdZ g y2)) (W3 (rdZ g y3))) 0 1 fun y7 => (Pb (Pe y7 0) False (Pm (PL 0 y1) (Pm (PL y1 31) (Pn (aluC y0 (W3 (rdZ g y2))) 0 67 fun y8 => False))))))))))))))))))))))))))))

set_option maxHeartbeats 8000000 in
theorem holds (pc state nc nm nr wq rg rm mq rK rW : Int) (l_pc : -9223372036854775808 ≤ pc) (u_pc : pc ≤ 9223372036854775807) (l_state : 0 ≤ state) (u_state : state ≤ 0) (l_nc : 0 ≤ nc) (u_nc : nc ≤ 16384) (l_nm : 0 ≤ nm) (u_nm : nm ≤ 999999) (l_nr : 0 ≤ nr) (u_nr : nr ≤ 2048) (h_pre0 : (swZ wq nc (consZ rg (consZ nr (consZ pc 0)))) ≠ 0) : P pc state nc nm nr wq rg rm mq rK rW := by
  delta P sL0 Pb Pm Pn PL Pl Pe Pd W6 W3 U3
  simp only [b01_eq, decide_eq_true_eq, decide_eq_false_iff_not, beq_iff_eq, beq_eq_false_iff_ne, bne_iff_ne, bne_eq_false_iff_eq, Int.not_le, Int.not_lt, true_and, and_true, iteZ_ne, ne_eq, Bool.not_eq_false, Bool.not_eq_true, not_true_eq_false, not_false_eq_true, Decidable.not_not, forall_const, false_implies, true_iff, iff_true, false_iff, iff_false, Int.reduceEq, Int.reduceNeg, eq_self, if_true, if_false, reduceIte, ob_le, ob_lt, ob_p, ob_n]
  obtain ⟨k, rfl⟩ := Int.eq_ofNat_of_zero_le l_nc
  have h0 : state = 0 := by omega
  have i0 : I64 pc := ⟨by omega, by omega⟩
  have i1 : I64 state := ⟨by omega, by omega⟩
  have hsw := sw_ne.1 h_pre0
  unfold swP swA at hsw
  obtain ⟨s1, s2, s3, s4, s5, s6⟩ := hsw
  refine ⟨fun h1 => by omega, fun h1 => ⟨fun h2 => by omega, fun h2 => ⟨h1, h2, ?_⟩⟩⟩
  intro y0 e0 b0 y1 e1 b1 y2 e2 b2 y3 e3 b3 y4 e4 b4 y5 e5 b5
  have hs := x_dec (rg := rg) (rm := rm) (st := state) (co := 0) (mq := mq) (nm := nm) (w := wq) h0 h1 h2 nr
  have hd := dec_in (rdZ wq pc)
  rw [← e0, ← e1, ← e2, ← e3, ← e4, ← e5] at hs hd
  rw [← e5] at s3
  rw [← e0] at s4
  rw [← e2, ← e4] at s5 s6
  clear e0 e1 e2 e3 e4 e5
  rw [if_pos s3] at hs
  obtain ⟨⟨d1, d2⟩, ⟨d3, d4⟩, ⟨d5, d6⟩, ⟨d7, d8⟩, d9, d10⟩ := hd s3
  have w4 : IntKind.wrap .i32 y4 = y4 := wi32 (by omega) (by omega)
  subst s4
  refine ⟨fun h => (h s3).elim, fun _ => ⟨d5, d6, d7, d8, fun h => by omega, fun _ => ⟨fun h => by omega, fun _ => ⟨fun h => by omega, fun _ => ⟨fun h => by omega, fun _ => ⟨fun _ => ?_, fun h => (h rfl).elim⟩⟩⟩⟩⟩⟩
  rintro _ rfl _
  exact ⟨fun h => by omega, fun h4 => ⟨fun h => by omega, fun h5 => ⟨h4, h5, by omega, by omega, fun h6 => rst_x i0 i1 l_nm u_nm (ex_of hs (x_35 w4 h4 h5 (if_pos h6).symm)) (memEq_copy _ _ _ _), fun h6 => rst_x i0 i1 l_nm u_nm (ex_of hs (x_35 w4 h4 h5 (if_neg (by omega)).symm)) (memEq_copy _ _ _ _)⟩⟩⟩

theorem plain (i v ro p) : statH 2 rk tree ⟨i, fN, v, ro, p⟩ = P (i 0) (i 1) (i 2) (i 3) (i 4) (i 5) (i 6) (i 7) (i 8) (i 9) (i 10) := by kernel_rfl
theorem ran : ranH us (fun _ _ => .auto) rk 2 tree = true := by kernel_rfl
theorem fineT : fineH 2 rk tree = true := by kernel_rfl
theorem fineB : blVb 1000 rk.inb = true := by kernel_rfl
theorem ok : RhOk (cxOf 2) rk.rh := okH us_ok ran fineT fineB okk fun i v ro p hρ hpre => by rw [plain]; exact holds (i 0) (i 1) (i 2) (i 3) (i 4) (i 5) (i 6) (i 7) (i 8) (i 9) (i 10) (hρ.hi 0 _ rfl).1 (hρ.hi 0 _ rfl).2 (hρ.hi 1 _ rfl).1 (hρ.hi 1 _ rfl).2 (hρ.hi 2 _ rfl).1 (hρ.hi 2 _ rfl).2 (hρ.hi 3 _ rfl).1 (hρ.hi 3 _ rfl).2 (hρ.hi 4 _ rfl).1 (hρ.hi 4 _ rfl).2 (hpre _ (List.mem_of_getElem? (i := 0) rfl))
end Go.Proofs.YtbfgkimoobkpmaaGreatDoor.CRStepS
