/-
  What functions of the program answer, as numbers of what they are handed: their runs by the engine, the plain statements behind them. No condition.
-/
import Derived.Test.YtppkkgicidagmabGreatDoorKa
import Derived.Test.YtppkkgicidagmabGreatDoorKc
import Derived.Test.YtppkkgicidagmabGreatDoorKd
import Derived.Test.YtppkkgicidagmabGreatDoorGab
import Derived.Test.YtppkkgicidagmabGreatDoorGp2
set_option linter.unusedVariables false
set_option linter.unusedSimpArgs false
set_option maxRecDepth 100000
namespace Go.Proofs.YtppkkgicidagmabGreatDoor
open Go.Eng Go.RowKit
namespace CCStep
def rk : Rk := ⟨16, [(-9223372036854775808, 9223372036854775807), (-9223372036854775808, 9223372036854775807), (-9223372036854775808, 9223372036854775807), (0, 16384), (0, 999999), (0, 2048)], 10, [.ptr 0 0], [.cells (([.ptr 1 0, .sl (.own 2) 6 (.c 0) (.v 3) none] : List SV) ++ bk32 (.v 7) ++ ([.int .i64 (.v 0), .int .i64 (.v 1), .int .i64 (.v 2), .sl (.own 4) 3 (.c 0) (.v 4) none] : List SV)) 46 none, .cells [.sl (.own 3) 1 (.c 0) (.v 5) none, .bool (.c 1)] 69 none, .arr [.int .i64, .int .i64, .int .i64, .int .i64, .int .i64, .bool] 52 (.v 6) (.v 3), .arr [.int .i32] 21 (.v 8) (.v 5), .arr [.int .i64, .int .i64, .int .i64] 124 (.v 9) (.v 4)], [(.f 68 (.v 6) (.v 3) (.c 0))], .bool (.v 1000007), [.cells (([.ptr 1 0, .sl (.own 2) 6 (.c 0) (.v 3) none] : List SV) ++ bk32 (.v 1000000) ++ ([.int .i64 (.v 1000002), .int .i64 (.v 1000003), .int .i64 (.v 1000004), .sl (.own 5) 3 (.c 0) (.v 1000005) none] : List SV)) 46 none, .cells [.sl (.own 3) 1 (.c 0) (.v 5) none, .bool (.c 1)] 69 none, .arr [.int .i64, .int .i64, .int .i64, .int .i64, .int .i64, .bool] 52 (.v 6) (.v 3), .arr [.int .i32] 21 (.v 1000001) (.v 5), .gone, .arr [.int .i64, .int .i64, .int .i64] 124 (.v 1000006) (.v 1000005)], [.code [.int .i32] (.f 13 (.f 69 (.v 6) (.v 3) (qQr [(.v 7), (.v 8), (.v 5), (.v 0), (.v 1), (.v 2), (.v 9), (.v 4)])) (.c 0) (.c 0)) (.c 32), .code [.int .i32] (.f 13 (.f 69 (.v 6) (.v 3) (qQr [(.v 7), (.v 8), (.v 5), (.v 0), (.v 1), (.v 2), (.v 9), (.v 4)])) (.c 1) (.c 0)) (.v 5), .num (.w .i64 (.f 13 (.f 69 (.v 6) (.v 3) (qQr [(.v 7), (.v 8), (.v 5), (.v 0), (.v 1), (.v 2), (.v 9), (.v 4)])) (.c 2) (.c 0))), .num (.w .i64 (.f 13 (.f 69 (.v 6) (.v 3) (qQr [(.v 7), (.v 8), (.v 5), (.v 0), (.v 1), (.v 2), (.v 9), (.v 4)])) (.c 3) (.c 0))), .num (.w .i64 (.f 13 (.f 69 (.v 6) (.v 3) (qQr [(.v 7), (.v 8), (.v 5), (.v 0), (.v 1), (.v 2), (.v 9), (.v 4)])) (.c 4) (.c 0))), .num (.w .i64 (.f 13 (.f 69 (.v 6) (.v 3) (qQr [(.v 7), (.v 8), (.v 5), (.v 0), (.v 1), (.v 2), (.v 9), (.v 4)])) (.c 6) (.c 0))), .code [.int .i64, .int .i64, .int .i64] (.f 13 (.f 69 (.v 6) (.v 3) (qQr [(.v 7), (.v 8), (.v 5), (.v 0), (.v 1), (.v 2), (.v 9), (.v 4)])) (.c 5) (.c 0)) (.w .i64 (.f 13 (.f 69 (.v 6) (.v 3) (qQr [(.v 7), (.v 8), (.v 5), (.v 0), (.v 1), (.v 2), (.v 9), (.v 4)])) (.c 6) (.c 0))), .bool (.b .eq .i64 (.v 1) (.c 0))], []⟩
theorem okk : rk.ok = true := by kernel_rfl
theorem okh : rk.rh.ok = true := by kernel_rfl
noncomputable def us : SMs := fun Γ ins n => smH (cxG n Γ ins) [] (smR (cxG n Γ ins) [CADo.rc, COCost.rc, CACost.rc])
theorem us_ok : SMsOk us := fun Γ ins n => smH_ok (tabsG n Γ ins) (qKh _) (smR_ok (tabsG n Γ ins) (qJv CADo.okb (rc_n CADo.ok) (qJv COCost.okb (rc_n COCost.ok) (qJv CACost.okb (rc_n CACost.ok) (qKi _)))))
def Q0 : E := (tR (.v 6) (.v 0))
def Q1 : E := (.cl 1002 (-9223372036854775808) 9223372036854775807)
def Q2 : E := (.cl 1000 (-9223372036854775808) 9223372036854775807)
def Q3 : E := (.cl 1003 (-9223372036854775808) 9223372036854775807)
def Q4 : E := (tR (.v 7) Q1)
def Q5 : E := (t3 Q4)
def Q6 : E := (tR (.v 7) Q3)
def Q7 : E := (t3 Q6)
def Q8 : E := (.cl 1001 (-9223372036854775808) 9223372036854775807)
def Q9 : E := (tn Q8 (.c 0))
def Q10 : E := (tl (.c 0) Q8)
def Q11 : E := (tk Q8 (.c 32))
def Q12 : E := (.f 65 Q2 Q5 (.c 0))
def Q13 : E := (.cl 1005 (-2147483648) 2147483647)
def Q14 : E := (tp (.v 0) (.c 1))
def Q15 : E := (t6 Q14)
def Q16 : E := (tp (.v 2) (.cl 1007 0 67))
def Q17 : E := (t6 Q16)
def Q18 : E := (tp (.v 4) (.c 1))
def Q19 : E := (tC (.cl 1007 0 67) (.c 0))
def Q20 : E := (tC (.c (-1)) Q19)
def Q21 : E := (tC (.v 0) Q20)
def Q22 : E := (.f 14 (.v 9) (.v 4) Q21)
def Q23 : E := (.cl 1004 (-9223372036854775808) 9223372036854775807)
def Q24 : E := (t3 Q23)
def Q25 : E := (tp Q5 Q24)
def Q26 : E := (t3 Q25)
def Q27 : E := (tp (.v 2) (.c 1))
def Q28 : E := (t6 Q27)
def Q29 : E := (tC (.c 1) (.c 0))
def Q30 : E := (tC (.c (-1)) Q29)
def Q31 : E := (tC (.v 0) Q30)
def Q32 : E := (.f 14 (.v 9) (.v 4) Q31)
def Q33 : E := (tk Q13 (.c 0))
def Q34 : E := (tl (.v 5) Q13)
def Q35 : E := (tl (.c 0) Q13)
def Q36 : E := (tk Q13 (.v 5))
def Q37 : E := (tl (.c 1024) Q13)
def Q38 : E := (te Q2 (.c 35))
def Q39 : E := (tR (.v 7) Q8)
def Q40 : E := (t3 Q39)
def Q41 : E := (.f 14 (.v 8) Q13 Q40)
def Q42 : E := (.f 66 Q2 (.c 0) (.c 0))
def Q43 : E := (tp Q42 (.c 1))
def Q44 : E := (tp (.v 2) Q43)
def Q45 : E := (t6 Q44)
def Q46 : E := (tC Q43 (.c 0))
def Q47 : E := (tC Q13 Q46)
def Q48 : E := (tC (.v 0) Q47)
def Q49 : E := (.f 14 (.v 9) (.v 4) Q48)
def Q50 : E := (tR (.v 8) Q13)
def Q51 : E := (t3 Q50)
def Q52 : E := (.f 14 (.v 7) Q8 Q51)
def Q53 : E := (tp (.v 2) Q42)
def Q54 : E := (t6 Q53)
def Q55 : E := (tC Q42 (.c 0))
def Q56 : E := (tC Q13 Q55)
def Q57 : E := (tC (.v 0) Q56)
def Q58 : E := (.f 14 (.v 9) (.v 4) Q57)
def Q59 : E := (tp (.v 2) (.c 3))
def Q60 : E := (t6 Q59)
def Q61 : E := (tC (.c 3) (.c 0))
def Q62 : E := (tC (.c (-1)) Q61)
def Q63 : E := (tC (.v 0) Q62)
def Q64 : E := (.f 14 (.v 9) (.v 4) Q63)
def Q65 : E := (.cl 1005 (-9223372036854775808) 9223372036854775807)
def Q66 : E := (tC (.c (-1)) Q55)
def Q67 : E := (tC (.v 0) Q66)
def Q68 : E := (.f 14 (.v 9) (.v 4) Q67)
def tree : TT (List E) :=
 (.br (tn (.v 1) (.c 0)) (.leaf [(.v 7), (.v 8), (.v 0), (.v 1), (.v 2), (.v 4), (.v 9), (.c 0)]) (.br (tk (.v 0) (.c 0)) (.leaf [(.v 7), (.v 8), (.v 0), (.c 2), (.v 2), (.v 4), (.v 9), (.c 1)]) (.br (tl (.v 3) (.v 0)) (.leaf [(.v 7), (.v 8), (.v 0), (.c 2), (.v 2), (.v 4), (.v 9), (.c 1)]) (.br (tl (.c 0) (.v 0)) (.br (tk (.v 0) (.v 3)) (.new 1000 (t6 (tR Q0 (.c 0))) (.new 1001 (t6 (tR Q0 (.c 1))) (.new 1002 (t6 (tR Q0 (.c 2))) (.new 1003 (t6 (tR Q0 (.c 3))) (.new 1004 (t6 (tR Q0 (.c 4))) (.br (.nt (tR Q0 (.c 5))) (.leaf [(.v 7), (.v 8), (.v 0), (.c 3), (.v 2), (.v 4), (.v 9), (.c 1)]) (.br (tl (.c 0) Q1) (.br (tk Q1 (.c 32)) (.br (tl Q2 (.c 30)) (.br (tl (.c 0) Q3) (.br (tk Q3 (.c 32)) (.new 1005 (.f 63 Q2 Q5 Q7) (.new 1006 (.f 64 Q2 Q5 Q7) (.br (.nt (.cl 1006 0 1)) (.leaf [(.v 7), (.v
 8), (.v 0), (.c 5), (.v 2), (.v 4), (.v 9), (.c 1)]) (.br Q9 (.br Q10 (.br Q11 (.new 1007 Q12 (.leaf [(.f 14 (.v 7) Q8 Q13), (.v 8), Q15, (.v 1), Q17, Q18, Q22, (.c 1)])) (.bad 200)) (.bad 200)) (.new 1007 Q12 (.leaf [(.v 7), (.v 8), Q15, (.v 1), Q17, Q18, Q22, (.c 1)])))))) (.bad 200)) (.bad 200)) (.br (te Q2 (.c 31)) (.br Q9 (.br Q10 (.br Q11 (.leaf [(.f 14 (.v 7) Q8 Q26), (.v 8), Q15, (.v 1), Q28, Q18, Q32, (.c 1)]) (.bad 200)) (.bad 200)) (.leaf [(.v 7), (.v 8), Q15, (.v 1), Q28, Q18, Q32, (.c 1)])) (.br (te Q2 (.c 32)) (.br Q9 (.br Q10 (.br Q11 (.leaf [(.f 14 (.v 7) Q8 (.b .or .i32 Q5 Q24)), (.v 8), Q15, (.v 1), Q28, Q18, Q32, (.c 1)]) (.bad 200)) (.bad 200)) (.leaf [(.v 7), (.v 8), Q15, (.v 1), Q28, Q18, Q32, (.c 1)])) (.br (te Q2 (.c 33)) (.br Q9 (.br Q10 (.br Q11 (.leaf [(.f 14
 (.v 7) Q8 (t3 (.b .shl .u32 (.w .u32 Q23) (.c 16)))), (.v 8), Q15, (.v 1), Q28, Q18, Q32, (.c 1)]) (.bad 200)) (.bad 200)) (.leaf [(.v 7), (.v 8), Q15, (.v 1), Q28, Q18, Q32, (.c 1)])) (.br (te Q2 (.c 34)) (.new 1005 Q26 (.br Q33 (.leaf [(.v 7), (.v 8), (.v 0), (.c 4), (.v 2), (.v 4), (.v 9), (.c 1)]) (.br Q34 (.leaf [(.v 7), (.v 8), (.v 0), (.c 4), (.v 2), (.v 4), (.v 9), (.c 1)]) (.br Q35 (.br Q36 (.br Q37 (.br Q38 (.br Q10 (.br Q11 (.leaf [(.v 7), Q41, Q15, (.v 1), Q45, Q18, Q49, (.c 1)]) (.bad 200)) (.bad 200)) (.br Q9 (.br Q10 (.br Q11 (.leaf [Q52, (.v 8), Q15, (.v 1), Q45, Q18, Q49, (.c 1)]) (.bad 200)) (.bad 200)) (.leaf [(.v 7), (.v 8), Q15, (.v 1), Q45, Q18, Q49, (.c 1)]))) (.br Q38 (.br Q10 (.br Q11 (.leaf [(.v 7), Q41, Q15, (.v 1), Q54, Q18, Q58, (.c 1)]) (.bad 200)) (.bad
 200)) (.br Q9 (.br Q10 (.br Q11 (.leaf [Q52, (.v 8), Q15, (.v 1), Q54, Q18, Q58, (.c 1)]) (.bad 200)) (.bad 200)) (.leaf [(.v 7), (.v 8), Q15, (.v 1), Q54, Q18, Q58, (.c 1)])))) (.bad 200)) (.bad 200))))) (.br Q38 (.new 1005 Q26 (.br Q33 (.leaf [(.v 7), (.v 8), (.v 0), (.c 4), (.v 2), (.v 4), (.v 9), (.c 1)]) (.br Q34 (.leaf [(.v 7), (.v 8), (.v 0), (.c 4), (.v 2), (.v 4), (.v 9), (.c 1)]) (.br Q35 (.br Q36 (.br Q37 (.br Q10 (.br Q11 (.leaf [(.v 7), Q41, Q15, (.v 1), Q45, Q18, Q49, (.c 1)]) (.bad 200)) (.bad 200)) (.br Q10 (.br Q11 (.leaf [(.v 7), Q41, Q15, (.v 1), Q54, Q18, Q58, (.c 1)]) (.bad 200)) (.bad 200))) (.bad 200)) (.bad 200))))) (.br Q10 (.br Q11 (.br (te Q2 (.c 36)) (.br (tn Q40 Q5) (.leaf [(.v 7), (.v 8), Q15, (.v 1), Q28, Q18, Q32, (.c 1)]) (.leaf [(.v 7), (.v 8), Q23, (.v
 1), Q60, Q18, Q64, (.c 1)])) (.br (te Q2 (.c 37)) (.br (te Q40 Q5) (.leaf [(.v 7), (.v 8), Q15, (.v 1), Q28, Q18, Q32, (.c 1)]) (.leaf [(.v 7), (.v 8), Q23, (.v 1), Q60, Q18, Q64, (.c 1)])) (.br (te Q2 (.c 38)) (.br (.nt (tk Q40 Q5)) (.leaf [(.v 7), (.v 8), Q15, (.v 1), Q28, Q18, Q32, (.c 1)]) (.leaf [(.v 7), (.v 8), Q23, (.v 1), Q60, Q18, Q64, (.c 1)])) (.br (te Q2 (.c 40)) (.br Q9 (.new 1005 Q54 (.leaf [(.f 14 (.v 7) Q8 (t3 Q14)), (.v 8), Q23, (.v 1), Q65, Q18, Q68, (.c 1)])) (.new 1005 Q54 (.leaf [(.v 7), (.v 8), Q23, (.v 1), Q65, Q18, Q68, (.c 1)]))) (.br (te Q2 (.c 39)) (.new 1005 Q54 (.leaf [(.v 7), (.v 8), Q23, (.v 1), Q65, Q18, Q68, (.c 1)])) (.br (te Q2 (.c 41)) (.leaf [(.v 7), (.v 8), Q5, (.v 1), Q54, Q18, Q68, (.c 1)]) (.br (te Q2 (.c 43)) (.new 1005 Q54 (.leaf [(.v 7), (.v
 8), (.v 0), (.c 1), Q65, Q18, Q68, (.c 1)])) (.leaf [(.v 7), (.v 8), Q15, (.v 1), Q54, Q18, Q68, (.c 1)])))))))) (.bad 200)) (.bad 200)))))))) (.bad 200)) (.bad 200)))))))) (.bad 200)) (.bad 200)))))
noncomputable def sq0 (g d h i f a b c j e : Int) : Int := (stepZ g d (kZ h (kZ i (kZ f (kZ a (kZ b (kZ c (kZ j (kZ e 0)))))))))
def sL0 (g d h i f a b c j e z0 z3 z6 z8 z10 z12 z14 z17 : Int) : Prop := qZz [.int .i32] z0 (rdZ (sq0 g d h i f a b c j e) 0) 32 ∧ qZz [.int .i32] z3 (rdZ (sq0 g d h i f a b c j e) 1) f ∧ (z6 : Int) = (W6 (rdZ (sq0 g d h i f a b c j e) 2)) ∧ (z8 : Int) = (W6 (rdZ (sq0 g d h i f a b c j e) 3)) ∧ (z10 : Int) = (W6 (rdZ (sq0 g d h i f a b c j e) 4)) ∧ (z12 : Int) = (W6 (rdZ (sq0 g d h i f a b c j e) 6)) ∧ qZz [.int .i64, .int .i64, .int .i64] z14 (rdZ (sq0 g d h i f a b c j e) 5) (W6 (rdZ (sq0 g d h i f a b c j e) 6)) ∧ ((z17 : Int) ≠ 0 ↔ ((Pe b 0) : Int) ≠ 0) ∧ True
def P (a b c d e f g h i j : Int) : Prop :=
 (Pb (Pd b 0) (sL0 g d h i f a b c j e h i a b c e j 0) (Pb (Pl a 0) (sL0 g d h i f a b c j e h i a 2 c e j 1) (Pb (PL d a) (sL0 g d h i f a b c j e h i a 2 c e j 1) (Pm (PL 0 a) (Pm (Pl a d) (Pn (W6 (rdZ (rdZ g a) 0)) (-9223372036854775808) 9223372036854775807 fun y0 => Pn (W6 (rdZ (rdZ g a) 1)) (-9223372036854775808) 9223372036854775807 fun y1 => Pn (W6 (rdZ (rdZ g a) 2)) (-9223372036854775808) 9223372036854775807 fun y2 => Pn (W6 (rdZ (rdZ g a) 3)) (-9223372036854775808) 9223372036854775807 fun y3 => Pn (W6 (rdZ (rdZ g a) 4)) (-9223372036854775808) 9223372036854775807 fun y4 => (Pb (Pe (rdZ (rdZ g a) 5) 0) (sL0 g d h i f a b c j e h i a 3 c e j 1) (Pm (PL 0 y2) (Pm (Pl y2 32) (Pb (PL y0 30) (Pm (PL 0 y3) (Pm (Pl y3 32) (Pn (aluV y0 (W3 (rdZ h y2)) (W3 (rdZ h y3))) (-2147483648)
 2147483647 fun y5 => Pn (aluK y0 (W3 (rdZ h y2)) (W3 (rdZ h y3))) 0 1 fun y6 => (Pb (Pe y6 0) (sL0 g d h i f a b c j e h i a 5 c e j 1) (Pb (Pd y1 0) (Pm (PL 0 y1) (Pm (Pl y1 32) (Pn (aluC y0 (W3 (rdZ h y2))) 0 67 fun y7 => (sL0 g d h i f a b c j e (updZ h y1 y5) i (W6 (a + 1)) b (W6 (c + y7)) (e + 1) (updZ j e (kZ a (kZ (-1) (kZ y7 0)))) 1)))) (Pn (aluC y0 (W3 (rdZ h y2))) 0 67 fun y7 => (sL0 g d h i f a b c j e h i (W6 (a + 1)) b (W6 (c + y7)) (e + 1) (updZ j e (kZ a (kZ (-1) (kZ y7 0)))) 1))))))) (Pb (Pe y0 31) (Pb (Pd y1 0) (Pm (PL 0 y1) (Pm (Pl y1 32) (sL0 g d h i f a b c j e (updZ h y1 (W3 ((W3 (rdZ h y2)) + (W3 y4)))) i (W6 (a + 1)) b (W6 (c + 1)) (e + 1) (updZ j e (kZ a (kZ (-1) (kZ 1 0)))) 1))) (sL0 g d h i f a b c j e h i (W6 (a + 1)) b (W6 (c + 1)) (e + 1) (updZ j e (kZ a (kZ
 (-1) (kZ 1 0)))) 1)) (Pb (Pe y0 32) (Pb (Pd y1 0) (Pm (PL 0 y1) (Pm (Pl y1 32) (sL0 g d h i f a b c j e (updZ h y1 (bor .i32 (W3 (rdZ h y2)) (W3 y4))) i (W6 (a + 1)) b (W6 (c + 1)) (e + 1) (updZ j e (kZ a (kZ (-1) (kZ 1 0)))) 1))) (sL0 g d h i f a b c j e h i (W6 (a + 1)) b (W6 (c + 1)) (e + 1) (updZ j e (kZ a (kZ (-1) (kZ 1 0)))) 1)) (Pb (Pe y0 33) (Pb (Pd y1 0) (Pm (PL 0 y1) (Pm (Pl y1 32) (sL0 g d h i f a b c j e (updZ h y1 (W3 (shlZ .u32 (U3 y4) 16))) i (W6 (a + 1)) b (W6 (c + 1)) (e + 1) (updZ j e (kZ a (kZ (-1) (kZ 1 0)))) 1))) (sL0 g d h i f a b c j e h i (W6 (a + 1)) b (W6 (c + 1)) (e + 1) (updZ j e (kZ a (kZ (-1) (kZ 1 0)))) 1)) (Pb (Pe y0 34) (Pn (W3 ((W3 (rdZ h y2)) + (W3 y4))) (-2147483648) 2147483647 fun y5 => (Pb (Pl y5 0) (sL0 g d h i f a b c j e h i a 4 c e j 1) (Pb (PL f
 y5) (sL0 g d h i f a b c j e h i a 4 c e j 1) (Pm (PL 0 y5) (Pm (Pl y5 f) (Pb (PL 1024 y5) (Pb (Pe y0 35) (Pm (PL 0 y1) (Pm (Pl y1 32) (sL0 g d h i f a b c j e h (updZ i y5 (W3 (rdZ h y1))) (W6 (a + 1)) b (W6 (c + ((opCo y0) + 1))) (e + 1) (updZ j e (kZ a (kZ y5 (kZ ((opCo y0) + 1) 0)))) 1))) (Pb (Pd y1 0) (Pm (PL 0 y1) (Pm (Pl y1 32) (sL0 g d h i f a b c j e (updZ h y1 (W3 (rdZ i y5))) i (W6 (a + 1)) b (W6 (c + ((opCo y0) + 1))) (e + 1) (updZ j e (kZ a (kZ y5 (kZ ((opCo y0) + 1) 0)))) 1))) (sL0 g d h i f a b c j e h i (W6 (a + 1)) b (W6 (c + ((opCo y0) + 1))) (e + 1) (updZ j e (kZ a (kZ y5 (kZ ((opCo y0) + 1) 0)))) 1))) (Pb (Pe y0 35) (Pm (PL 0 y1) (Pm (Pl y1 32) (sL0 g d h i f a b c j e h (updZ i y5 (W3 (rdZ h y1))) (W6 (a + 1)) b (W6 (c + (opCo y0))) (e + 1) (updZ j e (kZ a (kZ y5 (kZ
 (opCo y0) 0)))) 1))) (Pb (Pd y1 0) (Pm (PL 0 y1) (Pm (Pl y1 32) (sL0 g d h i f a b c j e (updZ h y1 (W3 (rdZ i y5))) i (W6 (a + 1)) b (W6 (c + (opCo y0))) (e + 1) (updZ j e (kZ a (kZ y5 (kZ (opCo y0) 0)))) 1))) (sL0 g d h i f a b c j e h i (W6 (a + 1)) b (W6 (c + (opCo y0))) (e + 1) (updZ j e (kZ a (kZ y5 (kZ (opCo y0) 0)))) 1))))))))) (Pb (Pe y0 35) (Pn (W3 ((W3 (rdZ h y2)) + (W3 y4))) (-2147483648) 2147483647 fun y5 => (Pb (Pl y5 0) (sL0 g d h i f a b c j e h i a 4 c e j 1) (Pb (PL f y5) (sL0 g d h i f a b c j e h i a 4 c e j 1) (Pm (PL 0 y5) (Pm (Pl y5 f) (Pb (PL 1024 y5) (Pm (PL 0 y1) (Pm (Pl y1 32) (sL0 g d h i f a b c j e h (updZ i y5 (W3 (rdZ h y1))) (W6 (a + 1)) b (W6 (c + ((opCo y0) + 1))) (e + 1) (updZ j e (kZ a (kZ y5 (kZ ((opCo y0) + 1) 0)))) 1))) (Pm (PL 0 y1) (Pm (Pl y1 32)
 (sL0 g d h i f a b c j e h (updZ i y5 (W3 (rdZ h y1))) (W6 (a + 1)) b (W6 (c + (opCo y0))) (e + 1) (updZ j e (kZ a (kZ y5 (kZ (opCo y0) 0)))) 1))))))))) (Pm (PL 0 y1) (Pm (Pl y1 32) (Pb (Pe y0 36) (Pb (Pd (W3 (rdZ h y1)) (W3 (rdZ h y2))) (sL0 g d h i f a b c j e h i (W6 (a + 1)) b (W6 (c + 1)) (e + 1) (updZ j e (kZ a (kZ (-1) (kZ 1 0)))) 1) (sL0 g d h i f a b c j e h i y4 b (W6 (c + 3)) (e + 1) (updZ j e (kZ a (kZ (-1) (kZ 3 0)))) 1)) (Pb (Pe y0 37) (Pb (Pe (W3 (rdZ h y1)) (W3 (rdZ h y2))) (sL0 g d h i f a b c j e h i (W6 (a + 1)) b (W6 (c + 1)) (e + 1) (updZ j e (kZ a (kZ (-1) (kZ 1 0)))) 1) (sL0 g d h i f a b c j e h i y4 b (W6 (c + 3)) (e + 1) (updZ j e (kZ a (kZ (-1) (kZ 3 0)))) 1)) (Pb (Pe y0 38) (Pb (Pe (Pl (W3 (rdZ h y1)) (W3 (rdZ h y2))) 0) (sL0 g d h i f a b c j e h i (W6 (a +
 1)) b (W6 (c + 1)) (e + 1) (updZ j e (kZ a (kZ (-1) (kZ 1 0)))) 1) (sL0 g d h i f a b c j e h i y4 b (W6 (c + 3)) (e + 1) (updZ j e (kZ a (kZ (-1) (kZ 3 0)))) 1)) (Pb (Pe y0 40) (Pb (Pd y1 0) (Pn (W6 (c + (opCo y0))) (-9223372036854775808) 9223372036854775807 fun y5 => (sL0 g d h i f a b c j e (updZ h y1 (W3 (a + 1))) i y4 b y5 (e + 1) (updZ j e (kZ a (kZ (-1) (kZ (opCo y0) 0)))) 1)) (Pn (W6 (c + (opCo y0))) (-9223372036854775808) 9223372036854775807 fun y5 => (sL0 g d h i f a b c j e h i y4 b y5 (e + 1) (updZ j e (kZ a (kZ (-1) (kZ (opCo y0) 0)))) 1))) (Pb (Pe y0 39) (Pn (W6 (c + (opCo y0))) (-9223372036854775808) 9223372036854775807 fun y5 => (sL0 g d h i f a b c j e h i y4 b y5 (e + 1) (updZ j e (kZ a (kZ (-1) (kZ (opCo y0) 0)))) 1)) (Pb (Pe y0 41) (sL0 g d h i f a b c j e h i (W3
 (rdZ h y2)) b (W6 (c + (opCo y0))) (e + 1) (updZ j e (kZ a (kZ (-1) (kZ (opCo y0) 0)))) 1) (Pb (Pe y0 43) (Pn (W6 (c + (opCo y0))) (-9223372036854775808) 9223372036854775807 fun y5 => (sL0 g d h i f a b c j e h i a 1 y5 (e + 1) (updZ j e (kZ a (kZ (-1) (kZ (opCo y0) 0)))) 1)) (sL0 g d h i f a b c j e h i (W6 (a + 1)) b (W6 (c + (opCo y0))) (e + 1) (updZ j e (kZ a (kZ (-1) (kZ (opCo y0) 0)))) 1)))))))))))))))))))))))))
set_option maxHeartbeats 4000000 in
theorem holds (pc state cost nc nm nr cq rg rm mq : Int) (l_pc : -9223372036854775808 ≤ pc) (u_pc : pc ≤ 9223372036854775807) (l_state : -9223372036854775808 ≤ state) (u_state : state ≤ 9223372036854775807) (l_cost : -9223372036854775808 ≤ cost) (u_cost : cost ≤ 9223372036854775807) (l_nc : 0 ≤ nc) (u_nc : nc ≤ 16384) (l_nm : 0 ≤ nm) (u_nm : nm ≤ 999999) (l_nr : 0 ≤ nr) (u_nr : nr ≤ 2048) (h_pre0 : (okC cq nc) ≠ 0) : P pc state cost nc nm nr cq rg rm mq := by
 delta P sq0 sL0 Pb Pm Pn PL Pl Pe Pd W6 W3 U3 kZ
 simp only [nrm, nro, Int.reduceEq, Int.reduceNeg, reduceIte]
 have hok := (okC_ne cq nc).1 h_pre0
 refine ⟨fun h0 => st_leaf (by simp [Mac.step, h0]) (by omega) (by omega) (by omega) (by omega) (by simp [h0]), fun h0 => ⟨fun h1 => st_leaf (by simp [Mac.step, h0, h1]) (by omega) (by omega) (by omega) (by omega) (by simp [h0]), fun h1 => ⟨fun h2 => st_leaf (by simp [Mac.step, h0, h2]) (by omega) (by omega) (by omega) (by omega) (by simp [h0]), fun h2 => ⟨by omega, by omega, ?_⟩⟩⟩⟩
 intro y0 e0 b0 y1 e1 b1 y2 e2 b2 y3 e3 b3 y4 e4 b4
 refine ⟨fun h3 => st_leaf (by simp [Mac.step, h0, h3]; omega) (by omega) (by omega) (by omega) (by omega) (by simp [h0]), fun h3 => ?_⟩
 have hr := hok pc.toNat (by omega)
 unfold okRow at hr
 rw [show ((pc.toNat : Nat) : Int) = pc by omega, ← e0, ← e1, ← e2, ← e3, ← e4] at hr
 obtain ⟨g0, g1, g2, g3, g4⟩ := hr h3
 have hs : Mac.step cq nc nr ⟨rg, rm, pc, state, cost, mq, nm⟩ = Mac.does ⟨rg, rm, pc, state, cost, mq, nm⟩ nr y0 y1 y2 y3 y4 := by
  unfold Mac.step
  simp only
  rw [if_neg (by omega), if_neg (by omega), if_neg h3, ← e0, ← e1, ← e2, ← e3, ← e4]
 clear e0 e1 e2 e3 e4
 have hx := i64_bd (pc + 1)
 clear hok hr h_pre0
 repeat' (first | refine st_leaf (hs.trans ?_) ?_ ?_ ?_ ?_ ?_ | refine ⟨by omega, ?_⟩ | refine ⟨fun _ => ?_, fun _ => ?_⟩ | intro _)
 all_goals first | exact i64_bd _ | exact i32_in64 _ | omega | skip
 all_goals first | rw [does_alu (by omega)] | ((have hy : y0 = 31 := by omega); subst hy; rw [does_31]) | ((have hy : y0 = 32 := by omega); subst hy; rw [does_32]) | ((have hy : y0 = 33 := by omega); subst hy; rw [does_33]) | ((have hy : y0 = 34 := by omega); subst hy; rw [does_34]) | ((have hy : y0 = 35 := by omega); subst hy; rw [does_35]) | ((have hy : y0 = 36 := by omega); subst hy; rw [does_36]) | ((have hy : y0 = 37 := by omega); subst hy; rw [does_37]) | ((have hy : y0 = 38 := by omega); subst hy; rw [does_38]) | ((have hy : y0 = 39 := by omega); subst hy; rw [does_39]) | ((have hy : y0 = 40 := by omega); subst hy; rw [does_40]) | ((have hy : y0 = 41 := by omega); subst hy; rw [does_41]) | ((have hy : y0 = 42 := by omega); subst hy; rw [does_42]) | ((have hy : y0 = 43 := by omega); subst hy; rw [does_43])
 all_goals try simp only [Mac.mem, Mac.branch, Mac.reg]
 all_goals (repeat (first | rw [put_pos (by omega)] | rw [put_neg (by omega)] | refine (if_pos (by omega)).trans ?_ | refine (if_neg (by omega)).trans ?_ | unfold Mac.memA | unfold Mac.memo | simp only [Mac.reg]))
 all_goals (subst_vars; rfl)
theorem plain (i v ro p) : statH 2 rk tree ⟨i, fN, v, ro, p⟩ = P (i 0) (i 1) (i 2) (i 3) (i 4) (i 5) (i 6) (i 7) (i 8) (i 9) := by kernel_rfl
theorem ran : ranH us (fun _ _ => .auto) rk 2 tree = true := by kernel_rfl
theorem fineT : fineH 2 rk tree = true := by kernel_rfl
theorem ok : RhOk (cxOf 2) rk.rh := okH us_ok ran fineT (by kernel_rfl) okk fun i v ro p hρ hpre => by rw [plain]; have q := hρ.hi; exact holds _ _ _ _ _ _ _ _ _ _ (q 0 _ rfl).1 (q 0 _ rfl).2 (q 1 _ rfl).1 (q 1 _ rfl).2 (q 2 _ rfl).1 (q 2 _ rfl).2 (q 3 _ rfl).1 (q 3 _ rfl).2 (q 4 _ rfl).1 (q 4 _ rfl).2 (q 5 _ rfl).1 (q 5 _ rfl).2 (hpre _ (mg 0 rfl))
end CCStep
end Go.Proofs.YtppkkgicidagmabGreatDoor
