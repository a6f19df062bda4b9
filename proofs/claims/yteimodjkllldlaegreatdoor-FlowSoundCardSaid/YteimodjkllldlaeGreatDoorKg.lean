/-
  What functions of the program answer, as numbers of what they are handed: their runs by the engine, the plain statements behind them. No condition.
-/
import Derived.Test.YteimodjkllldlaeGreatDoorKf
import Derived.Test.YteimodjkllldlaeGreatDoorGab
import Derived.Test.YteimodjkllldlaeGreatDoorGp2
set_option linter.unusedVariables false
set_option linter.unusedSimpArgs false
set_option maxRecDepth 100000
namespace Go.Proofs.YteimodjkllldlaeGreatDoor
open Go.Eng Go.RowKit
namespace CCStep
def rk : Rk := ⟨24, [(-9223372036854775808, 9223372036854775807), (-9223372036854775808, 9223372036854775807), (-9223372036854775808, 9223372036854775807), (0, 16384), (0, 999999), (0, 2048)], 10, [.ptr 0 0], [.cells (([.ptr 1 0, .sl (.own 2) 6 (.c 0) (.v 3) none] : List SV) ++ bk32 (.v 7) ++ ([.int .i64 (.v 0), .int .i64 (.v 1), .int .i64 (.v 2), .sl (.own 4) 3 (.c 0) (.v 4) none] : List SV)) 63 none, .cells [.sl (.own 3) 1 (.c 0) (.v 5) none, .bool (.c 1)] 91 none, .arr [.int .i64, .int .i64, .int .i64, .int .i64, .int .i64, .bool] 69 (.v 6) (.v 3), .arr [.int .i32] 21 (.v 8) (.v 5), .arr [.int .i64, .int .i64, .int .i64] 71 (.v 9) (.v 4)], [(.f 68 (.v 6) (.v 3) (.c 0))], .bool (.v 1000007), [.cells (([.ptr 1 0, .sl (.own 2) 6 (.c 0) (.v 3) none] : List SV) ++ bk32 (.v 1000000) ++ ([.int .i64 (.v 1000002), .int .i64 (.v 1000003), .int .i64 (.v 1000004), .sl (.own 5) 3 (.c 0) (.v 1000005) none] : List SV)) 63 none, .cells [.sl (.own 3) 1 (.c 0) (.v 5) none, .bool (.c 1)] 91 none, .arr [.int .i64, .int .i64, .int .i64, .int .i64, .int .i64, .bool] 69 (.v 6) (.v 3), .arr [.int .i32] 21 (.v 1000001) (.v 5), .gone, .arr [.int .i64, .int .i64, .int .i64] 71 (.v 1000006) (.v 1000005)], [.code [.int .i32] (.f 13 (.f 69 (.v 6) (.v 3) (qQg [(.v 7), (.v 8), (.v 5), (.v 0), (.v 1), (.v 2), (.v 9), (.v 4)])) (.c 0) (.c 0)) (.c 32), .code [.int .i32] (.f 13 (.f 69 (.v 6) (.v 3) (qQg [(.v 7), (.v 8), (.v 5), (.v 0), (.v 1), (.v 2), (.v 9), (.v 4)])) (.c 1) (.c 0)) (.v 5), .num (.w .i64 (.f 13 (.f 69 (.v 6) (.v 3) (qQg [(.v 7), (.v 8), (.v 5), (.v 0), (.v 1), (.v 2), (.v 9), (.v 4)])) (.c 2) (.c 0))), .num (.w .i64 (.f 13 (.f 69 (.v 6) (.v 3) (qQg [(.v 7), (.v 8), (.v 5), (.v 0), (.v 1), (.v 2), (.v 9), (.v 4)])) (.c 3) (.c 0))), .num (.w .i64 (.f 13 (.f 69 (.v 6) (.v 3) (qQg [(.v 7), (.v 8), (.v 5), (.v 0), (.v 1), (.v 2), (.v 9), (.v 4)])) (.c 4) (.c 0))), .num (.w .i64 (.f 13 (.f 69 (.v 6) (.v 3) (qQg [(.v 7), (.v 8), (.v 5), (.v 0), (.v 1), (.v 2), (.v 9), (.v 4)])) (.c 6) (.c 0))), .code [.int .i64, .int .i64, .int .i64] (.f 13 (.f 69 (.v 6) (.v 3) (qQg [(.v 7), (.v 8), (.v 5), (.v 0), (.v 1), (.v 2), (.v 9), (.v 4)])) (.c 5) (.c 0)) (.w .i64 (.f 13 (.f 69 (.v 6) (.v 3) (qQg [(.v 7), (.v 8), (.v 5), (.v 0), (.v 1), (.v 2), (.v 9), (.v 4)])) (.c 6) (.c 0))), .bool (.b .eq .i64 (.v 1) (.c 0))], []⟩
theorem okk : rk.ok = true := by kernel_rfl
theorem okh : rk.rh.ok = true := by kernel_rfl
noncomputable def us : SMs := fun Γ ins n => smH (cxG n Γ ins) [] (smR (cxG n Γ ins) [CADo.rc, COCost.rc, CACost.rc])
theorem us_ok : SMsOk us := fun Γ ins n => qJb (tabsG n Γ ins) (qZm _) (qJy (tabsG n Γ ins) (qZg CADo.okb (rc_n CADo.ok) (qZg COCost.okb (rc_n COCost.ok) (qZg CACost.okb (rc_n CACost.ok) (qZo _)))))
def Q0 : E := (tR (.v 6) (.v 0))
def Q1 : E := (.cl 1002 (-9223372036854775808) 9223372036854775807)
def Q2 : E := (.cl 1000 (-9223372036854775808) 9223372036854775807)
def Q3 : E := (.cl 1003 (-9223372036854775808) 9223372036854775807)
def Q4 : E := (tR (.v 7) Q1)
def Q5 : E := (t3 Q4)
def Q6 : E := (tR (.v 7) Q3)
def Q7 : E := (t3 Q6)
def Q8 : E := (.cl 1001 (-9223372036854775808) 9223372036854775807)
def Q9 : E := (tn Q8 (.c 0))
def Q10 : E := (tl (.c 0) Q8)
def Q11 : E := (tk Q8 (.c 32))
def Q12 : E := (.f 65 Q2 Q5 (.c 0))
def Q13 : E := (.cl 1005 (-2147483648) 2147483647)
def Q14 : E := (tp (.v 0) (.c 1))
def Q15 : E := (t6 Q14)
def Q16 : E := (tp (.v 2) (.cl 1007 0 67))
def Q17 : E := (t6 Q16)
def Q18 : E := (tp (.v 4) (.c 1))
def Q19 : E := (tC (.cl 1007 0 67) (.c 0))
def Q20 : E := (tC (.c (-1)) Q19)
def Q21 : E := (tC (.v 0) Q20)
def Q22 : E := (.f 14 (.v 9) (.v 4) Q21)
def Q23 : E := (.cl 1004 (-9223372036854775808) 9223372036854775807)
def Q24 : E := (t3 Q23)
def Q25 : E := (tp Q5 Q24)
def Q26 : E := (t3 Q25)
def Q27 : E := (tp (.v 2) (.c 1))
def Q28 : E := (t6 Q27)
def Q29 : E := (tC (.c 1) (.c 0))
def Q30 : E := (tC (.c (-1)) Q29)
def Q31 : E := (tC (.v 0) Q30)
def Q32 : E := (.f 14 (.v 9) (.v 4) Q31)
def Q33 : E := (tk Q13 (.c 0))
def Q34 : E := (tl (.v 5) Q13)
def Q35 : E := (tl (.c 0) Q13)
def Q36 : E := (tk Q13 (.v 5))
def Q37 : E := (tl (.c 1024) Q13)
def Q38 : E := (te Q2 (.c 35))
def Q39 : E := (tR (.v 7) Q8)
def Q40 : E := (t3 Q39)
def Q41 : E := (.f 14 (.v 8) Q13 Q40)
def Q42 : E := (.f 66 Q2 (.c 0) (.c 0))
def Q43 : E := (tp Q42 (.c 1))
def Q44 : E := (tp (.v 2) Q43)
def Q45 : E := (t6 Q44)
def Q46 : E := (tC Q43 (.c 0))
def Q47 : E := (tC Q13 Q46)
def Q48 : E := (tC (.v 0) Q47)
def Q49 : E := (.f 14 (.v 9) (.v 4) Q48)
def Q50 : E := (tR (.v 8) Q13)
def Q51 : E := (t3 Q50)
def Q52 : E := (.f 14 (.v 7) Q8 Q51)
def Q53 : E := (tp (.v 2) Q42)
def Q54 : E := (t6 Q53)
def Q55 : E := (tC Q42 (.c 0))
def Q56 : E := (tC Q13 Q55)
def Q57 : E := (tC (.v 0) Q56)
def Q58 : E := (.f 14 (.v 9) (.v 4) Q57)
def Q59 : E := (tp (.v 2) (.c 3))
def Q60 : E := (t6 Q59)
def Q61 : E := (tC (.c 3) (.c 0))
def Q62 : E := (tC (.c (-1)) Q61)
def Q63 : E := (tC (.v 0) Q62)
def Q64 : E := (.f 14 (.v 9) (.v 4) Q63)
def Q65 : E := (.cl 1005 (-9223372036854775808) 9223372036854775807)
def Q66 : E := (tC (.c (-1)) Q55)
def Q67 : E := (tC (.v 0) Q66)
def Q68 : E := (.f 14 (.v 9) (.v 4) Q67)
def tree : TT (List E) :=
 (.br (tn (.v 1) (.c 0)) (.leaf [(.v 7), (.v 8), (.v 0), (.v 1), (.v 2), (.v 4), (.v 9), (.c 0)]) (.br (tk (.v 0) (.c 0)) (.leaf [(.v 7), (.v 8), (.v 0), (.c 2), (.v 2), (.v 4), (.v 9), (.c 1)]) (.br (tl (.v 3) (.v 0)) (.leaf [(.v 7), (.v 8), (.v 0), (.c 2), (.v 2), (.v 4), (.v 9), (.c 1)]) (.br (tl (.c 0) (.v 0)) (.br (tk (.v 0) (.v 3)) (.new 1000 (t6 (tR Q0 (.c 0))) (.new 1001 (t6 (tR Q0 (.c 1))) (.new 1002 (t6 (tR Q0 (.c 2))) (.new 1003 (t6 (tR Q0 (.c 3))) (.new 1004 (t6 (tR Q0 (.c 4))) (.br (.nt (tR Q0 (.c 5))) (.leaf [(.v 7), (.v 8), (.v 0), (.c 3), (.v 2), (.v 4), (.v 9), (.c 1)]) (.br (tl (.c 0) Q1) (.br (tk Q1 (.c 32)) (.br (tl Q2 (.c 30)) (.br (tl (.c 0) Q3) (.br (tk Q3 (.c 32)) (.new 1005 (.f 63 Q2 Q5 Q7) (.new 1006 (.f 64 Q2 Q5 Q7) (.br (.nt (.cl 1006 0 1)) (.leaf [(.v 7), (.v
 8), (.v 0), (.c 5), (.v 2), (.v 4), (.v 9), (.c 1)]) (.br Q9 (.br Q10 (.br Q11 (.new 1007 Q12 (.leaf [(.f 14 (.v 7) Q8 Q13), (.v 8), Q15, (.v 1), Q17, Q18, Q22, (.c 1)])) (.bad 200)) (.bad 200)) (.new 1007 Q12 (.leaf [(.v 7), (.v 8), Q15, (.v 1), Q17, Q18, Q22, (.c 1)])))))) (.bad 200)) (.bad 200)) (.br (te Q2 (.c 31)) (.br Q9 (.br Q10 (.br Q11 (.leaf [(.f 14 (.v 7) Q8 Q26), (.v 8), Q15, (.v 1), Q28, Q18, Q32, (.c 1)]) (.bad 200)) (.bad 200)) (.leaf [(.v 7), (.v 8), Q15, (.v 1), Q28, Q18, Q32, (.c 1)])) (.br (te Q2 (.c 32)) (.br Q9 (.br Q10 (.br Q11 (.leaf [(.f 14 (.v 7) Q8 (.b .or .i32 Q5 Q24)), (.v 8), Q15, (.v 1), Q28, Q18, Q32, (.c 1)]) (.bad 200)) (.bad 200)) (.leaf [(.v 7), (.v 8), Q15, (.v 1), Q28, Q18, Q32, (.c 1)])) (.br (te Q2 (.c 33)) (.br Q9 (.br Q10 (.br Q11 (.leaf [(.f 14
 (.v 7) Q8 (t3 (.b .shl .u32 (.w .u32 Q23) (.c 16)))), (.v 8), Q15, (.v 1), Q28, Q18, Q32, (.c 1)]) (.bad 200)) (.bad 200)) (.leaf [(.v 7), (.v 8), Q15, (.v 1), Q28, Q18, Q32, (.c 1)])) (.br (te Q2 (.c 34)) (.new 1005 Q26 (.br Q33 (.leaf [(.v 7), (.v 8), (.v 0), (.c 4), (.v 2), (.v 4), (.v 9), (.c 1)]) (.br Q34 (.leaf [(.v 7), (.v 8), (.v 0), (.c 4), (.v 2), (.v 4), (.v 9), (.c 1)]) (.br Q35 (.br Q36 (.br Q37 (.br Q38 (.br Q10 (.br Q11 (.leaf [(.v 7), Q41, Q15, (.v 1), Q45, Q18, Q49, (.c 1)]) (.bad 200)) (.bad 200)) (.br Q9 (.br Q10 (.br Q11 (.leaf [Q52, (.v 8), Q15, (.v 1), Q45, Q18, Q49, (.c 1)]) (.bad 200)) (.bad 200)) (.leaf [(.v 7), (.v 8), Q15, (.v 1), Q45, Q18, Q49, (.c 1)]))) (.br Q38 (.br Q10 (.br Q11 (.leaf [(.v 7), Q41, Q15, (.v 1), Q54, Q18, Q58, (.c 1)]) (.bad 200)) (.bad
 200)) (.br Q9 (.br Q10 (.br Q11 (.leaf [Q52, (.v 8), Q15, (.v 1), Q54, Q18, Q58, (.c 1)]) (.bad 200)) (.bad 200)) (.leaf [(.v 7), (.v 8), Q15, (.v 1), Q54, Q18, Q58, (.c 1)])))) (.bad 200)) (.bad 200))))) (.br Q38 (.new 1005 Q26 (.br Q33 (.leaf [(.v 7), (.v 8), (.v 0), (.c 4), (.v 2), (.v 4), (.v 9), (.c 1)]) (.br Q34 (.leaf [(.v 7), (.v 8), (.v 0), (.c 4), (.v 2), (.v 4), (.v 9), (.c 1)]) (.br Q35 (.br Q36 (.br Q37 (.br Q10 (.br Q11 (.leaf [(.v 7), Q41, Q15, (.v 1), Q45, Q18, Q49, (.c 1)]) (.bad 200)) (.bad 200)) (.br Q10 (.br Q11 (.leaf [(.v 7), Q41, Q15, (.v 1), Q54, Q18, Q58, (.c 1)]) (.bad 200)) (.bad 200))) (.bad 200)) (.bad 200))))) (.br Q10 (.br Q11 (.br (te Q2 (.c 36)) (.br (tn Q40 Q5) (.leaf [(.v 7), (.v 8), Q15, (.v 1), Q28, Q18, Q32, (.c 1)]) (.leaf [(.v 7), (.v 8), Q23, (.v
 1), Q60, Q18, Q64, (.c 1)])) (.br (te Q2 (.c 37)) (.br (te Q40 Q5) (.leaf [(.v 7), (.v 8), Q15, (.v 1), Q28, Q18, Q32, (.c 1)]) (.leaf [(.v 7), (.v 8), Q23, (.v 1), Q60, Q18, Q64, (.c 1)])) (.br (te Q2 (.c 38)) (.br (.nt (tk Q40 Q5)) (.leaf [(.v 7), (.v 8), Q15, (.v 1), Q28, Q18, Q32, (.c 1)]) (.leaf [(.v 7), (.v 8), Q23, (.v 1), Q60, Q18, Q64, (.c 1)])) (.br (te Q2 (.c 40)) (.br Q9 (.new 1005 Q54 (.leaf [(.f 14 (.v 7) Q8 (t3 Q14)), (.v 8), Q23, (.v 1), Q65, Q18, Q68, (.c 1)])) (.new 1005 Q54 (.leaf [(.v 7), (.v 8), Q23, (.v 1), Q65, Q18, Q68, (.c 1)]))) (.br (te Q2 (.c 39)) (.new 1005 Q54 (.leaf [(.v 7), (.v 8), Q23, (.v 1), Q65, Q18, Q68, (.c 1)])) (.br (te Q2 (.c 41)) (.leaf [(.v 7), (.v 8), Q5, (.v 1), Q54, Q18, Q68, (.c 1)]) (.br (te Q2 (.c 43)) (.new 1005 Q54 (.leaf [(.v 7), (.v
 8), (.v 0), (.c 1), Q65, Q18, Q68, (.c 1)])) (.leaf [(.v 7), (.v 8), Q15, (.v 1), Q54, Q18, Q68, (.c 1)])))))))) (.bad 200)) (.bad 200)))))))) (.bad 200)) (.bad 200)))))))) (.bad 200)) (.bad 200)))))
noncomputable def sq0 (g d h i f a b c j e : Int) : Int := (stepZ g d (kZ h (kZ i (kZ f (kZ a (kZ b (kZ c (kZ j (kZ e 0)))))))))
def sL0 (g d h i f a b c j e z0 z3 z6 z8 z10 z12 z14 z17 : Int) : Prop := qQc [.int .i32] z0 (rdZ (sq0 g d h i f a b c j e) 0) 32 ∧ qQc [.int .i32] z3 (rdZ (sq0 g d h i f a b c j e) 1) f ∧ (z6 : Int) = (W6 (rdZ (sq0 g d h i f a b c j e) 2)) ∧ (z8 : Int) = (W6 (rdZ (sq0 g d h i f a b c j e) 3)) ∧ (z10 : Int) = (W6 (rdZ (sq0 g d h i f a b c j e) 4)) ∧ (z12 : Int) = (W6 (rdZ (sq0 g d h i f a b c j e) 6)) ∧ qQc [.int .i64, .int .i64, .int .i64] z14 (rdZ (sq0 g d h i f a b c j e) 5) (W6 (rdZ (sq0 g d h i f a b c j e) 6)) ∧ ((z17 : Int) ≠ 0 ↔ ((Pe b 0) : Int) ≠ 0) ∧ True
def P (a b c d e f g h i j : Int) : Prop :=
 (Pb (Pd b 0) (sL0 g d h i f a b c j e h i a b c e j 0) (Pb (Pl a 0) (sL0 g d h i f a b c j e h i a 2 c e j 1) (Pb (PL d a) (sL0 g d h i f a b c j e h i a 2 c e j 1) (Pm (PL 0 a) (Pm (Pl a d) (Pn (W6 (rdZ (rdZ g a) 0)) (-9223372036854775808) 9223372036854775807 fun y0 => Pn (W6 (rdZ (rdZ g a) 1)) (-9223372036854775808) 9223372036854775807 fun y1 => Pn (W6 (rdZ (rdZ g a) 2)) (-9223372036854775808) 9223372036854775807 fun y2 => Pn (W6 (rdZ (rdZ g a) 3)) (-9223372036854775808) 9223372036854775807 fun y3 => Pn (W6 (rdZ (rdZ g a) 4)) (-9223372036854775808) 9223372036854775807 fun y4 => (Pb (Pe (rdZ (rdZ g a) 5) 0) (sL0 g d h i f a b c j e h i a 3 c e j 1) (Pm (PL 0 y2) (Pm (Pl y2 32) (Pb (PL y0 30) (Pm (PL 0 y3) (Pm (Pl y3 32) (Pn (aluV y0 (W3 (rdZ h y2)) (W3 (rdZ h y3))) (-2147483648)
 2147483647 fun y5 => Pn (aluK y0 (W3 (rdZ h y2)) (W3 (rdZ h y3))) 0 1 fun y6 => (Pb (Pe y6 0) (sL0 g d h i f a b c j e h i a 5 c e j 1) (Pb (Pd y1 0) (Pm (PL 0 y1) (Pm (Pl y1 32) (Pn (aluC y0 (W3 (rdZ h y2))) 0 67 fun y7 => (sL0 g d h i f a b c j e (updZ h y1 y5) i (W6 (a + 1)) b (W6 (c + y7)) (e + 1) (updZ j e (kZ a (kZ (-1) (kZ y7 0)))) 1)))) (Pn (aluC y0 (W3 (rdZ h y2))) 0 67 fun y7 => (sL0 g d h i f a b c j e h i (W6 (a + 1)) b (W6 (c + y7)) (e + 1) (updZ j e (kZ a (kZ (-1) (kZ y7 0)))) 1))))))) (Pb (Pe y0 31) (Pb (Pd y1 0) (Pm (PL 0 y1) (Pm (Pl y1 32) (sL0 g d h i f a b c j e (updZ h y1 (W3 ((W3 (rdZ h y2)) + (W3 y4)))) i (W6 (a + 1)) b (W6 (c + 1)) (e + 1) (updZ j e (kZ a (kZ (-1) (kZ 1 0)))) 1))) (sL0 g d h i f a b c j e h i (W6 (a + 1)) b (W6 (c + 1)) (e + 1) (updZ j e (kZ a (kZ
 (-1) (kZ 1 0)))) 1)) (Pb (Pe y0 32) (Pb (Pd y1 0) (Pm (PL 0 y1) (Pm (Pl y1 32) (sL0 g d h i f a b c j e (updZ h y1 (bor .i32 (W3 (rdZ h y2)) (W3 y4))) i (W6 (a + 1)) b (W6 (c + 1)) (e + 1) (updZ j e (kZ a (kZ (-1) (kZ 1 0)))) 1))) (sL0 g d h i f a b c j e h i (W6 (a + 1)) b (W6 (c + 1)) (e + 1) (updZ j e (kZ a (kZ (-1) (kZ 1 0)))) 1)) (Pb (Pe y0 33) (Pb (Pd y1 0) (Pm (PL 0 y1) (Pm (Pl y1 32) (sL0 g d h i f a b c j e (updZ h y1 (W3 (shlZ .u32 (U3 y4) 16))) i (W6 (a + 1)) b (W6 (c + 1)) (e + 1) (updZ j e (kZ a (kZ (-1) (kZ 1 0)))) 1))) (sL0 g d h i f a b c j e h i (W6 (a + 1)) b (W6 (c + 1)) (e + 1) (updZ j e (kZ a (kZ (-1) (kZ 1 0)))) 1)) (Pb (Pe y0 34) (Pn (W3 ((W3 (rdZ h y2)) + (W3 y4))) (-2147483648) 2147483647 fun y5 => (Pb (Pl y5 0) (sL0 g d h i f a b c j e h i a 4 c e j 1) (Pb (PL f
 y5) (sL0 g d h i f a b c j e h i a 4 c e j 1) (Pm (PL 0 y5) (Pm (Pl y5 f) (Pb (PL 1024 y5) (Pb (Pe y0 35) (Pm (PL 0 y1) (Pm (Pl y1 32) (sL0 g d h i f a b c j e h (updZ i y5 (W3 (rdZ h y1))) (W6 (a + 1)) b (W6 (c + ((opCo y0) + 1))) (e + 1) (updZ j e (kZ a (kZ y5 (kZ ((opCo y0) + 1) 0)))) 1))) (Pb (Pd y1 0) (Pm (PL 0 y1) (Pm (Pl y1 32) (sL0 g d h i f a b c j e (updZ h y1 (W3 (rdZ i y5))) i (W6 (a + 1)) b (W6 (c + ((opCo y0) + 1))) (e + 1) (updZ j e (kZ a (kZ y5 (kZ ((opCo y0) + 1) 0)))) 1))) (sL0 g d h i f a b c j e h i (W6 (a + 1)) b (W6 (c + ((opCo y0) + 1))) (e + 1) (updZ j e (kZ a (kZ y5 (kZ ((opCo y0) + 1) 0)))) 1))) (Pb (Pe y0 35) (Pm (PL 0 y1) (Pm (Pl y1 32) (sL0 g d h i f a b c j e h (updZ i y5 (W3 (rdZ h y1))) (W6 (a + 1)) b (W6 (c + (opCo y0))) (e + 1) (updZ j e (kZ a (kZ y5 (kZ
 (opCo y0) 0)))) 1))) (Pb (Pd y1 0) (Pm (PL 0 y1) (Pm (Pl y1 32) (sL0 g d h i f a b c j e (updZ h y1 (W3 (rdZ i y5))) i (W6 (a + 1)) b (W6 (c + (opCo y0))) (e + 1) (updZ j e (kZ a (kZ y5 (kZ (opCo y0) 0)))) 1))) (sL0 g d h i f a b c j e h i (W6 (a + 1)) b (W6 (c + (opCo y0))) (e + 1) (updZ j e (kZ a (kZ y5 (kZ (opCo y0) 0)))) 1))))))))) (Pb (Pe y0 35) (Pn (W3 ((W3 (rdZ h y2)) + (W3 y4))) (-2147483648) 2147483647 fun y5 => (Pb (Pl y5 0) (sL0 g d h i f a b c j e h i a 4 c e j 1) (Pb (PL f y5) (sL0 g d h i f a b c j e h i a 4 c e j 1) (Pm (PL 0 y5) (Pm (Pl y5 f) (Pb (PL 1024 y5) (Pm (PL 0 y1) (Pm (Pl y1 32) (sL0 g d h i f a b c j e h (updZ i y5 (W3 (rdZ h y1))) (W6 (a + 1)) b (W6 (c + ((opCo y0) + 1))) (e + 1) (updZ j e (kZ a (kZ y5 (kZ ((opCo y0) + 1) 0)))) 1))) (Pm (PL 0 y1) (Pm (Pl y1 32)
 (sL0 g d h i f a b c j e h (updZ i y5 (W3 (rdZ h y1))) (W6 (a + 1)) b (W6 (c + (opCo y0))) (e + 1) (updZ j e (kZ a (kZ y5 (kZ (opCo y0) 0)))) 1))))))))) (Pm (PL 0 y1) (Pm (Pl y1 32) (Pb (Pe y0 36) (Pb (Pd (W3 (rdZ h y1)) (W3 (rdZ h y2))) (sL0 g d h i f a b c j e h i (W6 (a + 1)) b (W6 (c + 1)) (e + 1) (updZ j e (kZ a (kZ (-1) (kZ 1 0)))) 1) (sL0 g d h i f a b c j e h i y4 b (W6 (c + 3)) (e + 1) (updZ j e (kZ a (kZ (-1) (kZ 3 0)))) 1)) (Pb (Pe y0 37) (Pb (Pe (W3 (rdZ h y1)) (W3 (rdZ h y2))) (sL0 g d h i f a b c j e h i (W6 (a + 1)) b (W6 (c + 1)) (e + 1) (updZ j e (kZ a (kZ (-1) (kZ 1 0)))) 1) (sL0 g d h i f a b c j e h i y4 b (W6 (c + 3)) (e + 1) (updZ j e (kZ a (kZ (-1) (kZ 3 0)))) 1)) (Pb (Pe y0 38) (Pb (Pe (Pl (W3 (rdZ h y1)) (W3 (rdZ h y2))) 0) (sL0 g d h i f a b c j e h i (W6 (a +
 1)) b (W6 (c + 1)) (e + 1) (updZ j e (kZ a (kZ (-1) (kZ 1 0)))) 1) (sL0 g d h i f a b c j e h i y4 b (W6 (c + 3)) (e + 1) (updZ j e (kZ a (kZ (-1) (kZ 3 0)))) 1)) (Pb (Pe y0 40) (Pb (Pd y1 0) (Pn (W6 (c + (opCo y0))) (-9223372036854775808) 9223372036854775807 fun y5 => (sL0 g d h i f a b c j e (updZ h y1 (W3 (a + 1))) i y4 b y5 (e + 1) (updZ j e (kZ a (kZ (-1) (kZ (opCo y0) 0)))) 1)) (Pn (W6 (c + (opCo y0))) (-9223372036854775808) 9223372036854775807 fun y5 => (sL0 g d h i f a b c j e h i y4 b y5 (e + 1) (updZ j e (kZ a (kZ (-1) (kZ (opCo y0) 0)))) 1))) (Pb (Pe y0 39) (Pn (W6 (c + (opCo y0))) (-9223372036854775808) 9223372036854775807 fun y5 => (sL0 g d h i f a b c j e h i y4 b y5 (e + 1) (updZ j e (kZ a (kZ (-1) (kZ (opCo y0) 0)))) 1)) (Pb (Pe y0 41) (sL0 g d h i f a b c j e h i (W3
 (rdZ h y2)) b (W6 (c + (opCo y0))) (e + 1) (updZ j e (kZ a (kZ (-1) (kZ (opCo y0) 0)))) 1) (Pb (Pe y0 43) (Pn (W6 (c + (opCo y0))) (-9223372036854775808) 9223372036854775807 fun y5 => (sL0 g d h i f a b c j e h i a 1 y5 (e + 1) (updZ j e (kZ a (kZ (-1) (kZ (opCo y0) 0)))) 1)) (sL0 g d h i f a b c j e h i (W6 (a + 1)) b (W6 (c + (opCo y0))) (e + 1) (updZ j e (kZ a (kZ (-1) (kZ (opCo y0) 0)))) 1)))))))))))))))))))))))))
set_option maxHeartbeats 4000000 in
theorem holds (pc state cost nc nm nr cq rg rm mq : Int) (l_pc : -9223372036854775808 ≤ pc) (u_pc : pc ≤ 9223372036854775807) (l_state : -9223372036854775808 ≤ state) (u_state : state ≤ 9223372036854775807) (l_cost : -9223372036854775808 ≤ cost) (u_cost : cost ≤ 9223372036854775807) (l_nc : 0 ≤ nc) (u_nc : nc ≤ 16384) (l_nm : 0 ≤ nm) (u_nm : nm ≤ 999999) (l_nr : 0 ≤ nr) (u_nr : nr ≤ 2048) (h_pre0 : (okC cq nc) ≠ 0) : P pc state cost nc nm nr cq rg rm mq := by
 delta P sq0 sL0 Pb Pm Pn PL Pl Pe Pd W6 W3 U3 kZ
 simp only [nrm, nro, Int.reduceEq, Int.reduceNeg, reduceIte]
 have hok := (okC_ne cq nc).1 h_pre0
 refine ⟨fun h0 => st_leaf (by simp [Mac.step, h0]) (by omega) (by omega) (by omega) (by omega) (by simp [h0]), fun h0 => ⟨fun h1 => st_leaf (by simp [Mac.step, h0, h1]) (by omega) (by omega) (by omega) (by omega) (by simp [h0]), fun h1 => ⟨fun h2 => st_leaf (by simp [Mac.step, h0, h2]) (by omega) (by omega) (by omega) (by omega) (by simp [h0]), fun h2 => ⟨by omega, by omega, ?_⟩⟩⟩⟩
 intro y0 e0 b0 y1 e1 b1 y2 e2 b2 y3 e3 b3 y4 e4 b4
 refine ⟨fun h3 => st_leaf (by simp [Mac.step, h0, h3]; omega) (by omega) (by omega) (by omega) (by omega) (by simp [h0]), fun h3 => ?_⟩
 have hr := hok pc.toNat (by omega)
 unfold okRow at hr
 rw [show ((pc.toNat : Nat) : Int) = pc by omega, ← e0, ← e1, ← e2, ← e3, ← e4] at hr
 obtain ⟨g0, g1, g2, g3, g4⟩ := hr h3
 have hs : Mac.step cq nc nr ⟨rg, rm, pc, state, cost, mq, nm⟩ = Mac.does ⟨rg, rm, pc, state, cost, mq, nm⟩ nr y0 y1 y2 y3 y4 := by
  unfold Mac.step
  simp only
  rw [if_neg (by omega), if_neg (by omega), if_neg h3, ← e0, ← e1, ← e2, ← e3, ← e4]
 clear e0 e1 e2 e3 e4
 have hx := i64_bd (pc + 1)
 clear hok hr h_pre0
 repeat' (first | refine st_leaf (hs.trans ?_) ?_ ?_ ?_ ?_ ?_ | refine ⟨by omega, ?_⟩ | refine ⟨fun _ => ?_, fun _ => ?_⟩ | intro _)
 all_goals first | exact i64_bd _ | exact i32_in64 _ | omega | skip
 all_goals first | rw [does_alu (by omega)] | ((have hy : y0 = 31 := by omega); subst hy; rw [does_31]) | ((have hy : y0 = 32 := by omega); subst hy; rw [does_32]) | ((have hy : y0 = 33 := by omega); subst hy; rw [does_33]) | ((have hy : y0 = 34 := by omega); subst hy; rw [does_34]) | ((have hy : y0 = 35 := by omega); subst hy; rw [does_35]) | ((have hy : y0 = 36 := by omega); subst hy; rw [does_36]) | ((have hy : y0 = 37 := by omega); subst hy; rw [does_37]) | ((have hy : y0 = 38 := by omega); subst hy; rw [does_38]) | ((have hy : y0 = 39 := by omega); subst hy; rw [does_39]) | ((have hy : y0 = 40 := by omega); subst hy; rw [does_40]) | ((have hy : y0 = 41 := by omega); subst hy; rw [does_41]) | ((have hy : y0 = 42 := by omega); subst hy; rw [does_42]) | ((have hy : y0 = 43 := by omega); subst hy; rw [does_43])
 all_goals try simp only [Mac.mem, Mac.branch, Mac.reg]
 all_goals (repeat (first | rw [put_pos (by omega)] | rw [put_neg (by omega)] | refine (if_pos (by omega)).trans ?_ | refine (if_neg (by omega)).trans ?_ | unfold Mac.memA | unfold Mac.memo | simp only [Mac.reg]))
 all_goals (subst_vars; rfl)
theorem plain (i v ro p) : statH 2 rk tree ⟨i, fN, v, ro, p⟩ = P (i 0) (i 1) (i 2) (i 3) (i 4) (i 5) (i 6) (i 7) (i 8) (i 9) := by kernel_rfl
theorem ran : ranH us (fun _ _ => .auto) rk 2 tree = true := by kernel_rfl
theorem fineT : fineH 2 rk tree = true := by kernel_rfl
theorem ok : RhOk (cxOf 2) rk.rh := okH us_ok ran fineT (by kernel_rfl) okk fun i v ro p hρ hpre => by rw [plain]; have q := hρ.hi; exact holds _ _ _ _ _ _ _ _ _ _ (q 0 _ rfl).1 (q 0 _ rfl).2 (q 1 _ rfl).1 (q 1 _ rfl).2 (q 2 _ rfl).1 (q 2 _ rfl).2 (q 3 _ rfl).1 (q 3 _ rfl).2 (q 4 _ rfl).1 (q 4 _ rfl).2 (q 5 _ rfl).1 (q 5 _ rfl).2 (hpre _ (mg 0 rfl))
end CCStep
namespace CCRun0
def rk : Rk := ⟨9, [(-9223372036854775808, 500000), (0, 16384), (0, 2048)], 5, [.ptr 0 0, .int .i64 (.v 0)], [.cells [.ptr 1 0, .sl (.own 2) 6 (.c 0) (.v 1) none, .int .i32 (.c 0), .int .i32 (.c 0), .int .i32 (.c 0), .int .i32 (.c 0), .int .i32 (.c 0), .int .i32 (.c 0), .int .i32 (.c 0), .int .i32 (.c 0), .int .i32 (.c 0), .int .i32 (.c 0), .int .i32 (.c 0), .int .i32 (.c 0), .int .i32 (.c 0), .int .i32 (.c 0), .int .i32 (.c 0), .int .i32 (.c 0), .int .i32 (.c 0), .int .i32 (.c 0), .int .i32 (.c 0), .int .i32 (.c 0), .int .i32 (.c 0), .int .i32 (.c 0), .int .i32 (.c 0), .int .i32 (.c 0), .int .i32 (.c 0), .int .i32 (.c 0), .int .i32 (.c 0), .int .i32 (.c 0), .int .i32 (.c 0), .int .i32 (.c 0), .int .i32 (.c 0), .int .i32 (.c 0), .int .i64 (.c 0), .int .i64 (.c 0), .int .i64 (.c 0), .lit (.slice none 0 0)] 63 none, .cells [.sl (.own 3) 1 (.c 0) (.v 2) none, .bool (.c 1)] 91 none, .arr [.int .i64, .int .i64, .int .i64, .int .i64, .int .i64, .bool] 69 (.v 3) (.v 1), .arr [.int .i32] 21 (.v 4) (.v 2)], [(.f 68 (.v 3) (.v 1) (.c 0))], .int .i64 (.v 1000000), [.cells (([.ptr 1 0, .sl (.own 2) 6 (.c 0) (.v 1) none] : List SV) ++ bk32 (.v 1000001) ++ ([.int .i64 (.v 1000003), .int .i64 (.v 1000004), .int .i64 (.v 1000005), .sl (.own 4) 3 (.c 0) (.v 1000006) none] : List SV)) 63 none, .cells [.sl (.own 3) 1 (.c 0) (.v 2) none, .bool (.c 1)] 91 none, .arr [.int .i64, .int .i64, .int .i64, .int .i64, .int .i64, .bool] 69 (.v 3) (.v 1), .arr [.int .i32] 21 (.v 1000002) (.v 2), .arr [.int .i64, .int .i64, .int .i64] 71 (.v 1000007) (.v 1000006)], [.num (.w .i64 (.f 13 (.f 73 (.v 3) (.v 1) (qQg [(.v 2), (.v 0), (.f 74 (.v 4) (.c 0) (.c 0))])) (.c 7) (.c 0))), .code [.int .i32] (.f 13 (.f 73 (.v 3) (.v 1) (qQg [(.v 2), (.v 0), (.f 74 (.v 4) (.c 0) (.c 0))])) (.c 0) (.c 0)) (.c 32), .code [.int .i32] (.f 13 (.f 73 (.v 3) (.v 1) (qQg [(.v 2), (.v 0), (.f 74 (.v 4) (.c 0) (.c 0))])) (.c 1) (.c 0)) (.v 2), .num (.w .i64 (.f 13 (.f 73 (.v 3) (.v 1) (qQg [(.v 2), (.v 0), (.f 74 (.v 4) (.c 0) (.c 0))])) (.c 2) (.c 0))), .num (.w .i64 (.f 13 (.f 73 (.v 3) (.v 1) (qQg [(.v 2), (.v 0), (.f 74 (.v 4) (.c 0) (.c 0))])) (.c 3) (.c 0))), .num (.w .i64 (.f 13 (.f 73 (.v 3) (.v 1) (qQg [(.v 2), (.v 0), (.f 74 (.v 4) (.c 0) (.c 0))])) (.c 4) (.c 0))), .num (.f 75 (.f 73 (.v 3) (.v 1) (qQg [(.v 2), (.v 0), (.f 74 (.v 4) (.c 0) (.c 0))])) (.c 0) (.c 0)), .code [.int .i64, .int .i64, .int .i64] (.f 13 (.f 73 (.v 3) (.v 1) (qQg [(.v 2), (.v 0), (.f 74 (.v 4) (.c 0) (.c 0))])) (.c 5) (.c 0)) (.f 75 (.f 73 (.v 3) (.v 1) (qQg [(.v 2), (.v 0), (.f 74 (.v 4) (.c 0) (.c 0))])) (.c 0) (.c 0))], []⟩
theorem okk : rk.ok = true := by kernel_rfl
theorem okh : rk.rh.ok = true := by kernel_rfl
noncomputable def us : SMs := fun Γ ins n => smH (cxG n Γ ins) [CCStep.rk.rh] (smR (cxG n Γ ins) [])
theorem us_ok : SMsOk us := fun Γ ins n => qJb (tabsG n Γ ins) (qJg CCStep.okh (rh_n CCStep.ok) (qZm _)) (qJy (tabsG n Γ ins) (qZo _))
def Q0 : E := (.cl 1000 0 4611686018427387904)
def Q1 : E := (.cl 1006 0 1000000)
def Q2 : E := (.cl 1003 (-9223372036854775808) 9223372036854775807)
def Q3 : E := (tp Q0 (.c 1))
def Q4 : E := (.cl 1002 (-9223372036854775808) 9223372036854775807)
def Q5 : E := (.cl 1004 (-9223372036854775808) 9223372036854775807)
def Q6 : E := (tC Q1 (.c 0))
def Q7 : E := (tC (.v 1005) Q6)
def Q8 : E := (tC Q5 Q7)
def Q9 : E := (tC Q2 Q8)
def Q10 : E := (tC Q4 Q9)
def Q11 : E := (tC (.v 2) Q10)
def Q12 : E := (tC (.v 1007) Q11)
def Q13 : E := (tC (.v 1001) Q12)
def Q14 : E := (.f 69 (.v 3) (.v 1) Q13)
def Q15 : E := (tR Q14 (.c 6))
def Q16 : E := (t6 Q15)
def Q17 : E := (tR Q14 (.c 0))
def Q18 : E := (tR Q14 (.c 2))
def Q19 : E := (t6 Q18)
def Q20 : E := (tR Q14 (.c 3))
def Q21 : E := (t6 Q20)
def Q22 : E := (tR Q14 (.c 4))
def Q23 : E := (t6 Q22)
def Q24 : E := (tR Q14 (.c 5))
def Q25 : E := (tR Q14 (.c 1))
def tree : TT (List E) :=
 (.loop ⟨1000, [some (0, 4611686018427387904), none, some (-9223372036854775808, 9223372036854775807), some (-9223372036854775808, 9223372036854775807), some (-9223372036854775808, 9223372036854775807), none, some (0, 1000000), none], [(.c 0), (tC (.c 0) (tC (.c 0) (tC (.c 0) (tC (.c 0) (tC (.c 0) (tC (.c 0) (tC (.c 0) (tC (.c 0) (tC (.c 0) (tC (.c 0) (tC (.c 0) (tC (.c 0) (tC (.c 0) (tC (.c 0) (tC (.c 0) (tC (.c 0) (tC (.c 0) (tC (.c 0) (tC (.c 0) (tC (.c 0) (tC (.c 0) (tC (.c 0) (tC (.c 0) (tC (.c 0) (tC (.c 0) (tC (.c 0) (tC (.c 0) (tC (.c 0) (tC (.c 0) (tC (.c 0) (tC (.c 0) (tC (.c 0) (.c 0))))))))))))))))))))))))))))))))), (.c 0), (.c 0), (.c 0), (.c 0), (.c 0), (.v 4)], 1009⟩ (.br (tk Q0 (.v 0)) (.br (tl Q1 (.c 999999)) (.br (.f 68 (.v 3) (.v 1) (.c 0)) (.br (te Q2 (.c 0)) (.br (tl
 Q3 (.c 4611686018427387904)) (.br (tl (.c 0) Q16) (.br (tl Q16 (.c 1000000)) (.back [Q3, Q17, Q19, Q21, Q23, Q24, Q16, Q25]) (.bad 303)) (.bad 303)) (.bad 303)) (.exit 0)) (.bad 200)) (.bad 200)) (.exit 1)) (.br (te (.v 1009) (.c 0)) (.leaf [Q0, Q17, Q25, Q19, Q21, Q23, Q16, Q24]) (.leaf [Q0, (.v 1001), (.v 1007), Q4, Q2, Q5, Q1, (.v 1005)])))
noncomputable def sq0 (d b y1 y7 c y2 y3 y4 y5 y6 : Int) : Int := (stepZ d b (kZ y1 (kZ y7 (kZ c (kZ y2 (kZ y3 (kZ y4 (kZ y5 (kZ y6 0)))))))))
def sL0 (y0 d b c a e z2 z5 z8 z10 z12 z14 z16 : Int) : Prop := (y0 : Int) = (W6 (rdZ (runP d b (kZ c (kZ a (kZ (nuP e) 0)))) 7)) ∧ qQc [.int .i32] z2 (rdZ (runP d b (kZ c (kZ a (kZ (nuP e) 0)))) 0) 32 ∧ qQc [.int .i32] z5 (rdZ (runP d b (kZ c (kZ a (kZ (nuP e) 0)))) 1) c ∧ (z8 : Int) = (W6 (rdZ (runP d b (kZ c (kZ a (kZ (nuP e) 0)))) 2)) ∧ (z10 : Int) = (W6 (rdZ (runP d b (kZ c (kZ a (kZ (nuP e) 0)))) 3)) ∧ (z12 : Int) = (W6 (rdZ (runP d b (kZ c (kZ a (kZ (nuP e) 0)))) 4)) ∧ (z14 : Int) = (mkN (runP d b (kZ c (kZ a (kZ (nuP e) 0))))) ∧ qQc [.int .i64, .int .i64, .int .i64] z16 (rdZ (runP d b (kZ c (kZ a (kZ (nuP e) 0)))) 5) (mkN (runP d b (kZ c (kZ a (kZ (nuP e) 0))))) ∧ True
def P (a b c d e : Int) : Prop :=
 ∃ I1000 : Int → Int → Int → Int → Int → Int → Int → Int → Nat → Prop, (∃ m, I1000 0 z32 0 0 0 0 0 e m) ∧ ∀ y0 y1 y2 y3 y4 y5 y6 y7 : Int, ∀ m0, ((0 ≤ y0 ∧ y0 ≤ 4611686018427387904) ∧ True ∧ ((-9223372036854775808) ≤ y2 ∧ y2 ≤ 9223372036854775807) ∧ ((-9223372036854775808) ≤ y3 ∧ y3 ≤ 9223372036854775807) ∧ ((-9223372036854775808) ≤ y4 ∧ y4 ≤ 9223372036854775807) ∧ True ∧ (0 ≤ y6 ∧ y6 ≤ 1000000) ∧ True ∧ True) → I1000 y0 y1 y2 y3 y4 y5 y6 y7 m0 → (Pb (Pl y0 a) (Pm (PL y6 999999) (Pm (okC d b) (Pb (Pe y3 0) (Pm (PL (y0 + 1) 4611686018427387904) (Pm (PL 0 (W6 (rdZ (sq0 d b y1 y7 c y2 y3 y4 y5 y6) 6))) (Pm (PL (W6 (rdZ (sq0 d b y1 y7 c y2 y3 y4 y5 y6) 6)) 1000000) (∃ m', m' < m0 ∧ I1000 (y0 + 1) (rdZ (sq0 d b y1 y7 c y2 y3 y4 y5 y6) 0) (W6 (rdZ (sq0 d b y1 y7 c y2 y3 y4 y5 y6) 2)) (W6 (rdZ
 (sq0 d b y1 y7 c y2 y3 y4 y5 y6) 3)) (W6 (rdZ (sq0 d b y1 y7 c y2 y3 y4 y5 y6) 4)) (rdZ (sq0 d b y1 y7 c y2 y3 y4 y5 y6) 5) (W6 (rdZ (sq0 d b y1 y7 c y2 y3 y4 y5 y6) 6)) (rdZ (sq0 d b y1 y7 c y2 y3 y4 y5 y6) 1) m')))) (Pb (Pe (0 : Int) 0) (sL0 y0 d b c a e (rdZ (sq0 d b y1 y7 c y2 y3 y4 y5 y6) 0) (rdZ (sq0 d b y1 y7 c y2 y3 y4 y5 y6) 1) (W6 (rdZ (sq0 d b y1 y7 c y2 y3 y4 y5 y6) 2)) (W6 (rdZ (sq0 d b y1 y7 c y2 y3 y4 y5 y6) 3)) (W6 (rdZ (sq0 d b y1 y7 c y2 y3 y4 y5 y6) 4)) (W6 (rdZ (sq0 d b y1 y7 c y2 y3 y4 y5 y6) 6)) (rdZ (sq0 d b y1 y7 c y2 y3 y4 y5 y6) 5)) (sL0 y0 d b c a e y1 y7 y2 y3 y4 y6 y5))))) (Pb (Pe (1 : Int) 0) (sL0 y0 d b c a e (rdZ (sq0 d b y1 y7 c y2 y3 y4 y5 y6) 0) (rdZ (sq0 d b y1 y7 c y2 y3 y4 y5 y6) 1) (W6 (rdZ (sq0 d b y1 y7 c y2 y3 y4 y5 y6) 2)) (W6 (rdZ (sq0 d b y1
 y7 c y2 y3 y4 y5 y6) 3)) (W6 (rdZ (sq0 d b y1 y7 c y2 y3 y4 y5 y6) 4)) (W6 (rdZ (sq0 d b y1 y7 c y2 y3 y4 y5 y6) 6)) (rdZ (sq0 d b y1 y7 c y2 y3 y4 y5 y6) 5)) (sL0 y0 d b c a e y1 y7 y2 y3 y4 y6 y5)))
set_option maxHeartbeats 4000000 in
theorem holds (fuel nc nr cq rm : Int) (l_fuel : -9223372036854775808 ≤ fuel) (u_fuel : fuel ≤ 500000) (l_nc : 0 ≤ nc) (u_nc : nc ≤ 16384) (l_nr : 0 ≤ nr) (u_nr : nr ≤ 2048) (h_pre0 : (okC cq nc) ≠ 0) : P fuel nc nr cq rm := by
 delta P sq0 sL0 Pb Pm PL Pl Pe W6 kZ z32
 simp only [nrm, nro, Int.reduceEq, Int.reduceNeg, reduceIte]
 have h0 : Mac.ok (macM (nuP rm)) := macM_ok _
 refine ⟨fun n a p s c q l b m => ∃ j : Nat, n = j ∧ Mac.runs cq nc nr j (macM (nuP rm)) = (⟨a, b, p, s, c, q, l⟩, j) ∧ m = (fuel - n).toNat ∧ (j = 0 ∨ n ≤ fuel), ⟨_, 0, rfl, by rw [macM_nu]; rfl, rfl, .inl rfl⟩, ?_⟩
 intro n a p s c q l b m hb hI
 obtain ⟨j, rfl, hr, rfl, hf⟩ := hI
 have hok := runs_ok h0 cq nc nr j
 rw [hr] at hok
 obtain ⟨⟨g1, g2, g3, g4⟩, g5, g6, g7⟩ := hok
 simp only at g1 g2 g3 g4 g5 g6 g7
 have hm : Mac.ok ⟨a, b, p, s, c, q, l⟩ := ⟨g1, g2, g3, g4⟩
 have hn0 : (macM (nuP rm)).nm ≤ 400000 := by rw [macM_nu]; show (0 : Int) ≤ 400000; omega
 have e := stepZ_code cq nc nr ⟨a, b, p, s, c, q, l⟩
 unfold macZ at e
 simp only at e
 obtain ⟨r0, r1, r2, r3, r4, r5, r6⟩ := code_rd (Mac.step cq nc nr ⟨a, b, p, s, c, q, l⟩)
 obtain ⟨⟨k1, k2, k3, k4⟩, k5, k6⟩ := good_step hm cq nc nr
 simp only at k5 k6
 simp only [e, r0, r1, r2, r3, r4, r5, r6]
 have w1 := w64 k1.1 k1.2
 have w2 := w64 k2.1 k2.2
 have w3 := w64 k3.1 k3.2
 have w4 := w64 (x := (Mac.step cq nc nr ⟨a, b, p, s, c, q, l⟩).nm) (by omega) (by omega)
 simp only [w1, w2, w3, w4]
 refine ⟨fun h1 => ⟨by omega, h_pre0, fun h2 => ⟨by omega, by omega, by omega, _, ?_, j + 1, by omega, ?_, rfl, .inr (by omega)⟩, fun h2 => ?_⟩, fun h1 => ?_⟩
 ·omega
 ·rw [runs_succ, hr]
  simp only
  rw [if_pos h2]
 ·have hs := step_stop (m := ⟨a, b, p, s, c, q, l⟩) h2 cq nc nr
  simp only [hs]
  have hstop := runs_stop (cq := cq) (nc := nc) (nr := nr) (m := macM (nuP rm)) (j := j) (by rw [hr]; exact h2) (fuel.toNat - j)
  rw [show j + (fuel.toNat - j) = fuel.toNat by omega, hr] at hstop
  exact runp_leaf hstop rfl (by omega) g1 g2 g3 (by omega) (by omega)
 ·have hj : fuel.toNat = j := by omega
  rw [← hj] at hr
  exact runp_leaf (k := fuel.toNat) hr (by omega) (by omega) g1 g2 g3 (by omega) (by omega)
theorem plain (i v ro p) : statH 2 rk tree ⟨i, fN, v, ro, p⟩ = P (i 0) (i 1) (i 2) (i 3) (i 4) := by kernel_rfl
theorem ran : ranH us (fun _ _ => .auto) rk 2 tree = true := by kernel_rfl
theorem fineT : fineH 2 rk tree = true := by kernel_rfl
theorem ok : RhOk (cxOf 2) rk.rh := okH us_ok ran fineT (by kernel_rfl) okk fun i v ro p hρ hpre => by rw [plain]; have q := hρ.hi; exact holds _ _ _ _ _ (q 0 _ rfl).1 (q 0 _ rfl).2 (q 1 _ rfl).1 (q 1 _ rfl).2 (q 2 _ rfl).1 (q 2 _ rfl).2 (hpre _ (mg 0 rfl))
end CCRun0
namespace CRSame16
def rc : Rc := ⟨12, [none, none], [.row [.int .i64, .int .i64, .int .i64] 1000000, .row [.int .i64, .int .i64, .int .i64] 1000000], [], .one, [.bool (.ite (.b .eq .i64 (.v 0) (.v 1)) (.f 71 (.v 2) (.v 3) (.v 0)) (.c 0))]⟩
theorem okb : rc.ok = true := by kernel_rfl
noncomputable def us : SMs := fun Γ ins n => smH (cxG n Γ ins) [] (smR (cxG n Γ ins) [])
theorem us_ok : SMsOk us := fun Γ ins n => qJb (tabsG n Γ ins) (qZm _) (qJy (tabsG n Γ ins) (qZo _))
def Q0 : E := (.cl 1000 0 4611686018427387904)
def Q1 : E := (tR (.v 2) Q0)
def Q2 : E := (tR (.v 3) Q0)
def Q3 : E := (tp Q0 (.c 1))
def tree : TT (List E) :=
 (.br (tn (.v 0) (.v 1)) (.leaf [(.c 0)]) (.loop ⟨1000, [some (0, 4611686018427387904)], [(.c 0)], 1008⟩ (.br (tk Q0 (.v 0)) (.new 1002 (t6 (tR Q1 (.c 0))) (.new 1003 (t6 (tR Q1 (.c 1))) (.new 1004 (t6 (tR Q1 (.c 2))) (.br (tk Q0 (.v 1)) (.new 1005 (t6 (tR Q2 (.c 0))) (.new 1006 (t6 (tR Q2 (.c 1))) (.new 1007 (t6 (tR Q2 (.c 2))) (.br (.nt (.ite (te (.cl 1002 (-9223372036854775808) 9223372036854775807) (.cl 1005 (-9223372036854775808) 9223372036854775807)) (.ite (te (.cl 1003 (-9223372036854775808) 9223372036854775807) (.cl 1006 (-9223372036854775808) 9223372036854775807)) (te (.cl 1004 (-9223372036854775808) 9223372036854775807) (.cl 1007 (-9223372036854775808) 9223372036854775807)) (.c 0)) (.c 0))) (.exit 0) (.br (tl Q3 (.c 4611686018427387904)) (.back [Q3]) (.bad 303)))))) (.bad
 200))))) (.exit 1)) (.br (te (.v 1008) (.c 0)) (.leaf [(.c 0)]) (.leaf [(.c 1)]))))
def P (a b c d e f : Int) : Prop :=
 (Pb (Pd a b) (((0 : Int) ≠ 0 ↔ ((iteZ (Pe a b) (sameM c d a) 0) : Int) ≠ 0) ∧ True) (∃ I1000 : Int → Nat → Prop, (∃ m, I1000 0 m) ∧ ∀ y0 : Int, ∀ m0, ((0 ≤ y0 ∧ y0 ≤ 4611686018427387904) ∧ True) → I1000 y0 m0 → (Pb (Pl y0 a) (Pn (W6 (rdZ (rdZ c y0) 0)) (-9223372036854775808) 9223372036854775807 fun y2 => Pn (W6 (rdZ (rdZ c y0) 1)) (-9223372036854775808) 9223372036854775807 fun y3 => Pn (W6 (rdZ (rdZ c y0) 2)) (-9223372036854775808) 9223372036854775807 fun y4 => (Pm (Pl y0 b) (Pn (W6 (rdZ (rdZ d y0) 0)) (-9223372036854775808) 9223372036854775807 fun y5 => Pn (W6 (rdZ (rdZ d y0) 1)) (-9223372036854775808) 9223372036854775807 fun y6 => Pn (W6 (rdZ (rdZ d y0) 2)) (-9223372036854775808) 9223372036854775807 fun y7 => (Pb (Pe (iteZ (Pe y2 y5) (iteZ (Pe y3 y6) (Pe y4 y7) 0) 0) 0) (Pb (Pe (0 :
 Int) 0) (((0 : Int) ≠ 0 ↔ ((iteZ (Pe a b) (sameM c d a) 0) : Int) ≠ 0) ∧ True) (((1 : Int) ≠ 0 ↔ ((iteZ (Pe a b) (sameM c d a) 0) : Int) ≠ 0) ∧ True)) (Pm (PL (y0 + 1) 4611686018427387904) (∃ m', m' < m0 ∧ I1000 (y0 + 1) m')))))) (Pb (Pe (1 : Int) 0) (((0 : Int) ≠ 0 ↔ ((iteZ (Pe a b) (sameM c d a) 0) : Int) ≠ 0) ∧ True) (((1 : Int) ≠ 0 ↔ ((iteZ (Pe a b) (sameM c d a) 0) : Int) ≠ 0) ∧ True)))))
theorem sameM_iff (c d n : Int) : sameM c d n ≠ 0 ↔ ∀ i : Nat, (i : Int) < n → mk c i 0 = mk d i 0 ∧ mk c i 1 = mk d i 1 ∧ mk c i 2 = mk d i 2 := by
 unfold sameM; split <;> simp_all
theorem holds (n0 n1 c0 c1 r0 r1 : Int) (l_n0 : 0 ≤ n0) (u_n0 : n0 ≤ 1000000) (l_n1 : 0 ≤ n1) (u_n1 : n1 ≤ 1000000) (h_n0 : n0 ≤ r0) (h_n1 : n1 ≤ r1) : P n0 n1 c0 c1 r0 r1 := by
 delta P Pb Pm Pn PL Pl Pe Pd W6
 simp only [nrm, Int.reduceEq, Int.reduceNeg, reduceIte]
 refine ⟨fun h => by simp [h], fun h => ?_⟩
 subst h
 simp only [if_true]
 have hs := sameM_iff c0 c1 n0
 refine ⟨fun i m => (∀ k : Nat, (k : Int) < i → mk c0 k 0 = mk c1 k 0 ∧ mk c0 k 1 = mk c1 k 1 ∧ mk c0 k 2 = mk c1 k 2) ∧ i ≤ n0 ∧ m = (n0 - i).toNat, ⟨_, fun k hk => by omega, l_n0, rfl⟩, fun i m hb hI => ?_⟩
 obtain ⟨hI, hi, rfl⟩ := hI
 obtain ⟨j, rfl⟩ : ∃ j : Nat, i = j := ⟨i.toNat, by omega⟩
 refine ⟨fun h1 => ?_, fun h1 => by have := hs.2 fun k hk => hI k (by omega); simp_all⟩
 rintro _ rfl _ _ rfl _ _ rfl _
 refine ⟨fun h2 => ?_, fun h2 => by omega⟩
 rintro _ rfl _ _ rfl _ _ rfl _
 simp only [wrap_rd]
 by_cases q : mk c0 j 0 = mk c1 j 0 ∧ mk c0 j 1 = mk c1 j 1 ∧ mk c0 j 2 = mk c1 j 2
 ·obtain ⟨q0, q1, q2⟩ := q
  simp only [q0, q1, q2, if_true]
  refine ⟨fun h => by simp [qQz] at h, fun _ => ⟨fun _ => ⟨_, ?_, fun k hk => ?_, by omega, rfl⟩, fun h4 => by omega⟩⟩
  ·omega
  ·by_cases e : k = j
   ·subst e; exact ⟨q0, q1, q2⟩
   ·exact hI k (by omega)
 ·have hn : ¬ (sameM c0 c1 n0 ≠ 0) := fun h => q (hs.1 h j h1)
  refine ⟨fun _ => by simp_all, fun h => absurd ?_ h⟩
  by_cases q0 : mk c0 j 0 = mk c1 j 0
  ·refine (if_pos q0).trans ?_
   by_cases q1 : mk c0 j 1 = mk c1 j 1
   ·refine (if_pos q1).trans ?_
    have q2 : ¬ mk c0 j 2 = mk c1 j 2 := fun e => q ⟨q0, q1, e⟩
    simp [qQz, q2]
   ·exact if_neg q1
  ·exact if_neg q0
theorem plain (i v ro p) : statR 2 rc tree ⟨i, fN, v, ro, p⟩ = P (i 0) (i 1) (i 2) (i 3) (i 4) (i 5) := by kernel_rfl
theorem ran : ranR us (fun _ _ => .auto) rc 2 tree = true := by kernel_rfl
theorem fineT : fineR 2 rc tree = true := by kernel_rfl
theorem ok : RcOk (cxOf 2) rc := okR us_ok ran fineT okb fun i v ro p hρ hcap hpre => by rw [plain]; have q := hρ.hi; exact holds _ _ _ _ _ _ (q 0 _ rfl).1 (q 0 _ rfl).2 (q 1 _ rfl).1 (q 1 _ rfl).2 (hcap _ (mg 0 rfl)) (hcap _ (mg 1 rfl))
end CRSame16
end Go.Proofs.YteimodjkllldlaeGreatDoor
