/-
  What functions of the program answer, as numbers of what they are handed: their runs by the engine, the plain statements behind them. No condition.
-/
import Derived.Test.YtppiabilakeadaaGreatDoorKa
import Derived.Test.YtppiabilakeadaaGreatDoorKb
import Derived.Test.YtppiabilakeadaaGreatDoorKc
import Derived.Test.YtppiabilakeadaaGreatDoorGab
import Derived.Test.YtppiabilakeadaaGreatDoorGp3
set_option linter.unusedVariables false
set_option linter.unusedSimpArgs false
set_option maxRecDepth 100000
namespace Go.Proofs.YtppiabilakeadaaGreatDoor
open Go.Eng Go.RowKit
namespace CLPc
def rk : Rk := ⟨7, [(32, 38)], 2, [.str (.v 1)], [], [(.c 2), (.c 1), (.b .le .i64 (.f 21 (.v 1) (.c 0) (.c 0)) (.c 100000)), (.b .ne .i64 (.f 136 (.v 1) (.c 0) (.c 0)) (.c 0)), (.b .eq .i64 (.f 90 (.f 13 (.f 137 (.v 1) (.c 0) (.c 0)) (.c 0) (.c 0)) (.c 0) (.c 0)) (.v 0))], .tup [.agg [.int .i64 (.v 1000000), .int .i64 (.v 1000001), .int .i64 (.v 1000002), .int .i64 (.v 1000003), .int .i64 (.v 1000004)], .int .i64 (.v 1000005)], [], [.num (.f 143 (.v 1) (.c 0) (.c 0)), .num (.f 143 (.v 1) (.c 1) (.c 0)), .num (.f 143 (.v 1) (.c 2) (.c 0)), .num (.f 143 (.v 1) (.c 3) (.c 0)), .num (.f 143 (.v 1) (.c 4) (.c 0)), .num (.f 144 (.v 1) (.c 0) (.c 0))], []⟩
theorem okk : rk.ok = true := by kernel_rfl
theorem okh : rk.rh.ok = true := by kernel_rfl
noncomputable def us : SMs := fun Γ ins n => smH (cxG n Γ ins) [] (smR (cxG n Γ ins) [CCChk.rc, CLWords.rc, CLNumber.rc, COFind.rc, CLCut.rc])
theorem us_ok : SMsOk us := fun Γ ins n => qZb (tabsG n Γ ins) (qQs _) (qZw (tabsG n Γ ins) (qQw CCChk.okb (rc_n CCChk.ok) (qQw CLWords.okb (rc_n CLWords.ok) (qQw CLNumber.okb (rc_n CLNumber.ok) (qQw COFind.okb (rc_n COFind.ok) (qQw CLCut.okb (rc_n CLCut.ok) (qQt _)))))))
def Q0 : E := (.f 136 (.v 1) (.c 0) (.c 0))
def Q1 : E := (.b .psub .i64 Q0 (.c 1))
def Q2 : E := (tl (.c 0) Q1)
def Q3 : E := (te Q1 (.c 0))
def Q4 : E := (tC (.c 0) (.c 0))
def Q5 : E := (tC (.c 0) Q4)
def Q6 : E := (tC (.c 114) (.c 0))
def Q7 : E := (tC Q6 (.c 0))
def Q8 : E := (tC (.c 1) Q7)
def Q9 : E := (.f 148 Q5 Q8 (.c 0))
def Q10 : E := (.f 147 Q5 Q8 (.c 0))
def Q11 : E := (.f 139 Q10 (.c 0) (.c 0))
def Q12 : E := (.f 138 Q10 (.c 0) (.c 0))
def Q13 : E := (.f 139 Q5 (.c 0) (.c 0))
def Q14 : E := (.f 138 Q5 (.c 0) (.c 0))
def Q15 : E := (tk (.c 0) Q1)
def Q16 : E := (tk (.c 1) Q0)
def Q17 : E := (tl (.c 1) Q1)
def Q18 : E := (tp (.c 1) Q1)
def Q19 : E := (tl Q18 Q0)
def Q20 : E := (.f 137 (.v 1) (.c 0) (.c 0))
def Q21 : E := (tR Q20 (.c 1))
def Q22 : E := (.f 148 Q21 Q8 (.c 0))
def Q23 : E := (.f 147 Q21 Q8 (.c 0))
def Q24 : E := (.f 139 Q23 (.c 0) (.c 0))
def Q25 : E := (.f 138 Q23 (.c 0) (.c 0))
def Q26 : E := (.b .psub .i64 Q1 (.c 1))
def Q27 : E := (tl (.c 0) Q26)
def Q28 : E := (te Q26 (.c 0))
def Q29 : E := (tk (.c 0) Q26)
def Q30 : E := (tp (.c 1) (.c 1))
def Q31 : E := (tk Q30 Q0)
def Q32 : E := (tl (.c 1) Q26)
def Q33 : E := (tp Q30 Q26)
def Q34 : E := (tl Q33 Q0)
def Q35 : E := (tR Q20 Q30)
def Q36 : E := (.f 139 Q35 (.c 0) (.c 0))
def Q37 : E := (.f 138 Q35 (.c 0) (.c 0))
def Q38 : E := (.b .psub .i64 Q26 (.c 1))
def Q39 : E := (tl (.c 0) Q38)
def Q40 : E := (tk (.c 0) Q38)
def Q41 : E := (.cl 1001 (-999999999) 999999999)
def Q42 : E := (.cl 1003 (-999999999) 999999999)
def Q43 : E := (.f 148 Q35 Q8 (.c 0))
def Q44 : E := (.f 147 Q35 Q8 (.c 0))
def Q45 : E := (.f 139 Q44 (.c 0) (.c 0))
def Q46 : E := (.f 138 Q44 (.c 0) (.c 0))
def Q47 : E := (te Q38 (.c 0))
def Q48 : E := (tp Q30 (.c 1))
def Q49 : E := (tk Q48 Q0)
def Q50 : E := (tl (.c 1) Q38)
def Q51 : E := (tp Q48 Q38)
def Q52 : E := (tl Q51 Q0)
def Q53 : E := (tR Q20 Q48)
def Q54 : E := (.f 139 Q53 (.c 0) (.c 0))
def Q55 : E := (.f 138 Q53 (.c 0) (.c 0))
def Q56 : E := (.b .psub .i64 Q38 (.c 1))
def Q57 : E := (.cl 1004 (-999999999) 999999999)
def Q58 : E := (.cl 1006 (-999999999) 999999999)
def tree : TT (List E) :=
 (.br (tk (.c 0) Q0) (.br (tl (.c 1) Q0) (.br (te (.v 0) (.c 33)) (.br Q2 (.br Q3 (.new 1000 Q9 (.new 1001 Q11 (.new 1002 Q12 (.new 1003 Q13 (.new 1004 Q14 (.leaf [(.c 0), (.c 0), (.c 0), (.c 0), (.c 0), (.c 3)])))))) (.br Q15 (.br Q16 (.br Q17 (.br Q19 (.new 1000 Q22 (.new 1001 Q24 (.new 1002 Q25 (.br (.nt (.cl 1000 0 1)) (.br Q27 (.br Q28 (.new 1003 Q13 (.new 1004 Q14 (.leaf [(.c 0), (.c 0), (.c 0), (.c 0), (.c 0), (.c 3)]))) (.br Q29 (.br Q31 (.br Q32 (.br Q34 (.new 1003 Q36 (.new 1004 Q37 (.leaf [(.c 0), (.c 0), (.c 0), (.c 0), (.c 0), (.c 3)]))) (.bad 200)) (.bad 200)) (.bad 200)) (.bad 200))) (.bad 200)) (.br Q27 (.br Q28 (.new 1003 Q13 (.new 1004 Q14 (.leaf [(.c 0), (.c 0), (.c 0), (.c 0), (.c 0), (.c 3)]))) (.br Q29 (.br Q31 (.br Q32 (.br Q34 (.new 1003 Q36 (.new 1004 Q37 (.br
 (.nt (.cl 1002 0 1)) (.leaf [(.c 0), (.c 0), (.c 0), (.c 0), (.c 0), (.c 3)]) (.br (.nt (.cl 1004 0 1)) (.leaf [(.c 0), (.c 0), (.c 0), (.c 0), (.c 0), (.c 3)]) (.br Q39 (.br Q40 (.leaf [(.c 0), (.c 0), (.c 0), (.c 0), (.c 0), (.c 3)]) (.new 1005 (.f 141 (.v 0) Q41 (tC (.c 0) (tC (.c 0) (tC Q42 (.c 0))))) (.br (tn (.cl 1005 0 6) (.c 0)) (.leaf [(.c 0), (.c 0), (.c 0), (.c 0), (.c 0), (.cl 1005 0 6)]) (.leaf [(.v 0), Q41, (.c 0), (.c 0), Q42, (.c 0)])))) (.bad 200)))))) (.bad 200)) (.bad 200)) (.bad 200)) (.bad 200))) (.bad 200)))))) (.bad 200)) (.bad 200)) (.bad 200)) (.bad 200))) (.bad 200)) (.br Q2 (.br Q3 (.new 1000 Q9 (.new 1001 Q11 (.new 1002 Q12 (.new 1003 Q13 (.new 1004 Q14 (.leaf [(.c 0), (.c 0), (.c 0), (.c 0), (.c 0), (.c 3)])))))) (.br Q15 (.br Q16 (.br Q17 (.br Q19 (.new 1000
 Q22 (.new 1001 Q24 (.new 1002 Q25 (.br (.nt (.cl 1000 0 1)) (.br Q27 (.br Q28 (.new 1003 Q9 (.new 1004 Q11 (.new 1005 Q12 (.new 1006 Q13 (.new 1007 Q14 (.leaf [(.c 0), (.c 0), (.c 0), (.c 0), (.c 0), (.c 3)])))))) (.br Q29 (.br Q31 (.br Q32 (.br Q34 (.new 1003 Q43 (.new 1004 Q45 (.new 1005 Q46 (.br Q39 (.br Q47 (.new 1006 Q13 (.new 1007 Q14 (.leaf [(.c 0), (.c 0), (.c 0), (.c 0), (.c 0), (.c 3)]))) (.br Q40 (.br Q49 (.br Q50 (.br Q52 (.new 1006 Q54 (.new 1007 Q55 (.leaf [(.c 0), (.c 0), (.c 0), (.c 0), (.c 0), (.c 3)]))) (.bad 200)) (.bad 200)) (.bad 200)) (.bad 200))) (.bad 200))))) (.bad 200)) (.bad 200)) (.bad 200)) (.bad 200))) (.bad 200)) (.br Q27 (.br Q28 (.new 1003 Q9 (.new 1004 Q11 (.new 1005 Q12 (.new 1006 Q13 (.new 1007 Q14 (.leaf [(.c 0), (.c 0), (.c 0), (.c 0), (.c 0), (.c
 3)])))))) (.br Q29 (.br Q31 (.br Q32 (.br Q34 (.new 1003 Q43 (.br (.nt (.cl 1002 0 1)) (.new 1004 Q45 (.new 1005 Q46 (.br Q39 (.br Q47 (.new 1006 Q13 (.new 1007 Q14 (.leaf [(.c 0), (.c 0), (.c 0), (.c 0), (.c 0), (.c 3)]))) (.br Q40 (.br Q49 (.br Q50 (.br Q52 (.new 1006 Q54 (.new 1007 Q55 (.leaf [(.c 0), (.c 0), (.c 0), (.c 0), (.c 0), (.c 3)]))) (.bad 200)) (.bad 200)) (.bad 200)) (.bad 200))) (.bad 200)))) (.new 1004 Q45 (.new 1005 Q46 (.br (.nt (.cl 1003 0 1)) (.br Q39 (.br Q47 (.new 1006 Q13 (.new 1007 Q14 (.leaf [(.c 0), (.c 0), (.c 0), (.c 0), (.c 0), (.c 3)]))) (.br Q40 (.br Q49 (.br Q50 (.br Q52 (.new 1006 Q54 (.new 1007 Q55 (.leaf [(.c 0), (.c 0), (.c 0), (.c 0), (.c 0), (.c 3)]))) (.bad 200)) (.bad 200)) (.bad 200)) (.bad 200))) (.bad 200)) (.br Q39 (.br Q47 (.new 1006 Q13
 (.new 1007 Q14 (.leaf [(.c 0), (.c 0), (.c 0), (.c 0), (.c 0), (.c 3)]))) (.br Q40 (.br Q49 (.br Q50 (.br Q52 (.new 1006 Q54 (.new 1007 Q55 (.br (.nt (.cl 1005 0 1)) (.leaf [(.c 0), (.c 0), (.c 0), (.c 0), (.c 0), (.c 3)]) (.br (.nt (.cl 1007 0 1)) (.leaf [(.c 0), (.c 0), (.c 0), (.c 0), (.c 0), (.c 3)]) (.br (tl (.c 0) Q56) (.br (tk (.c 0) Q56) (.leaf [(.c 0), (.c 0), (.c 0), (.c 0), (.c 0), (.c 3)]) (.new 1008 (.f 141 (.v 0) Q41 (tC Q57 (tC (.c 0) (tC Q58 (.c 0))))) (.br (tn (.cl 1008 0 6) (.c 0)) (.leaf [(.c 0), (.c 0), (.c 0), (.c 0), (.c 0), (.cl 1008 0 6)]) (.leaf [(.v 0), Q41, Q57, (.c 0), Q58, (.c 0)])))) (.bad 200)))))) (.bad 200)) (.bad 200)) (.bad 200)) (.bad 200))) (.bad 200))))))) (.bad 200)) (.bad 200)) (.bad 200)) (.bad 200))) (.bad 200)))))) (.bad 200)) (.bad 200)) (.bad
 200)) (.bad 200))) (.bad 200))) (.bad 200)) (.bad 200))
noncomputable def sq0 : Int := (cupZ (kZ 0 (kZ 0 0)) (kZ 1 (kZ (kZ 114 0) 0)))
noncomputable def sq1 (b : Int) : Int := (cupZ (rdZ (wrdC b) (1 + 1)) (kZ 1 (kZ (kZ 114 0) 0)))
def sL0 (b z0 z2 z4 z8 z10 : Int) : Prop := (z0 : Int) = (parZ b 0) ∧ (z2 : Int) = (parZ b 1) ∧ (z4 : Int) = (parZ b 2) ∧ (0 : Int) = (parZ b 3) ∧ (z8 : Int) = (parZ b 4) ∧ (z10 : Int) = (parE b) ∧ True
def sq2 (b : Int) : Prop := (Pm (PL 0 ((((wrdN b) - 1) - 1) - 1)) (Pb (Pe ((((wrdN b) - 1) - 1) - 1) 0) (Pn (numZ (kZ 0 (kZ 0 0))) (-999999999) 999999999 fun y6 => Pn (numK (kZ 0 (kZ 0 0))) 0 1 fun y7 => (sL0 b 0 0 0 0 3)) (Pm (Pl 0 ((((wrdN b) - 1) - 1) - 1)) (Pm (Pl ((1 + 1) + 1) (wrdN b)) (Pm (PL 1 ((((wrdN b) - 1) - 1) - 1)) (Pm (PL (((1 + 1) + 1) + ((((wrdN b) - 1) - 1) - 1)) (wrdN b)) (Pn (numZ (rdZ (wrdC b) ((1 + 1) + 1))) (-999999999) 999999999 fun y6 => Pn (numK (rdZ (wrdC b) ((1 + 1) + 1))) 0 1 fun y7 => (sL0 b 0 0 0 0 3))))))))
def sq3 (b : Int) : Prop := (Pn (cupK (kZ 0 (kZ 0 0)) (kZ 1 (kZ (kZ 114 0) 0))) 0 1 fun y3 => Pn (numZ sq0) (-999999999) 999999999 fun y4 => Pn (numK sq0) 0 1 fun y5 => Pn (numZ (kZ 0 (kZ 0 0))) (-999999999) 999999999 fun y6 => Pn (numK (kZ 0 (kZ 0 0))) 0 1 fun y7 => (sL0 b 0 0 0 0 3))
def sq4 (b : Int) : Prop := (Pn (cupK (kZ 0 (kZ 0 0)) (kZ 1 (kZ (kZ 114 0) 0))) 0 1 fun y0 => Pn (numZ sq0) (-999999999) 999999999 fun y1 => Pn (numK sq0) 0 1 fun y2 => Pn (numZ (kZ 0 (kZ 0 0))) (-999999999) 999999999 fun y3 => Pn (numK (kZ 0 (kZ 0 0))) 0 1 fun y4 => (sL0 b 0 0 0 0 3))
def P (a b : Int) : Prop :=
 (Pm (Pl 0 (wrdN b)) (Pm (PL 1 (wrdN b)) (Pb (Pe a 33) (Pm (PL 0 ((wrdN b) - 1)) (Pb (Pe ((wrdN b) - 1) 0) (sq4 b) (Pm (Pl 0 ((wrdN b) - 1)) (Pm (Pl 1 (wrdN b)) (Pm (PL 1 ((wrdN b) - 1)) (Pm (PL (1 + ((wrdN b) - 1)) (wrdN b)) (Pn (cupK (rdZ (wrdC b) 1) (kZ 1 (kZ (kZ 114 0) 0))) 0 1 fun y0 => Pn (numZ (cupZ (rdZ (wrdC b) 1) (kZ 1 (kZ (kZ 114 0) 0)))) (-999999999) 999999999 fun y1 => Pn (numK (cupZ (rdZ (wrdC b) 1) (kZ 1 (kZ (kZ 114 0) 0)))) 0 1 fun y2 => (Pb (Pe y0 0) (Pm (PL 0 (((wrdN b) - 1) - 1)) (Pb (Pe (((wrdN b) - 1) - 1) 0) (Pn (numZ (kZ 0 (kZ 0 0))) (-999999999) 999999999 fun y3 => Pn (numK (kZ 0 (kZ 0 0))) 0 1 fun y4 => (sL0 b 0 0 0 0 3)) (Pm (Pl 0 (((wrdN b) - 1) - 1)) (Pm (Pl (1 + 1) (wrdN b)) (Pm (PL 1 (((wrdN b) - 1) - 1)) (Pm (PL ((1 + 1) + (((wrdN b) - 1) - 1)) (wrdN b)) (Pn
 (numZ (rdZ (wrdC b) (1 + 1))) (-999999999) 999999999 fun y3 => Pn (numK (rdZ (wrdC b) (1 + 1))) 0 1 fun y4 => (sL0 b 0 0 0 0 3)))))))) (Pm (PL 0 (((wrdN b) - 1) - 1)) (Pb (Pe (((wrdN b) - 1) - 1) 0) (Pn (numZ (kZ 0 (kZ 0 0))) (-999999999) 999999999 fun y3 => Pn (numK (kZ 0 (kZ 0 0))) 0 1 fun y4 => (sL0 b 0 0 0 0 3)) (Pm (Pl 0 (((wrdN b) - 1) - 1)) (Pm (Pl (1 + 1) (wrdN b)) (Pm (PL 1 (((wrdN b) - 1) - 1)) (Pm (PL ((1 + 1) + (((wrdN b) - 1) - 1)) (wrdN b)) (Pn (numZ (rdZ (wrdC b) (1 + 1))) (-999999999) 999999999 fun y3 => Pn (numK (rdZ (wrdC b) (1 + 1))) 0 1 fun y4 => (Pb (Pe y2 0) (sL0 b 0 0 0 0 3) (Pb (Pe y4 0) (sL0 b 0 0 0 0 3) (Pm (PL 0 ((((wrdN b) - 1) - 1) - 1)) (Pb (Pl 0 ((((wrdN b) - 1) - 1) - 1)) (sL0 b 0 0 0 0 3) (Pn (cckZ a y1 (kZ 0 (kZ 0 (kZ y3 0)))) 0 6 fun y5 => (Pb (Pd y5 0)
 (sL0 b 0 0 0 0 y5) (sL0 b a y1 0 y3 0)))))))))))))))))))))) (Pm (PL 0 ((wrdN b) - 1)) (Pb (Pe ((wrdN b) - 1) 0) (sq4 b) (Pm (Pl 0 ((wrdN b) - 1)) (Pm (Pl 1 (wrdN b)) (Pm (PL 1 ((wrdN b) - 1)) (Pm (PL (1 + ((wrdN b) - 1)) (wrdN b)) (Pn (cupK (rdZ (wrdC b) 1) (kZ 1 (kZ (kZ 114 0) 0))) 0 1 fun y0 => Pn (numZ (cupZ (rdZ (wrdC b) 1) (kZ 1 (kZ (kZ 114 0) 0)))) (-999999999) 999999999 fun y1 => Pn (numK (cupZ (rdZ (wrdC b) 1) (kZ 1 (kZ (kZ 114 0) 0)))) 0 1 fun y2 => (Pb (Pe y0 0) (Pm (PL 0 (((wrdN b) - 1) - 1)) (Pb (Pe (((wrdN b) - 1) - 1) 0) (sq3 b) (Pm (Pl 0 (((wrdN b) - 1) - 1)) (Pm (Pl (1 + 1) (wrdN b)) (Pm (PL 1 (((wrdN b) - 1) - 1)) (Pm (PL ((1 + 1) + (((wrdN b) - 1) - 1)) (wrdN b)) (Pn (cupK (rdZ (wrdC b) (1 + 1)) (kZ 1 (kZ (kZ 114 0) 0))) 0 1 fun y3 => Pn (numZ (sq1 b)) (-999999999)
 999999999 fun y4 => Pn (numK (sq1 b)) 0 1 fun y5 => (sq2 b)))))))) (Pm (PL 0 (((wrdN b) - 1) - 1)) (Pb (Pe (((wrdN b) - 1) - 1) 0) (sq3 b) (Pm (Pl 0 (((wrdN b) - 1) - 1)) (Pm (Pl (1 + 1) (wrdN b)) (Pm (PL 1 (((wrdN b) - 1) - 1)) (Pm (PL ((1 + 1) + (((wrdN b) - 1) - 1)) (wrdN b)) (Pn (cupK (rdZ (wrdC b) (1 + 1)) (kZ 1 (kZ (kZ 114 0) 0))) 0 1 fun y3 => (Pb (Pe y2 0) (Pn (numZ (sq1 b)) (-999999999) 999999999 fun y4 => Pn (numK (sq1 b)) 0 1 fun y5 => (sq2 b)) (Pn (numZ (sq1 b)) (-999999999) 999999999 fun y4 => Pn (numK (sq1 b)) 0 1 fun y5 => (Pb (Pe y3 0) (sq2 b) (Pm (PL 0 ((((wrdN b) - 1) - 1) - 1)) (Pb (Pe ((((wrdN b) - 1) - 1) - 1) 0) (Pn (numZ (kZ 0 (kZ 0 0))) (-999999999) 999999999 fun y6 => Pn (numK (kZ 0 (kZ 0 0))) 0 1 fun y7 => (sL0 b 0 0 0 0 3)) (Pm (Pl 0 ((((wrdN b) - 1) - 1) - 1))
 (Pm (Pl ((1 + 1) + 1) (wrdN b)) (Pm (PL 1 ((((wrdN b) - 1) - 1) - 1)) (Pm (PL (((1 + 1) + 1) + ((((wrdN b) - 1) - 1) - 1)) (wrdN b)) (Pn (numZ (rdZ (wrdC b) ((1 + 1) + 1))) (-999999999) 999999999 fun y6 => Pn (numK (rdZ (wrdC b) ((1 + 1) + 1))) 0 1 fun y7 => (Pb (Pe y5 0) (sL0 b 0 0 0 0 3) (Pb (Pe y7 0) (sL0 b 0 0 0 0 3) (Pm (PL 0 (((((wrdN b) - 1) - 1) - 1) - 1)) (Pb (Pl 0 (((((wrdN b) - 1) - 1) - 1) - 1)) (sL0 b 0 0 0 0 3) (Pn (cckZ a y1 (kZ y4 (kZ 0 (kZ y6 0)))) 0 6 fun y8 => (Pb (Pd y8 0) (sL0 b 0 0 0 0 y8) (sL0 b a y1 y4 y6 0)))))))))))))))))))))))))))))))))))
theorem cup_r (x : Int) : (cupK x (qQq 1 (qQq (qQq 114 0) 0)) = 0 ∧ ¬ (1 ≤ qQz x ∧ ¬ seqZ (qQq 1 (qQq (qQv (rdZ x 1) 0) 0)) (qQq 1 (qQq (qQq 114 0) 0)) = 0)) ∨
  (cupK x (qQq 1 (qQq (qQq 114 0) 0)) = 1 ∧ 1 ≤ qQz x ∧ ¬ seqZ (qQq 1 (qQq (qQv (rdZ x 1) 0) 0)) (qQq 1 (qQq (qQq 114 0) 0)) = 0 ∧
   numK (cupZ x (qQq 1 (qQq (qQq 114 0) 0))) = numK (qQq (qQz x - 1) (qQq (qQv (rdZ x 1) 1) 0)) ∧ numZ (cupZ x (qQq 1 (qQq (qQq 114 0) 0))) = numZ (qQq (qQz x - 1) (qQq (qQv (rdZ x 1) 1) 0))) := by
 have h1 := qZm (qQq (qQq 114 0) 0)
 by_cases h : 1 ≤ qQz x ∧ ¬ seqZ (qQq 1 (qQq (qQv (rdZ x 1) 0) 0)) (qQq 1 (qQq (qQq 114 0) 0)) = 0
 ·have hk : cupK x (qQq 1 (qQq (qQq 114 0) 0)) = 1 := by unfold cupK; rw [h1]; exact if_pos h
  have hz : cupZ x (qQq 1 (qQq (qQq 114 0) 0)) = qQq (qQz x - 1) (qQq (qQv (rdZ x 1) 1) 0) := by unfold cupZ; rw [hk, h1]; rfl
  exact .inr ⟨hk, h.1, h.2, by rw [hz], by rw [hz]⟩
 ·have hk : cupK x (qQq 1 (qQq (qQq 114 0) 0)) = 0 := by unfold cupK; rw [h1]; exact if_neg h
  exact .inl ⟨hk, h⟩
theorem cup_y {x : Int} (h : cupK x (qQq 1 (qQq (qQq 114 0) 0)) = 1) : cupZ x (qQq 1 (qQq (qQq 114 0) 0)) = qQq (qQz x - 1) (qQq (qQv (rdZ x 1) 1) 0) ∧ True := by
 refine ⟨?_, trivial⟩
 unfold cupZ; rw [h, qZm]; rfl
set_option maxHeartbeats 40000000 in
theorem holds (o s : Int) (l_o : 32 ≤ o) (u_o : o ≤ 38) (h_pre0 : (2 : Int) ≠ 0) (h_pre1 : (1 : Int) ≠ 0) (h_pre2 : qQx (decide ((qQz s)  ≤  100000)) ≠ 0) (h_pre3 : qQx ((wrdN s)  !=  0) ≠ 0) (h_pre4 : qQx ((opfZ (rdZ (wrdC s) 0))  ==  o) ≠ 0) : P o s := by
 delta P sq0 sq1 sq2 sq3 sq4 sL0 Pb Pm Pn PL Pl Pe Pd kZ
 have hw0 := (qYe s).1
 clear h_pre0 h_pre1
 simp only [nrm, Int.reduceEq, Int.reduceNeg, reduceIte, qYc, Int.reduceAdd, slen_0, qZm] at h_pre2 h_pre3 h_pre4 ⊢
 have ho := h_pre4
 clear h_pre4
 have hs : (o = 32 ∨ (34 ≤ o ∧ o ≤ 38)) ∨ (o = 33 ∨ o = 40) := by omega
 rcases hs with hr | hr
 ·obtain ⟨hY, hN⟩ := parF_3 ho hr (by omega)
  have q1 := cup_r (rdZ (wrdC s) 1)
  have q2 := cup_r (rdZ (wrdC s) 2)
  rcases Classical.em _ with hC | hC
  rotate_left
  ·have hG := hN hC
   clear hY hN
   unfold parF at hG
   simp only [Int.reduceEq, if_false] at hG
   obtain ⟨g1, g2, g3, g4, g5, g6⟩ := hG
   rw [g1, g2, g3, g4, g5, g6]
   clear g1 g2 g3 g4 g5 g6
   repeat' (first | (constructor <;> intro _) | (intro _ hy _; subst hy))
   all_goals first
    | (exact ⟨rfl, rfl, rfl, rfl, rfl, rfl⟩)
    | (exfalso; omega)
  ·have hG := hY hC
   clear hY hN
   unfold parF at hG
   obtain ⟨g1, g2, g3, g4, g5, g6⟩ := hG
   rw [g1, g2, g3, g4, g5, g6]
   clear g1 g2 g3 g4 g5 g6
   have c1 : cupK (rdZ (wrdC s) 1) (qQq 1 (qQq (qQq 114 0) 0)) = 1 := by omega
   obtain ⟨v1, x1⟩ := cup_y c1
   have c2 : cupK (rdZ (wrdC s) 2) (qQq 1 (qQq (qQq 114 0) 0)) = 1 := by omega
   obtain ⟨v2, x2⟩ := cup_y c2
   simp only [v1, v2]
   clear v1 x1 q1 v2 x2 q2
   repeat' (first | (constructor <;> intro _) | (intro _ hy _; subst hy))
   all_goals first
    | (exfalso; omega)
    | omega
 ·obtain ⟨hY, hN⟩ := parF_4 ho hr (by omega)
  have q1 := cup_r (rdZ (wrdC s) 1)
  rcases Classical.em _ with hC | hC
  rotate_left
  ·have hG := hN hC
   clear hY hN
   unfold parF at hG
   simp only [Int.reduceEq, if_false] at hG
   obtain ⟨g1, g2, g3, g4, g5, g6⟩ := hG
   rw [g1, g2, g3, g4, g5, g6]
   clear g1 g2 g3 g4 g5 g6
   repeat' (first | (constructor <;> intro _) | (intro _ hy _; subst hy))
   all_goals first
    | (exact ⟨rfl, rfl, rfl, rfl, rfl, rfl⟩)
    | (exfalso; omega)
  ·have hG := hY hC
   clear hY hN
   unfold parF at hG
   obtain ⟨g1, g2, g3, g4, g5, g6⟩ := hG
   rw [g1, g2, g3, g4, g5, g6]
   clear g1 g2 g3 g4 g5 g6
   have c1 : cupK (rdZ (wrdC s) 1) (qQq 1 (qQq (qQq 114 0) 0)) = 1 := by omega
   obtain ⟨v1, x1⟩ := cup_y c1
   simp only [v1]
   clear v1 x1 q1
   repeat' (first | (constructor <;> intro _) | (intro _ hy _; subst hy))
   all_goals first
    | (exfalso; omega)
    | omega
theorem plain (i v ro p) : statH 2 rk tree ⟨i, fN, v, ro, p⟩ = P (i 0) (i 1) := by kernel_rfl
theorem ran : ranH us (fun f _ => if [7].contains f then .unroll 400 else .auto) rk 2 tree = true := by kernel_rfl
theorem fineT : fineH 2 rk tree = true := by kernel_rfl
theorem ok : RhOk (cxOf 2) rk.rh := okH us_ok ran fineT (by kernel_rfl) okk fun i v ro p hρ hpre => by rw [plain]; have q := hρ.hi; exact holds _ _ (q 0 _ rfl).1 (q 0 _ rfl).2 (hpre _ (mg 0 rfl)) (hpre _ (mg 1 rfl)) (hpre _ (mg 2 rfl)) (hpre _ (mg 3 rfl)) (hpre _ (mg 4 rfl))
end CLPc
namespace CLPd
def rk : Rk := ⟨7, [(39, 43)], 2, [.str (.v 1)], [], [(.c 2), (.c 1), (.b .le .i64 (.f 21 (.v 1) (.c 0) (.c 0)) (.c 100000)), (.b .ne .i64 (.f 136 (.v 1) (.c 0) (.c 0)) (.c 0)), (.b .eq .i64 (.f 90 (.f 13 (.f 137 (.v 1) (.c 0) (.c 0)) (.c 0) (.c 0)) (.c 0) (.c 0)) (.v 0))], .tup [.agg [.int .i64 (.v 1000000), .int .i64 (.v 1000001), .int .i64 (.v 1000002), .int .i64 (.v 1000003), .int .i64 (.v 1000004)], .int .i64 (.v 1000005)], [], [.num (.f 143 (.v 1) (.c 0) (.c 0)), .num (.f 143 (.v 1) (.c 1) (.c 0)), .num (.f 143 (.v 1) (.c 2) (.c 0)), .num (.f 143 (.v 1) (.c 3) (.c 0)), .num (.f 143 (.v 1) (.c 4) (.c 0)), .num (.f 144 (.v 1) (.c 0) (.c 0))], []⟩
theorem okk : rk.ok = true := by kernel_rfl
theorem okh : rk.rh.ok = true := by kernel_rfl
noncomputable def us : SMs := fun Γ ins n => smH (cxG n Γ ins) [] (smR (cxG n Γ ins) [CCChk.rc, CLWords.rc, CLNumber.rc, COFind.rc, CLCut.rc])
theorem us_ok : SMsOk us := fun Γ ins n => qZb (tabsG n Γ ins) (qQs _) (qZw (tabsG n Γ ins) (qQw CCChk.okb (rc_n CCChk.ok) (qQw CLWords.okb (rc_n CLWords.ok) (qQw CLNumber.okb (rc_n CLNumber.ok) (qQw COFind.okb (rc_n COFind.ok) (qQw CLCut.okb (rc_n CLCut.ok) (qQt _)))))))
def Q0 : E := (.f 136 (.v 1) (.c 0) (.c 0))
def Q1 : E := (.b .psub .i64 Q0 (.c 1))
def Q2 : E := (tl (.c 0) Q1)
def Q3 : E := (te Q1 (.c 0))
def Q4 : E := (tC (.c 0) (.c 0))
def Q5 : E := (tC (.c 0) Q4)
def Q6 : E := (tC (.c 114) (.c 0))
def Q7 : E := (tC Q6 (.c 0))
def Q8 : E := (tC (.c 1) Q7)
def Q9 : E := (.f 148 Q5 Q8 (.c 0))
def Q10 : E := (.f 147 Q5 Q8 (.c 0))
def Q11 : E := (.f 139 Q10 (.c 0) (.c 0))
def Q12 : E := (.f 138 Q10 (.c 0) (.c 0))
def Q13 : E := (.f 139 Q5 (.c 0) (.c 0))
def Q14 : E := (.f 138 Q5 (.c 0) (.c 0))
def Q15 : E := (tk (.c 0) Q1)
def Q16 : E := (tk (.c 1) Q0)
def Q17 : E := (tl (.c 1) Q1)
def Q18 : E := (tp (.c 1) Q1)
def Q19 : E := (tl Q18 Q0)
def Q20 : E := (.f 137 (.v 1) (.c 0) (.c 0))
def Q21 : E := (tR Q20 (.c 1))
def Q22 : E := (.f 148 Q21 Q8 (.c 0))
def Q23 : E := (.f 147 Q21 Q8 (.c 0))
def Q24 : E := (.f 139 Q23 (.c 0) (.c 0))
def Q25 : E := (.f 138 Q23 (.c 0) (.c 0))
def Q26 : E := (.b .psub .i64 Q1 (.c 1))
def Q27 : E := (tl (.c 0) Q26)
def Q28 : E := (te Q26 (.c 0))
def Q29 : E := (tk (.c 0) Q26)
def Q30 : E := (tp (.c 1) (.c 1))
def Q31 : E := (tk Q30 Q0)
def Q32 : E := (tl (.c 1) Q26)
def Q33 : E := (tp Q30 Q26)
def Q34 : E := (tl Q33 Q0)
def Q35 : E := (tR Q20 Q30)
def Q36 : E := (.f 139 Q35 (.c 0) (.c 0))
def Q37 : E := (.f 138 Q35 (.c 0) (.c 0))
def Q38 : E := (.b .psub .i64 Q26 (.c 1))
def Q39 : E := (.cl 1001 (-999999999) 999999999)
def Q40 : E := (.cl 1003 (-999999999) 999999999)
def Q41 : E := (.cl 1000 (-999999999) 999999999)
def tree : TT (List E) :=
 (.br (tk (.c 0) Q0) (.br (tl (.c 1) Q0) (.br (te (.v 0) (.c 40)) (.br Q2 (.br Q3 (.new 1000 Q9 (.new 1001 Q11 (.new 1002 Q12 (.new 1003 Q13 (.new 1004 Q14 (.leaf [(.c 0), (.c 0), (.c 0), (.c 0), (.c 0), (.c 3)])))))) (.br Q15 (.br Q16 (.br Q17 (.br Q19 (.new 1000 Q22 (.new 1001 Q24 (.new 1002 Q25 (.br (.nt (.cl 1000 0 1)) (.br Q27 (.br Q28 (.new 1003 Q13 (.new 1004 Q14 (.leaf [(.c 0), (.c 0), (.c 0), (.c 0), (.c 0), (.c 3)]))) (.br Q29 (.br Q31 (.br Q32 (.br Q34 (.new 1003 Q36 (.new 1004 Q37 (.leaf [(.c 0), (.c 0), (.c 0), (.c 0), (.c 0), (.c 3)]))) (.bad 200)) (.bad 200)) (.bad 200)) (.bad 200))) (.bad 200)) (.br Q27 (.br Q28 (.new 1003 Q13 (.new 1004 Q14 (.leaf [(.c 0), (.c 0), (.c 0), (.c 0), (.c 0), (.c 3)]))) (.br Q29 (.br Q31 (.br Q32 (.br Q34 (.new 1003 Q36 (.new 1004 Q37 (.br
 (.nt (.cl 1002 0 1)) (.leaf [(.c 0), (.c 0), (.c 0), (.c 0), (.c 0), (.c 3)]) (.br (.nt (.cl 1004 0 1)) (.leaf [(.c 0), (.c 0), (.c 0), (.c 0), (.c 0), (.c 3)]) (.br (tl (.c 0) Q38) (.br (tk (.c 0) Q38) (.leaf [(.c 0), (.c 0), (.c 0), (.c 0), (.c 0), (.c 3)]) (.new 1005 (.f 141 (.v 0) Q39 (tC (.c 0) (tC (.c 0) (tC Q40 (.c 0))))) (.br (tn (.cl 1005 0 6) (.c 0)) (.leaf [(.c 0), (.c 0), (.c 0), (.c 0), (.c 0), (.cl 1005 0 6)]) (.leaf [(.v 0), Q39, (.c 0), (.c 0), Q40, (.c 0)])))) (.bad 200)))))) (.bad 200)) (.bad 200)) (.bad 200)) (.bad 200))) (.bad 200)))))) (.bad 200)) (.bad 200)) (.bad 200)) (.bad 200))) (.bad 200)) (.br (te (.v 0) (.c 39)) (.br Q2 (.br Q3 (.new 1000 Q13 (.new 1001 Q14 (.leaf [(.c 0), (.c 0), (.c 0), (.c 0), (.c 0), (.c 3)]))) (.br Q15 (.br Q16 (.br Q17 (.br Q19 (.new
 1000 (.f 139 Q21 (.c 0) (.c 0)) (.new 1001 (.f 138 Q21 (.c 0) (.c 0)) (.br (.nt (.cl 1001 0 1)) (.leaf [(.c 0), (.c 0), (.c 0), (.c 0), (.c 0), (.c 3)]) (.br Q27 (.br Q29 (.leaf [(.c 0), (.c 0), (.c 0), (.c 0), (.c 0), (.c 3)]) (.new 1002 (.f 141 (.v 0) (.c 0) (tC (.c 0) (tC (.c 0) (tC Q41 (.c 0))))) (.br (tn (.cl 1002 0 6) (.c 0)) (.leaf [(.c 0), (.c 0), (.c 0), (.c 0), (.c 0), (.cl 1002 0 6)]) (.leaf [(.v 0), (.c 0), (.c 0), (.c 0), Q41, (.c 0)])))) (.bad 200))))) (.bad 200)) (.bad 200)) (.bad 200)) (.bad 200))) (.bad 200)) (.br (te (.v 0) (.c 41)) (.br Q2 (.br Q3 (.new 1000 Q9 (.new 1001 Q11 (.new 1002 Q12 (.leaf [(.c 0), (.c 0), (.c 0), (.c 0), (.c 0), (.c 3)])))) (.br Q15 (.br Q16 (.br Q17 (.br Q19 (.new 1000 Q22 (.new 1001 Q24 (.new 1002 Q25 (.br (.nt (.cl 1000 0 1)) (.leaf [(.c
 0), (.c 0), (.c 0), (.c 0), (.c 0), (.c 3)]) (.br (.nt (.cl 1002 0 1)) (.leaf [(.c 0), (.c 0), (.c 0), (.c 0), (.c 0), (.c 3)]) (.br Q27 (.br Q29 (.leaf [(.c 0), (.c 0), (.c 0), (.c 0), (.c 0), (.c 3)]) (.new 1003 (.f 141 (.v 0) (.c 0) (tC Q39 Q5)) (.br (tn (.cl 1003 0 6) (.c 0)) (.leaf [(.c 0), (.c 0), (.c 0), (.c 0), (.c 0), (.cl 1003 0 6)]) (.leaf [(.v 0), (.c 0), Q39, (.c 0), (.c 0), (.c 0)])))) (.bad 200))))))) (.bad 200)) (.bad 200)) (.bad 200)) (.bad 200))) (.bad 200)) (.br Q2 (.br Q15 (.leaf [(.c 0), (.c 0), (.c 0), (.c 0), (.c 0), (.c 3)]) (.new 1000 (.f 141 (.v 0) (.c 0) (tC (.c 0) Q5)) (.br (tn (.cl 1000 0 6) (.c 0)) (.leaf [(.c 0), (.c 0), (.c 0), (.c 0), (.c 0), (.cl 1000 0 6)]) (.leaf [(.v 0), (.c 0), (.c 0), (.c 0), (.c 0), (.c 0)])))) (.bad 200))))) (.bad 200)) (.bad 200))
def sL0 (b z0 z2 z4 z8 z10 : Int) : Prop := (z0 : Int) = (parZ b 0) ∧ (z2 : Int) = (parZ b 1) ∧ (z4 : Int) = (parZ b 2) ∧ (0 : Int) = (parZ b 3) ∧ (z8 : Int) = (parZ b 4) ∧ (z10 : Int) = (parE b) ∧ True
def P (a b : Int) : Prop :=
 (Pm (Pl 0 (wrdN b)) (Pm (PL 1 (wrdN b)) (Pb (Pe a 40) (Pm (PL 0 ((wrdN b) - 1)) (Pb (Pe ((wrdN b) - 1) 0) (Pn (cupK (kZ 0 (kZ 0 0)) (kZ 1 (kZ (kZ 114 0) 0))) 0 1 fun y0 => Pn (numZ (cupZ (kZ 0 (kZ 0 0)) (kZ 1 (kZ (kZ 114 0) 0)))) (-999999999) 999999999 fun y1 => Pn (numK (cupZ (kZ 0 (kZ 0 0)) (kZ 1 (kZ (kZ 114 0) 0)))) 0 1 fun y2 => Pn (numZ (kZ 0 (kZ 0 0))) (-999999999) 999999999 fun y3 => Pn (numK (kZ 0 (kZ 0 0))) 0 1 fun y4 => (sL0 b 0 0 0 0 3)) (Pm (Pl 0 ((wrdN b) - 1)) (Pm (Pl 1 (wrdN b)) (Pm (PL 1 ((wrdN b) - 1)) (Pm (PL (1 + ((wrdN b) - 1)) (wrdN b)) (Pn (cupK (rdZ (wrdC b) 1) (kZ 1 (kZ (kZ 114 0) 0))) 0 1 fun y0 => Pn (numZ (cupZ (rdZ (wrdC b) 1) (kZ 1 (kZ (kZ 114 0) 0)))) (-999999999) 999999999 fun y1 => Pn (numK (cupZ (rdZ (wrdC b) 1) (kZ 1 (kZ (kZ 114 0) 0)))) 0 1 fun y2 =>
 (Pb (Pe y0 0) (Pm (PL 0 (((wrdN b) - 1) - 1)) (Pb (Pe (((wrdN b) - 1) - 1) 0) (Pn (numZ (kZ 0 (kZ 0 0))) (-999999999) 999999999 fun y3 => Pn (numK (kZ 0 (kZ 0 0))) 0 1 fun y4 => (sL0 b 0 0 0 0 3)) (Pm (Pl 0 (((wrdN b) - 1) - 1)) (Pm (Pl (1 + 1) (wrdN b)) (Pm (PL 1 (((wrdN b) - 1) - 1)) (Pm (PL ((1 + 1) + (((wrdN b) - 1) - 1)) (wrdN b)) (Pn (numZ (rdZ (wrdC b) (1 + 1))) (-999999999) 999999999 fun y3 => Pn (numK (rdZ (wrdC b) (1 + 1))) 0 1 fun y4 => (sL0 b 0 0 0 0 3)))))))) (Pm (PL 0 (((wrdN b) - 1) - 1)) (Pb (Pe (((wrdN b) - 1) - 1) 0) (Pn (numZ (kZ 0 (kZ 0 0))) (-999999999) 999999999 fun y3 => Pn (numK (kZ 0 (kZ 0 0))) 0 1 fun y4 => (sL0 b 0 0 0 0 3)) (Pm (Pl 0 (((wrdN b) - 1) - 1)) (Pm (Pl (1 + 1) (wrdN b)) (Pm (PL 1 (((wrdN b) - 1) - 1)) (Pm (PL ((1 + 1) + (((wrdN b) - 1) - 1)) (wrdN
 b)) (Pn (numZ (rdZ (wrdC b) (1 + 1))) (-999999999) 999999999 fun y3 => Pn (numK (rdZ (wrdC b) (1 + 1))) 0 1 fun y4 => (Pb (Pe y2 0) (sL0 b 0 0 0 0 3) (Pb (Pe y4 0) (sL0 b 0 0 0 0 3) (Pm (PL 0 ((((wrdN b) - 1) - 1) - 1)) (Pb (Pl 0 ((((wrdN b) - 1) - 1) - 1)) (sL0 b 0 0 0 0 3) (Pn (cckZ a y1 (kZ 0 (kZ 0 (kZ y3 0)))) 0 6 fun y5 => (Pb (Pd y5 0) (sL0 b 0 0 0 0 y5) (sL0 b a y1 0 y3 0)))))))))))))))))))))) (Pb (Pe a 39) (Pm (PL 0 ((wrdN b) - 1)) (Pb (Pe ((wrdN b) - 1) 0) (Pn (numZ (kZ 0 (kZ 0 0))) (-999999999) 999999999 fun y0 => Pn (numK (kZ 0 (kZ 0 0))) 0 1 fun y1 => (sL0 b 0 0 0 0 3)) (Pm (Pl 0 ((wrdN b) - 1)) (Pm (Pl 1 (wrdN b)) (Pm (PL 1 ((wrdN b) - 1)) (Pm (PL (1 + ((wrdN b) - 1)) (wrdN b)) (Pn (numZ (rdZ (wrdC b) 1)) (-999999999) 999999999 fun y0 => Pn (numK (rdZ (wrdC b) 1)) 0 1 fun y1
 => (Pb (Pe y1 0) (sL0 b 0 0 0 0 3) (Pm (PL 0 (((wrdN b) - 1) - 1)) (Pb (Pl 0 (((wrdN b) - 1) - 1)) (sL0 b 0 0 0 0 3) (Pn (cckZ a 0 (kZ 0 (kZ 0 (kZ y0 0)))) 0 6 fun y2 => (Pb (Pd y2 0) (sL0 b 0 0 0 0 y2) (sL0 b a 0 0 y0 0))))))))))))) (Pb (Pe a 41) (Pm (PL 0 ((wrdN b) - 1)) (Pb (Pe ((wrdN b) - 1) 0) (Pn (cupK (kZ 0 (kZ 0 0)) (kZ 1 (kZ (kZ 114 0) 0))) 0 1 fun y0 => Pn (numZ (cupZ (kZ 0 (kZ 0 0)) (kZ 1 (kZ (kZ 114 0) 0)))) (-999999999) 999999999 fun y1 => Pn (numK (cupZ (kZ 0 (kZ 0 0)) (kZ 1 (kZ (kZ 114 0) 0)))) 0 1 fun y2 => (sL0 b 0 0 0 0 3)) (Pm (Pl 0 ((wrdN b) - 1)) (Pm (Pl 1 (wrdN b)) (Pm (PL 1 ((wrdN b) - 1)) (Pm (PL (1 + ((wrdN b) - 1)) (wrdN b)) (Pn (cupK (rdZ (wrdC b) 1) (kZ 1 (kZ (kZ 114 0) 0))) 0 1 fun y0 => Pn (numZ (cupZ (rdZ (wrdC b) 1) (kZ 1 (kZ (kZ 114 0) 0)))) (-999999999)
 999999999 fun y1 => Pn (numK (cupZ (rdZ (wrdC b) 1) (kZ 1 (kZ (kZ 114 0) 0)))) 0 1 fun y2 => (Pb (Pe y0 0) (sL0 b 0 0 0 0 3) (Pb (Pe y2 0) (sL0 b 0 0 0 0 3) (Pm (PL 0 (((wrdN b) - 1) - 1)) (Pb (Pl 0 (((wrdN b) - 1) - 1)) (sL0 b 0 0 0 0 3) (Pn (cckZ a 0 (kZ y1 (kZ 0 (kZ 0 0)))) 0 6 fun y3 => (Pb (Pd y3 0) (sL0 b 0 0 0 0 y3) (sL0 b a 0 y1 0 0)))))))))))))) (Pm (PL 0 ((wrdN b) - 1)) (Pb (Pl 0 ((wrdN b) - 1)) (sL0 b 0 0 0 0 3) (Pn (cckZ a 0 (kZ 0 (kZ 0 (kZ 0 0)))) 0 6 fun y0 => (Pb (Pd y0 0) (sL0 b 0 0 0 0 y0) (sL0 b a 0 0 0 0))))))))))
theorem cup_r (x : Int) : (cupK x (qQq 1 (qQq (qQq 114 0) 0)) = 0 ∧ ¬ (1 ≤ qQz x ∧ ¬ seqZ (qQq 1 (qQq (qQv (rdZ x 1) 0) 0)) (qQq 1 (qQq (qQq 114 0) 0)) = 0)) ∨
  (cupK x (qQq 1 (qQq (qQq 114 0) 0)) = 1 ∧ 1 ≤ qQz x ∧ ¬ seqZ (qQq 1 (qQq (qQv (rdZ x 1) 0) 0)) (qQq 1 (qQq (qQq 114 0) 0)) = 0 ∧
   numK (cupZ x (qQq 1 (qQq (qQq 114 0) 0))) = numK (qQq (qQz x - 1) (qQq (qQv (rdZ x 1) 1) 0)) ∧ numZ (cupZ x (qQq 1 (qQq (qQq 114 0) 0))) = numZ (qQq (qQz x - 1) (qQq (qQv (rdZ x 1) 1) 0))) := by
 have h1 := qZm (qQq (qQq 114 0) 0)
 by_cases h : 1 ≤ qQz x ∧ ¬ seqZ (qQq 1 (qQq (qQv (rdZ x 1) 0) 0)) (qQq 1 (qQq (qQq 114 0) 0)) = 0
 ·have hk : cupK x (qQq 1 (qQq (qQq 114 0) 0)) = 1 := by unfold cupK; rw [h1]; exact if_pos h
  have hz : cupZ x (qQq 1 (qQq (qQq 114 0) 0)) = qQq (qQz x - 1) (qQq (qQv (rdZ x 1) 1) 0) := by unfold cupZ; rw [hk, h1]; rfl
  exact .inr ⟨hk, h.1, h.2, by rw [hz], by rw [hz]⟩
 ·have hk : cupK x (qQq 1 (qQq (qQq 114 0) 0)) = 0 := by unfold cupK; rw [h1]; exact if_neg h
  exact .inl ⟨hk, h⟩
theorem cup_y {x : Int} (h : cupK x (qQq 1 (qQq (qQq 114 0) 0)) = 1) : cupZ x (qQq 1 (qQq (qQq 114 0) 0)) = qQq (qQz x - 1) (qQq (qQv (rdZ x 1) 1) 0) ∧ True := by
 refine ⟨?_, trivial⟩
 unfold cupZ; rw [h, qZm]; rfl
set_option maxHeartbeats 40000000 in
theorem holds (o s : Int) (l_o : 39 ≤ o) (u_o : o ≤ 43) (h_pre0 : (2 : Int) ≠ 0) (h_pre1 : (1 : Int) ≠ 0) (h_pre2 : qQx (decide ((qQz s)  ≤  100000)) ≠ 0) (h_pre3 : qQx ((wrdN s)  !=  0) ≠ 0) (h_pre4 : qQx ((opfZ (rdZ (wrdC s) 0))  ==  o) ≠ 0) : P o s := by
 delta P sL0 Pb Pm Pn PL Pl Pe Pd kZ
 have hw0 := (qYe s).1
 clear h_pre0 h_pre1
 simp only [nrm, Int.reduceEq, Int.reduceNeg, reduceIte, qYc, Int.reduceAdd, slen_0, qZm] at h_pre2 h_pre3 h_pre4 ⊢
 have ho := h_pre4
 clear h_pre4
 have hs : (o = 39) ∨ (o = 33 ∨ o = 40) ∨ (o = 41) ∨ (o = 42 ∨ o = 43) := by omega
 rcases hs with hr | hr | hr | hr
 ·obtain ⟨hY, hN⟩ := parF_5 ho hr (by omega)
  rcases Classical.em _ with hC | hC
  rotate_left
  ·have hG := hN hC
   clear hY hN
   unfold parF at hG
   simp only [Int.reduceEq, if_false] at hG
   obtain ⟨g1, g2, g3, g4, g5, g6⟩ := hG
   rw [g1, g2, g3, g4, g5, g6]
   clear g1 g2 g3 g4 g5 g6
   repeat' (first | (constructor <;> intro _) | (intro _ hy _; subst hy))
   all_goals first
    | (exact ⟨rfl, rfl, rfl, rfl, rfl, rfl⟩)
    | (exfalso; omega)
  ·have hG := hY hC
   clear hY hN
   unfold parF at hG
   obtain ⟨g1, g2, g3, g4, g5, g6⟩ := hG
   rw [g1, g2, g3, g4, g5, g6]
   clear g1 g2 g3 g4 g5 g6
   repeat' (first | (constructor <;> intro _) | (intro _ hy _; subst hy))
   all_goals first
    | (exfalso; omega)
    | omega
 ·obtain ⟨hY, hN⟩ := parF_4 ho hr (by omega)
  have q1 := cup_r (rdZ (wrdC s) 1)
  rcases Classical.em _ with hC | hC
  rotate_left
  ·have hG := hN hC
   clear hY hN
   unfold parF at hG
   simp only [Int.reduceEq, if_false] at hG
   obtain ⟨g1, g2, g3, g4, g5, g6⟩ := hG
   rw [g1, g2, g3, g4, g5, g6]
   clear g1 g2 g3 g4 g5 g6
   repeat' (first | (constructor <;> intro _) | (intro _ hy _; subst hy))
   all_goals first
    | (exact ⟨rfl, rfl, rfl, rfl, rfl, rfl⟩)
    | (exfalso; omega)
  ·have hG := hY hC
   clear hY hN
   unfold parF at hG
   obtain ⟨g1, g2, g3, g4, g5, g6⟩ := hG
   rw [g1, g2, g3, g4, g5, g6]
   clear g1 g2 g3 g4 g5 g6
   have c1 : cupK (rdZ (wrdC s) 1) (qQq 1 (qQq (qQq 114 0) 0)) = 1 := by omega
   obtain ⟨v1, x1⟩ := cup_y c1
   simp only [v1]
   clear v1 x1 q1
   repeat' (first | (constructor <;> intro _) | (intro _ hy _; subst hy))
   all_goals first
    | (exfalso; omega)
    | omega
 ·obtain ⟨hY, hN⟩ := parF_6 ho hr (by omega)
  have q1 := cup_r (rdZ (wrdC s) 1)
  rcases Classical.em _ with hC | hC
  rotate_left
  ·have hG := hN hC
   clear hY hN
   unfold parF at hG
   simp only [Int.reduceEq, if_false] at hG
   obtain ⟨g1, g2, g3, g4, g5, g6⟩ := hG
   rw [g1, g2, g3, g4, g5, g6]
   clear g1 g2 g3 g4 g5 g6
   repeat' (first | (constructor <;> intro _) | (intro _ hy _; subst hy))
   all_goals first
    | (exact ⟨rfl, rfl, rfl, rfl, rfl, rfl⟩)
    | (exfalso; omega)
  ·have hG := hY hC
   clear hY hN
   unfold parF at hG
   obtain ⟨g1, g2, g3, g4, g5, g6⟩ := hG
   rw [g1, g2, g3, g4, g5, g6]
   clear g1 g2 g3 g4 g5 g6
   have c1 : cupK (rdZ (wrdC s) 1) (qQq 1 (qQq (qQq 114 0) 0)) = 1 := by omega
   obtain ⟨v1, x1⟩ := cup_y c1
   simp only [v1]
   clear v1 x1 q1
   repeat' (first | (constructor <;> intro _) | (intro _ hy _; subst hy))
   all_goals first
    | (exfalso; omega)
    | omega
 ·obtain ⟨hY, hN⟩ := parF_7 ho hr (by omega)
  rcases Classical.em _ with hC | hC
  rotate_left
  ·have hG := hN hC
   clear hY hN
   unfold parF at hG
   simp only [Int.reduceEq, if_false] at hG
   obtain ⟨g1, g2, g3, g4, g5, g6⟩ := hG
   rw [g1, g2, g3, g4, g5, g6]
   clear g1 g2 g3 g4 g5 g6
   repeat' (first | (constructor <;> intro _) | (intro _ hy _; subst hy))
   all_goals first
    | (exact ⟨rfl, rfl, rfl, rfl, rfl, rfl⟩)
    | (exfalso; omega)
  ·have hG := hY hC
   clear hY hN
   unfold parF at hG
   obtain ⟨g1, g2, g3, g4, g5, g6⟩ := hG
   rw [g1, g2, g3, g4, g5, g6]
   clear g1 g2 g3 g4 g5 g6
   repeat' (first | (constructor <;> intro _) | (intro _ hy _; subst hy))
   all_goals first
    | (exfalso; omega)
    | omega
theorem plain (i v ro p) : statH 2 rk tree ⟨i, fN, v, ro, p⟩ = P (i 0) (i 1) := by kernel_rfl
theorem ran : ranH us (fun f _ => if [7].contains f then .unroll 400 else .auto) rk 2 tree = true := by kernel_rfl
theorem fineT : fineH 2 rk tree = true := by kernel_rfl
theorem ok : RhOk (cxOf 2) rk.rh := okH us_ok ran fineT (by kernel_rfl) okk fun i v ro p hρ hpre => by rw [plain]; have q := hρ.hi; exact holds _ _ (q 0 _ rfl).1 (q 0 _ rfl).2 (hpre _ (mg 0 rfl)) (hpre _ (mg 1 rfl)) (hpre _ (mg 2 rfl)) (hpre _ (mg 3 rfl)) (hpre _ (mg 4 rfl))
end CLPd
namespace CLParse
def rk : Rk := ⟨7, [], 1, [.str (.v 0)], [], [(.b .le .i64 (.f 21 (.v 0) (.c 0) (.c 0)) (.c 100000))], .tup [.agg [.int .i64 (.v 1000000), .int .i64 (.v 1000001), .int .i64 (.v 1000002), .int .i64 (.v 1000003), .int .i64 (.v 1000004)], .int .i64 (.v 1000005)], [], [.num (.f 143 (.v 0) (.c 0) (.c 0)), .num (.f 143 (.v 0) (.c 1) (.c 0)), .num (.f 143 (.v 0) (.c 2) (.c 0)), .num (.f 143 (.v 0) (.c 3) (.c 0)), .num (.f 143 (.v 0) (.c 4) (.c 0)), .num (.f 144 (.v 0) (.c 0) (.c 0))], []⟩
theorem okk : rk.ok = true := by kernel_rfl
theorem okh : rk.rh.ok = true := by kernel_rfl
theorem holds (s : Int) (h_pre0 : qQx (decide ((qQz s)  ≤  100000)) ≠ 0) : (0 ≤ (opfZ (qQq 0 (qQq 0 0)))  ∧ (opfZ (qQq 0 (qQq 0 0)))  ≤ 0 ∧ (2 : Int) ≠ 0 ∧ (1 : Int) ≠ 0 ∧ qQx (decide ((qQz s)  ≤  100000)) ≠ 0 ∧ qQx ((wrdN s)  ==  0) ≠ 0 ∧ qQx ((opfZ (qQq 0 (qQq 0 0)))  ==  ((opfZ (qQq 0 (qQq 0 0))) )) ≠ 0) ∨ (0 ≤ (opfZ (rdZ (wrdC s) 0))  ∧ (opfZ (rdZ (wrdC s) 0))  ≤ 23 ∧ (2 : Int) ≠ 0 ∧ (1 : Int) ≠ 0 ∧ qQx (decide ((qQz s)  ≤  100000)) ≠ 0 ∧ qQx ((wrdN s)  !=  0) ≠ 0 ∧ qQx ((opfZ (rdZ (wrdC s) 0))  ==  ((opfZ (rdZ (wrdC s) 0)) )) ≠ 0) ∨ (24 ≤ (opfZ (rdZ (wrdC s) 0))  ∧ (opfZ (rdZ (wrdC s) 0))  ≤ 30 ∧ (2 : Int) ≠ 0 ∧ (1 : Int) ≠ 0 ∧ qQx (decide ((qQz s)  ≤  100000)) ≠ 0 ∧ qQx ((wrdN s)  !=  0) ≠ 0 ∧ qQx ((opfZ (rdZ (wrdC s) 0))  ==  ((opfZ (rdZ (wrdC s) 0)) )) ≠ 0) ∨ (31 ≤ (opfZ (rdZ (wrdC s) 0))  ∧ (opfZ (rdZ (wrdC s) 0))  ≤ 31 ∧ (2 : Int) ≠ 0 ∧ (1 : Int) ≠ 0 ∧ qQx (decide ((qQz s)  ≤  100000)) ≠ 0 ∧ qQx ((wrdN s)  !=  0) ≠ 0 ∧ qQx ((opfZ (rdZ (wrdC s) 0))  ==  ((opfZ (rdZ (wrdC s) 0)) )) ≠ 0) ∨ (32 ≤ (opfZ (rdZ (wrdC s) 0))  ∧ (opfZ (rdZ (wrdC s) 0))  ≤ 38 ∧ (2 : Int) ≠ 0 ∧ (1 : Int) ≠ 0 ∧ qQx (decide ((qQz s)  ≤  100000)) ≠ 0 ∧ qQx ((wrdN s)  !=  0) ≠ 0 ∧ qQx ((opfZ (rdZ (wrdC s) 0))  ==  ((opfZ (rdZ (wrdC s) 0)) )) ≠ 0) ∨ (39 ≤ (opfZ (rdZ (wrdC s) 0))  ∧ (opfZ (rdZ (wrdC s) 0))  ≤ 43 ∧ (2 : Int) ≠ 0 ∧ (1 : Int) ≠ 0 ∧ qQx (decide ((qQz s)  ≤  100000)) ≠ 0 ∧ qQx ((wrdN s)  !=  0) ≠ 0 ∧ qQx ((opfZ (rdZ (wrdC s) 0))  ==  ((opfZ (rdZ (wrdC s) 0)) )) ≠ 0) := by
 have hop := opfZ_bd (rdZ (wrdC s) 0)
 have hle := opfZ_le (rdZ (wrdC s) 0)
 simp only [nrm, Int.reduceEq, Int.reduceNeg, reduceIte, opfZ_e] at h_pre0 ⊢
 omega
theorem htabs : ∀ d ∈ tabsL, d.c.vb 0 = true ∧ d.n.vb 0 = true ∧ d.cap.vb 0 = true := fun d hd => by have := List.all_eq_true.1 tabsAll d hd; simp only [Bool.and_eq_true] at this; exact this
theorem ok : RhOk (cxOf 2) rk.rh := fun ρ β w hρ hpre hs => by
 obtain ⟨i, f, v, ro, p⟩ := ρ
 have hf : f = fN := hρ.hF
 subst hf
 have q := hρ.hi
 rcases holds (i 0) (hpre _ (mg 0 rfl)) with h | h | h | h | h | h
 ·obtain ⟨hx1, hx2, g0, g1, g2, g3, g4⟩ := h
  exact qXn htabs (m := rk.rh) (p := CLPe.rk.rh) rfl rfl rfl rfl rfl rfl rfl rfl CLPe.ok rfl (fun _ => rfl) hρ ⟨hx1, hx2⟩ (List.forall_mem_cons.2 ⟨g0, List.forall_mem_cons.2 ⟨g1, List.forall_mem_cons.2 ⟨g2, List.forall_mem_cons.2 ⟨g3, List.forall_mem_cons.2 ⟨g4, (fun _ h => by cases h)⟩⟩⟩⟩⟩) hs
 ·obtain ⟨hx1, hx2, g0, g1, g2, g3, g4⟩ := h
  exact qXn htabs (m := rk.rh) (p := CLPa.rk.rh) rfl rfl rfl rfl rfl rfl rfl rfl CLPa.ok rfl (fun _ => rfl) hρ ⟨hx1, hx2⟩ (List.forall_mem_cons.2 ⟨g0, List.forall_mem_cons.2 ⟨g1, List.forall_mem_cons.2 ⟨g2, List.forall_mem_cons.2 ⟨g3, List.forall_mem_cons.2 ⟨g4, (fun _ h => by cases h)⟩⟩⟩⟩⟩) hs
 ·obtain ⟨hx1, hx2, g0, g1, g2, g3, g4⟩ := h
  exact qXn htabs (m := rk.rh) (p := CLPb.rk.rh) rfl rfl rfl rfl rfl rfl rfl rfl CLPb.ok rfl (fun _ => rfl) hρ ⟨hx1, hx2⟩ (List.forall_mem_cons.2 ⟨g0, List.forall_mem_cons.2 ⟨g1, List.forall_mem_cons.2 ⟨g2, List.forall_mem_cons.2 ⟨g3, List.forall_mem_cons.2 ⟨g4, (fun _ h => by cases h)⟩⟩⟩⟩⟩) hs
 ·obtain ⟨hx1, hx2, g0, g1, g2, g3, g4⟩ := h
  exact qXn htabs (m := rk.rh) (p := CLPf.rk.rh) rfl rfl rfl rfl rfl rfl rfl rfl CLPf.ok rfl (fun _ => rfl) hρ ⟨hx1, hx2⟩ (List.forall_mem_cons.2 ⟨g0, List.forall_mem_cons.2 ⟨g1, List.forall_mem_cons.2 ⟨g2, List.forall_mem_cons.2 ⟨g3, List.forall_mem_cons.2 ⟨g4, (fun _ h => by cases h)⟩⟩⟩⟩⟩) hs
 ·obtain ⟨hx1, hx2, g0, g1, g2, g3, g4⟩ := h
  exact qXn htabs (m := rk.rh) (p := CLPc.rk.rh) rfl rfl rfl rfl rfl rfl rfl rfl CLPc.ok rfl (fun _ => rfl) hρ ⟨hx1, hx2⟩ (List.forall_mem_cons.2 ⟨g0, List.forall_mem_cons.2 ⟨g1, List.forall_mem_cons.2 ⟨g2, List.forall_mem_cons.2 ⟨g3, List.forall_mem_cons.2 ⟨g4, (fun _ h => by cases h)⟩⟩⟩⟩⟩) hs
 ·obtain ⟨hx1, hx2, g0, g1, g2, g3, g4⟩ := h
  exact qXn htabs (m := rk.rh) (p := CLPd.rk.rh) rfl rfl rfl rfl rfl rfl rfl rfl CLPd.ok rfl (fun _ => rfl) hρ ⟨hx1, hx2⟩ (List.forall_mem_cons.2 ⟨g0, List.forall_mem_cons.2 ⟨g1, List.forall_mem_cons.2 ⟨g2, List.forall_mem_cons.2 ⟨g3, List.forall_mem_cons.2 ⟨g4, (fun _ h => by cases h)⟩⟩⟩⟩⟩) hs
end CLParse
end Go.Proofs.YtppiabilakeadaaGreatDoor
