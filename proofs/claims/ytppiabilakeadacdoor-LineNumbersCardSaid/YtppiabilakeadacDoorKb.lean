/-
  What functions of the program answer, as numbers of what they are handed: their runs by the engine, the plain statements behind them. No condition.
-/
import Derived.Test.YtppiabilakeadacDoorKa
import Derived.Test.YtppiabilakeadacDoorGab
import Derived.Test.YtppiabilakeadacDoorGp3
set_option linter.unusedVariables false
set_option linter.unusedSimpArgs false
set_option maxRecDepth 100000
namespace Go.Proofs.YtppiabilakeadacDoor
open Go.Eng Go.RowKit
namespace CLParse
def rc : Rc := ⟨8, [none], [.str], [(.b .le .i64 (.f 21 (.v 0) (.c 0) (.c 0)) (.c 100000))], .tup [some 5, none], [.int .i64 (.f 143 (.v 0) (.c 0) (.c 0)), .int .i64 (.f 143 (.v 0) (.c 1) (.c 0)), .int .i64 (.f 143 (.v 0) (.c 2) (.c 0)), .int .i64 (.f 143 (.v 0) (.c 3) (.c 0)), .int .i64 (.f 143 (.v 0) (.c 4) (.c 0)), .int .i64 (.f 144 (.v 0) (.c 0) (.c 0))]⟩
theorem okb : rc.ok = true := by kernel_rfl
noncomputable def us : SMs := fun Γ ins n => smH (cxG n Γ ins) [] (smR (cxG n Γ ins) [CCChk.rc, CLWords.rc, CLNumber.rc, COFind.rc])
theorem us_ok : SMsOk us := fun Γ ins n => qXa (tabsG n Γ ins) (qJz _) (qJr (tabsG n Γ ins) (qZb CCChk.okb (rc_n CCChk.ok) (qZb CLWords.okb (rc_n CLWords.ok) (qZb CLNumber.okb (rc_n CLNumber.ok) (qZb COFind.okb (rc_n COFind.ok) (qJj _))))))
def Q0 : E := (.f 136 (.v 0) (.c 0) (.c 0))
def Q1 : E := (tC (.c 0) (.c 0))
def Q2 : E := (tC (.c 0) Q1)
def Q3 : E := (tl (.c 1) (.cl 1000 0 44))
def Q4 : E := (tl (.cl 1000 0 44) (.c 43))
def Q5 : E := (.nt Q4)
def Q6 : E := (tl (.cl 1000 0 44) (.c 23))
def Q7 : E := (.f 139 Q2 (.c 0) (.c 0))
def Q8 : E := (.f 138 Q2 (.c 0) (.c 0))
def Q9 : E := (tl (.cl 1000 0 44) (.c 30))
def Q10 : E := (te (.cl 1000 0 44) (.c 31))
def Q11 : E := (te (.cl 1000 0 44) (.c 33))
def Q12 : E := (te (.cl 1000 0 44) (.c 40))
def Q13 : E := (tk (.cl 1000 0 44) (.c 39))
def Q14 : E := (te (.cl 1000 0 44) (.c 39))
def Q15 : E := (te (.cl 1000 0 44) (.c 41))
def Q16 : E := (.f 137 (.v 0) (.c 0) (.c 0))
def Q17 : E := (.b .psub .i64 Q0 (.c 1))
def Q18 : E := (tl (.c 0) Q17)
def Q19 : E := (te Q17 (.c 0))
def Q20 : E := (tk (.c 0) Q17)
def Q21 : E := (tk (.c 1) Q0)
def Q22 : E := (tl (.c 1) Q17)
def Q23 : E := (tp (.c 1) Q17)
def Q24 : E := (tl Q23 Q0)
def Q25 : E := (tR Q16 (.c 1))
def Q26 : E := (.f 21 Q25 (.c 0) (.c 0))
def Q27 : E := (tl (.c 1) Q26)
def Q28 : E := (tR Q25 (.c 1))
def Q29 : E := (.f 18 Q28 (.c 0) (.c 0))
def Q30 : E := (tC Q29 (.c 0))
def Q31 : E := (tC (.c 1) Q30)
def Q32 : E := (tC (.c 114) (.c 0))
def Q33 : E := (tC Q32 (.c 0))
def Q34 : E := (tC (.c 1) Q33)
def Q35 : E := (.f 20 Q31 Q34 (.c 0))
def Q36 : E := (.nt Q35)
def Q37 : E := (.f 139 Q25 (.c 0) (.c 0))
def Q38 : E := (.f 138 Q25 (.c 0) (.c 0))
def Q39 : E := (.b .psub .i64 Q17 (.c 1))
def Q40 : E := (tl (.c 0) Q39)
def Q41 : E := (te Q39 (.c 0))
def Q42 : E := (tk (.c 0) Q39)
def Q43 : E := (tp (.c 1) (.c 1))
def Q44 : E := (tk Q43 Q0)
def Q45 : E := (tl (.c 1) Q39)
def Q46 : E := (tp Q43 Q39)
def Q47 : E := (tl Q46 Q0)
def Q48 : E := (tR Q16 Q43)
def Q49 : E := (.f 21 Q48 (.c 0) (.c 0))
def Q50 : E := (tl (.c 1) Q49)
def Q51 : E := (tR Q48 (.c 1))
def Q52 : E := (.f 18 Q51 (.c 0) (.c 0))
def Q53 : E := (tC Q52 (.c 0))
def Q54 : E := (tC (.c 1) Q53)
def Q55 : E := (.f 20 Q54 Q34 (.c 0))
def Q56 : E := (.nt Q55)
def Q57 : E := (.f 139 Q48 (.c 0) (.c 0))
def Q58 : E := (.f 138 Q48 (.c 0) (.c 0))
def Q59 : E := (.b .psub .i64 Q39 (.c 1))
def Q60 : E := (tl (.c 0) Q59)
def Q61 : E := (te Q59 (.c 0))
def Q62 : E := (tk (.c 0) Q59)
def Q63 : E := (tp Q43 (.c 1))
def Q64 : E := (tk Q63 Q0)
def Q65 : E := (tl (.c 1) Q59)
def Q66 : E := (tp Q63 Q59)
def Q67 : E := (tl Q66 Q0)
def Q68 : E := (tR Q16 Q63)
def Q69 : E := (.f 21 Q68 (.c 0) (.c 0))
def Q70 : E := (tl (.c 1) Q69)
def Q71 : E := (tR Q68 (.c 1))
def Q72 : E := (.f 18 Q71 (.c 0) (.c 0))
def Q73 : E := (tC Q72 (.c 0))
def Q74 : E := (tC (.c 1) Q73)
def Q75 : E := (.f 20 Q74 Q34 (.c 0))
def Q76 : E := (.nt Q75)
def Q77 : E := (.f 139 Q68 (.c 0) (.c 0))
def Q78 : E := (.f 138 Q68 (.c 0) (.c 0))
def Q79 : E := (.b .psub .i64 Q69 (.c 1))
def Q80 : E := (.f 18 Q71 (.c 1) (.c 0))
def Q81 : E := (tC Q80 (.c 0))
def Q82 : E := (tC Q79 Q81)
def Q83 : E := (.f 139 Q82 (.c 0) (.c 0))
def Q84 : E := (.f 138 Q82 (.c 0) (.c 0))
def Q85 : E := (.b .psub .i64 Q49 (.c 1))
def Q86 : E := (.f 18 Q51 (.c 1) (.c 0))
def Q87 : E := (tC Q86 (.c 0))
def Q88 : E := (tC Q85 Q87)
def Q89 : E := (.f 139 Q88 (.c 0) (.c 0))
def Q90 : E := (.f 138 Q88 (.c 0) (.c 0))
def Q91 : E := (.b .psub .i64 Q26 (.c 1))
def Q92 : E := (.f 18 Q28 (.c 1) (.c 0))
def Q93 : E := (tC Q92 (.c 0))
def Q94 : E := (tC Q91 Q93)
def Q95 : E := (.f 139 Q94 (.c 0) (.c 0))
def Q96 : E := (.f 138 Q94 (.c 0) (.c 0))
def Q97 : E := (.nt (.cl 1002 0 1))
def Q98 : E := (.nt (.cl 1004 0 1))
def Q99 : E := (.nt (.cl 1006 0 1))
def Q100 : E := (.b .psub .i64 Q59 (.c 1))
def Q101 : E := (tl (.c 0) Q100)
def Q102 : E := (tk (.c 0) Q100)
def Q103 : E := (.cl 1001 (-999999999) 999999999)
def Q104 : E := (.cl 1003 (-999999999) 999999999)
def Q105 : E := (.cl 1005 (-999999999) 999999999)
def Q106 : E := (tn (.cl 1007 0 6) (.c 0))
def Q107 : E := (tn (.cl 1005 0 6) (.c 0))
def Q108 : E := (tC Q105 (.c 0))
def Q109 : E := (tC (.c 0) Q108)
def Q110 : E := (tC Q104 Q109)
def Q111 : E := (.f 141 (.cl 1000 0 44) Q103 Q110)
def Q112 : E := (tC Q104 (.c 0))
def Q113 : E := (tC (.c 0) Q112)
def Q114 : E := (tC (.c 0) Q113)
def Q115 : E := (.f 141 (.cl 1000 0 44) Q103 Q114)
def Q116 : E := (tn (.cl 1003 0 6) (.c 0))
def tree : TT (List E) :=
 (.br (tl (.f 21 (.v 0) (.c 0) (.c 0)) (.c 100000)) (.br (te Q0 (.c 0)) (.new 1000 (.f 90 Q2 (.c 0) (.c 0)) (.br Q3 (.br Q5 (.leaf [(.c 0), (.c 0), (.c 0), (.c 0), (.c 0), (.c 3)]) (.br Q6 (.new 1001 Q7 (.new 1002 Q8 (.leaf [(.c 0), (.c 0), (.c 0), (.c 0), (.c 0), (.c 3)]))) (.br Q9 (.new 1001 Q7 (.new 1002 Q8 (.leaf [(.c 0), (.c 0), (.c 0), (.c 0), (.c 0), (.c 3)]))) (.br Q10 (.new 1001 Q7 (.new 1002 Q8 (.leaf [(.c 0), (.c 0), (.c 0), (.c 0), (.c 0), (.c 3)]))) (.br Q11 (.new 1001 Q7 (.new 1002 Q8 (.leaf [(.c 0), (.c 0), (.c 0), (.c 0), (.c 0), (.c 3)]))) (.br Q12 (.new 1001 Q7 (.new 1002 Q8 (.leaf [(.c 0), (.c 0), (.c 0), (.c 0), (.c 0), (.c 3)]))) (.br Q13 (.new 1001 Q7 (.new 1002 Q8 (.leaf [(.c 0), (.c 0), (.c 0), (.c 0), (.c 0), (.c 3)]))) (.br Q14 (.new 1001 Q7 (.new 1002 Q8 (.leaf
 [(.c 0), (.c 0), (.c 0), (.c 0), (.c 0), (.c 3)]))) (.br Q15 (.new 1001 Q7 (.new 1002 Q8 (.leaf [(.c 0), (.c 0), (.c 0), (.c 0), (.c 0), (.c 3)]))) (.leaf [(.c 0), (.c 0), (.c 0), (.c 0), (.c 0), (.c 3)])))))))))) (.leaf [(.c 0), (.c 0), (.c 0), (.c 0), (.c 0), (.c 3)]))) (.br (tk (.c 0) Q0) (.br (tl (.c 1) Q0) (.new 1000 (.f 90 (tR Q16 (.c 0)) (.c 0) (.c 0)) (.br Q3 (.br Q5 (.leaf [(.c 0), (.c 0), (.c 0), (.c 0), (.c 0), (.c 3)]) (.br Q6 (.br Q18 (.br Q19 (.new 1001 Q7 (.new 1002 Q8 (.leaf [(.c 0), (.c 0), (.c 0), (.c 0), (.c 0), (.c 3)]))) (.br Q20 (.br Q21 (.br Q22 (.br Q24 (.br Q27 (.br Q36 (.new 1001 Q37 (.new 1002 Q38 (.br Q40 (.br Q41 (.new 1003 Q7 (.new 1004 Q8 (.leaf [(.c 0), (.c 0), (.c 0), (.c 0), (.c 0), (.c 3)]))) (.br Q42 (.br Q44 (.br Q45 (.br Q47 (.br Q50 (.br Q56 (.new
 1003 Q57 (.new 1004 Q58 (.br Q60 (.br Q61 (.new 1005 Q7 (.new 1006 Q8 (.leaf [(.c 0), (.c 0), (.c 0), (.c 0), (.c 0), (.c 3)]))) (.br Q62 (.br Q64 (.br Q65 (.br Q67 (.br Q70 (.br Q76 (.new 1005 Q77 (.new 1006 Q78 (.leaf [(.c 0), (.c 0), (.c 0), (.c 0), (.c 0), (.c 3)]))) (.new 1005 Q83 (.new 1006 Q84 (.leaf [(.c 0), (.c 0), (.c 0), (.c 0), (.c 0), (.c 3)])))) (.new 1005 Q77 (.new 1006 Q78 (.leaf [(.c 0), (.c 0), (.c 0), (.c 0), (.c 0), (.c 3)])))) (.bad 200)) (.bad 200)) (.bad 200)) (.bad 200))) (.bad 200)))) (.new 1003 Q89 (.new 1004 Q90 (.br Q60 (.br Q61 (.new 1005 Q7 (.new 1006 Q8 (.leaf [(.c 0), (.c 0), (.c 0), (.c 0), (.c 0), (.c 3)]))) (.br Q62 (.br Q64 (.br Q65 (.br Q67 (.br Q70 (.br Q76 (.new 1005 Q77 (.new 1006 Q78 (.leaf [(.c 0), (.c 0), (.c 0), (.c 0), (.c 0), (.c 3)]))) (.new
 1005 Q83 (.new 1006 Q84 (.leaf [(.c 0), (.c 0), (.c 0), (.c 0), (.c 0), (.c 3)])))) (.new 1005 Q77 (.new 1006 Q78 (.leaf [(.c 0), (.c 0), (.c 0), (.c 0), (.c 0), (.c 3)])))) (.bad 200)) (.bad 200)) (.bad 200)) (.bad 200))) (.bad 200))))) (.new 1003 Q57 (.new 1004 Q58 (.br Q60 (.br Q61 (.new 1005 Q7 (.new 1006 Q8 (.leaf [(.c 0), (.c 0), (.c 0), (.c 0), (.c 0), (.c 3)]))) (.br Q62 (.br Q64 (.br Q65 (.br Q67 (.br Q70 (.br Q76 (.new 1005 Q77 (.new 1006 Q78 (.leaf [(.c 0), (.c 0), (.c 0), (.c 0), (.c 0), (.c 3)]))) (.new 1005 Q83 (.new 1006 Q84 (.leaf [(.c 0), (.c 0), (.c 0), (.c 0), (.c 0), (.c 3)])))) (.new 1005 Q77 (.new 1006 Q78 (.leaf [(.c 0), (.c 0), (.c 0), (.c 0), (.c 0), (.c 3)])))) (.bad 200)) (.bad 200)) (.bad 200)) (.bad 200))) (.bad 200))))) (.bad 200)) (.bad 200)) (.bad 200))
 (.bad 200))) (.bad 200)))) (.new 1001 Q95 (.new 1002 Q96 (.br Q40 (.br Q41 (.new 1003 Q7 (.new 1004 Q8 (.leaf [(.c 0), (.c 0), (.c 0), (.c 0), (.c 0), (.c 3)]))) (.br Q42 (.br Q44 (.br Q45 (.br Q47 (.br Q50 (.br Q56 (.br Q97 (.new 1003 Q57 (.new 1004 Q58 (.br Q60 (.br Q61 (.new 1005 Q7 (.new 1006 Q8 (.leaf [(.c 0), (.c 0), (.c 0), (.c 0), (.c 0), (.c 3)]))) (.br Q62 (.br Q64 (.br Q65 (.br Q67 (.br Q70 (.br Q76 (.new 1005 Q77 (.new 1006 Q78 (.leaf [(.c 0), (.c 0), (.c 0), (.c 0), (.c 0), (.c 3)]))) (.new 1005 Q83 (.new 1006 Q84 (.leaf [(.c 0), (.c 0), (.c 0), (.c 0), (.c 0), (.c 3)])))) (.new 1005 Q77 (.new 1006 Q78 (.leaf [(.c 0), (.c 0), (.c 0), (.c 0), (.c 0), (.c 3)])))) (.bad 200)) (.bad 200)) (.bad 200)) (.bad 200))) (.bad 200)))) (.new 1003 Q57 (.new 1004 Q58 (.br Q60 (.br Q61
 (.new 1005 Q7 (.new 1006 Q8 (.leaf [(.c 0), (.c 0), (.c 0), (.c 0), (.c 0), (.c 3)]))) (.br Q62 (.br Q64 (.br Q65 (.br Q67 (.br Q70 (.br Q76 (.new 1005 Q77 (.new 1006 Q78 (.leaf [(.c 0), (.c 0), (.c 0), (.c 0), (.c 0), (.c 3)]))) (.new 1005 Q83 (.new 1006 Q84 (.leaf [(.c 0), (.c 0), (.c 0), (.c 0), (.c 0), (.c 3)])))) (.new 1005 Q77 (.new 1006 Q78 (.leaf [(.c 0), (.c 0), (.c 0), (.c 0), (.c 0), (.c 3)])))) (.bad 200)) (.bad 200)) (.bad 200)) (.bad 200))) (.bad 200))))) (.br Q97 (.new 1003 Q89 (.new 1004 Q90 (.br Q60 (.br Q61 (.new 1005 Q7 (.new 1006 Q8 (.leaf [(.c 0), (.c 0), (.c 0), (.c 0), (.c 0), (.c 3)]))) (.br Q62 (.br Q64 (.br Q65 (.br Q67 (.br Q70 (.br Q76 (.new 1005 Q77 (.new 1006 Q78 (.leaf [(.c 0), (.c 0), (.c 0), (.c 0), (.c 0), (.c 3)]))) (.new 1005 Q83 (.new 1006 Q84 (.leaf
 [(.c 0), (.c 0), (.c 0), (.c 0), (.c 0), (.c 3)])))) (.new 1005 Q77 (.new 1006 Q78 (.leaf [(.c 0), (.c 0), (.c 0), (.c 0), (.c 0), (.c 3)])))) (.bad 200)) (.bad 200)) (.bad 200)) (.bad 200))) (.bad 200)))) (.new 1003 Q89 (.new 1004 Q90 (.br Q60 (.br Q61 (.new 1005 Q7 (.new 1006 Q8 (.leaf [(.c 0), (.c 0), (.c 0), (.c 0), (.c 0), (.c 3)]))) (.br Q62 (.br Q64 (.br Q65 (.br Q67 (.br Q70 (.br Q76 (.br Q98 (.new 1005 Q77 (.new 1006 Q78 (.leaf [(.c 0), (.c 0), (.c 0), (.c 0), (.c 0), (.c 3)]))) (.new 1005 Q77 (.new 1006 Q78 (.leaf [(.c 0), (.c 0), (.c 0), (.c 0), (.c 0), (.c 3)])))) (.br Q98 (.new 1005 Q83 (.new 1006 Q84 (.leaf [(.c 0), (.c 0), (.c 0), (.c 0), (.c 0), (.c 3)]))) (.new 1005 Q83 (.new 1006 Q84 (.br Q99 (.leaf [(.c 0), (.c 0), (.c 0), (.c 0), (.c 0), (.c 3)]) (.br Q101 (.br Q102
 (.leaf [(.c 0), (.c 0), (.c 0), (.c 0), (.c 0), (.c 3)]) (.new 1007 (.f 141 (.cl 1000 0 44) Q103 (tC Q104 (tC Q105 Q1))) (.br Q106 (.leaf [(.c 0), (.c 0), (.c 0), (.c 0), (.c 0), (.cl 1007 0 6)]) (.leaf [(.cl 1000 0 44), Q103, Q104, Q105, (.c 0), (.c 0)])))) (.bad 200))))))) (.br Q98 (.new 1005 Q77 (.new 1006 Q78 (.leaf [(.c 0), (.c 0), (.c 0), (.c 0), (.c 0), (.c 3)]))) (.new 1005 Q77 (.new 1006 Q78 (.leaf [(.c 0), (.c 0), (.c 0), (.c 0), (.c 0), (.c 3)]))))) (.bad 200)) (.bad 200)) (.bad 200)) (.bad 200))) (.bad 200)))))) (.br Q97 (.new 1003 Q57 (.new 1004 Q58 (.br Q60 (.br Q61 (.new 1005 Q7 (.new 1006 Q8 (.leaf [(.c 0), (.c 0), (.c 0), (.c 0), (.c 0), (.c 3)]))) (.br Q62 (.br Q64 (.br Q65 (.br Q67 (.br Q70 (.br Q76 (.new 1005 Q77 (.new 1006 Q78 (.leaf [(.c 0), (.c 0), (.c 0), (.c 0),
 (.c 0), (.c 3)]))) (.new 1005 Q83 (.new 1006 Q84 (.leaf [(.c 0), (.c 0), (.c 0), (.c 0), (.c 0), (.c 3)])))) (.new 1005 Q77 (.new 1006 Q78 (.leaf [(.c 0), (.c 0), (.c 0), (.c 0), (.c 0), (.c 3)])))) (.bad 200)) (.bad 200)) (.bad 200)) (.bad 200))) (.bad 200)))) (.new 1003 Q57 (.new 1004 Q58 (.br Q60 (.br Q61 (.new 1005 Q7 (.new 1006 Q8 (.leaf [(.c 0), (.c 0), (.c 0), (.c 0), (.c 0), (.c 3)]))) (.br Q62 (.br Q64 (.br Q65 (.br Q67 (.br Q70 (.br Q76 (.new 1005 Q77 (.new 1006 Q78 (.leaf [(.c 0), (.c 0), (.c 0), (.c 0), (.c 0), (.c 3)]))) (.new 1005 Q83 (.new 1006 Q84 (.leaf [(.c 0), (.c 0), (.c 0), (.c 0), (.c 0), (.c 3)])))) (.new 1005 Q77 (.new 1006 Q78 (.leaf [(.c 0), (.c 0), (.c 0), (.c 0), (.c 0), (.c 3)])))) (.bad 200)) (.bad 200)) (.bad 200)) (.bad 200))) (.bad 200)))))) (.bad 200))
 (.bad 200)) (.bad 200)) (.bad 200))) (.bad 200))))) (.new 1001 Q37 (.new 1002 Q38 (.br Q40 (.br Q41 (.new 1003 Q7 (.new 1004 Q8 (.leaf [(.c 0), (.c 0), (.c 0), (.c 0), (.c 0), (.c 3)]))) (.br Q42 (.br Q44 (.br Q45 (.br Q47 (.br Q50 (.br Q56 (.new 1003 Q57 (.new 1004 Q58 (.br Q60 (.br Q61 (.new 1005 Q7 (.new 1006 Q8 (.leaf [(.c 0), (.c 0), (.c 0), (.c 0), (.c 0), (.c 3)]))) (.br Q62 (.br Q64 (.br Q65 (.br Q67 (.br Q70 (.br Q76 (.new 1005 Q77 (.new 1006 Q78 (.leaf [(.c 0), (.c 0), (.c 0), (.c 0), (.c 0), (.c 3)]))) (.new 1005 Q83 (.new 1006 Q84 (.leaf [(.c 0), (.c 0), (.c 0), (.c 0), (.c 0), (.c 3)])))) (.new 1005 Q77 (.new 1006 Q78 (.leaf [(.c 0), (.c 0), (.c 0), (.c 0), (.c 0), (.c 3)])))) (.bad 200)) (.bad 200)) (.bad 200)) (.bad 200))) (.bad 200)))) (.new 1003 Q89 (.new 1004 Q90 (.br
 Q60 (.br Q61 (.new 1005 Q7 (.new 1006 Q8 (.leaf [(.c 0), (.c 0), (.c 0), (.c 0), (.c 0), (.c 3)]))) (.br Q62 (.br Q64 (.br Q65 (.br Q67 (.br Q70 (.br Q76 (.new 1005 Q77 (.new 1006 Q78 (.leaf [(.c 0), (.c 0), (.c 0), (.c 0), (.c 0), (.c 3)]))) (.new 1005 Q83 (.new 1006 Q84 (.leaf [(.c 0), (.c 0), (.c 0), (.c 0), (.c 0), (.c 3)])))) (.new 1005 Q77 (.new 1006 Q78 (.leaf [(.c 0), (.c 0), (.c 0), (.c 0), (.c 0), (.c 3)])))) (.bad 200)) (.bad 200)) (.bad 200)) (.bad 200))) (.bad 200))))) (.new 1003 Q57 (.new 1004 Q58 (.br Q60 (.br Q61 (.new 1005 Q7 (.new 1006 Q8 (.leaf [(.c 0), (.c 0), (.c 0), (.c 0), (.c 0), (.c 3)]))) (.br Q62 (.br Q64 (.br Q65 (.br Q67 (.br Q70 (.br Q76 (.new 1005 Q77 (.new 1006 Q78 (.leaf [(.c 0), (.c 0), (.c 0), (.c 0), (.c 0), (.c 3)]))) (.new 1005 Q83 (.new 1006 Q84
 (.leaf [(.c 0), (.c 0), (.c 0), (.c 0), (.c 0), (.c 3)])))) (.new 1005 Q77 (.new 1006 Q78 (.leaf [(.c 0), (.c 0), (.c 0), (.c 0), (.c 0), (.c 3)])))) (.bad 200)) (.bad 200)) (.bad 200)) (.bad 200))) (.bad 200))))) (.bad 200)) (.bad 200)) (.bad 200)) (.bad 200))) (.bad 200))))) (.bad 200)) (.bad 200)) (.bad 200)) (.bad 200))) (.bad 200)) (.br Q9 (.br Q18 (.br Q19 (.new 1001 Q7 (.new 1002 Q8 (.leaf [(.c 0), (.c 0), (.c 0), (.c 0), (.c 0), (.c 3)]))) (.br Q20 (.br Q21 (.br Q22 (.br Q24 (.br Q27 (.br Q36 (.new 1001 Q37 (.new 1002 Q38 (.br Q40 (.br Q41 (.new 1003 Q7 (.new 1004 Q8 (.leaf [(.c 0), (.c 0), (.c 0), (.c 0), (.c 0), (.c 3)]))) (.br Q42 (.br Q44 (.br Q45 (.br Q47 (.br Q50 (.br Q56 (.new 1003 Q57 (.new 1004 Q58 (.leaf [(.c 0), (.c 0), (.c 0), (.c 0), (.c 0), (.c 3)]))) (.new 1003 Q89
 (.new 1004 Q90 (.leaf [(.c 0), (.c 0), (.c 0), (.c 0), (.c 0), (.c 3)])))) (.new 1003 Q57 (.new 1004 Q58 (.leaf [(.c 0), (.c 0), (.c 0), (.c 0), (.c 0), (.c 3)])))) (.bad 200)) (.bad 200)) (.bad 200)) (.bad 200))) (.bad 200)))) (.new 1001 Q95 (.new 1002 Q96 (.br Q40 (.br Q41 (.new 1003 Q7 (.new 1004 Q8 (.leaf [(.c 0), (.c 0), (.c 0), (.c 0), (.c 0), (.c 3)]))) (.br Q42 (.br Q44 (.br Q45 (.br Q47 (.br Q50 (.br Q56 (.br Q97 (.new 1003 Q57 (.new 1004 Q58 (.leaf [(.c 0), (.c 0), (.c 0), (.c 0), (.c 0), (.c 3)]))) (.new 1003 Q57 (.new 1004 Q58 (.leaf [(.c 0), (.c 0), (.c 0), (.c 0), (.c 0), (.c 3)])))) (.br Q97 (.new 1003 Q89 (.new 1004 Q90 (.leaf [(.c 0), (.c 0), (.c 0), (.c 0), (.c 0), (.c 3)]))) (.new 1003 Q89 (.new 1004 Q90 (.br Q98 (.leaf [(.c 0), (.c 0), (.c 0), (.c 0), (.c 0), (.c 3)])
 (.br Q60 (.br Q62 (.leaf [(.c 0), (.c 0), (.c 0), (.c 0), (.c 0), (.c 3)]) (.new 1005 (.f 141 (.cl 1000 0 44) Q103 (tC Q104 Q2)) (.br Q107 (.leaf [(.c 0), (.c 0), (.c 0), (.c 0), (.c 0), (.cl 1005 0 6)]) (.leaf [(.cl 1000 0 44), Q103, Q104, (.c 0), (.c 0), (.c 0)])))) (.bad 200))))))) (.br Q97 (.new 1003 Q57 (.new 1004 Q58 (.leaf [(.c 0), (.c 0), (.c 0), (.c 0), (.c 0), (.c 3)]))) (.new 1003 Q57 (.new 1004 Q58 (.leaf [(.c 0), (.c 0), (.c 0), (.c 0), (.c 0), (.c 3)]))))) (.bad 200)) (.bad 200)) (.bad 200)) (.bad 200))) (.bad 200))))) (.new 1001 Q37 (.new 1002 Q38 (.br Q40 (.br Q41 (.new 1003 Q7 (.new 1004 Q8 (.leaf [(.c 0), (.c 0), (.c 0), (.c 0), (.c 0), (.c 3)]))) (.br Q42 (.br Q44 (.br Q45 (.br Q47 (.br Q50 (.br Q56 (.new 1003 Q57 (.new 1004 Q58 (.leaf [(.c 0), (.c 0), (.c 0), (.c 0),
 (.c 0), (.c 3)]))) (.new 1003 Q89 (.new 1004 Q90 (.leaf [(.c 0), (.c 0), (.c 0), (.c 0), (.c 0), (.c 3)])))) (.new 1003 Q57 (.new 1004 Q58 (.leaf [(.c 0), (.c 0), (.c 0), (.c 0), (.c 0), (.c 3)])))) (.bad 200)) (.bad 200)) (.bad 200)) (.bad 200))) (.bad 200))))) (.bad 200)) (.bad 200)) (.bad 200)) (.bad 200))) (.bad 200)) (.br Q10 (.br Q18 (.br Q19 (.new 1001 Q7 (.new 1002 Q8 (.leaf [(.c 0), (.c 0), (.c 0), (.c 0), (.c 0), (.c 3)]))) (.br Q20 (.br Q21 (.br Q22 (.br Q24 (.br Q27 (.br Q36 (.new 1001 Q37 (.new 1002 Q38 (.br Q40 (.br Q41 (.new 1003 Q7 (.new 1004 Q8 (.leaf [(.c 0), (.c 0), (.c 0), (.c 0), (.c 0), (.c 3)]))) (.br Q42 (.br Q44 (.br Q45 (.br Q47 (.br Q50 (.br Q56 (.new 1003 Q57 (.new 1004 Q58 (.br Q60 (.br Q61 (.new 1005 Q7 (.new 1006 Q8 (.leaf [(.c 0), (.c 0), (.c 0), (.c 0),
 (.c 0), (.c 3)]))) (.br Q62 (.br Q64 (.br Q65 (.br Q67 (.new 1005 Q77 (.new 1006 Q78 (.leaf [(.c 0), (.c 0), (.c 0), (.c 0), (.c 0), (.c 3)]))) (.bad 200)) (.bad 200)) (.bad 200)) (.bad 200))) (.bad 200)))) (.new 1003 Q89 (.new 1004 Q90 (.br Q60 (.br Q61 (.new 1005 Q7 (.new 1006 Q8 (.leaf [(.c 0), (.c 0), (.c 0), (.c 0), (.c 0), (.c 3)]))) (.br Q62 (.br Q64 (.br Q65 (.br Q67 (.new 1005 Q77 (.new 1006 Q78 (.leaf [(.c 0), (.c 0), (.c 0), (.c 0), (.c 0), (.c 3)]))) (.bad 200)) (.bad 200)) (.bad 200)) (.bad 200))) (.bad 200))))) (.new 1003 Q57 (.new 1004 Q58 (.br Q60 (.br Q61 (.new 1005 Q7 (.new 1006 Q8 (.leaf [(.c 0), (.c 0), (.c 0), (.c 0), (.c 0), (.c 3)]))) (.br Q62 (.br Q64 (.br Q65 (.br Q67 (.new 1005 Q77 (.new 1006 Q78 (.leaf [(.c 0), (.c 0), (.c 0), (.c 0), (.c 0), (.c 3)]))) (.bad
 200)) (.bad 200)) (.bad 200)) (.bad 200))) (.bad 200))))) (.bad 200)) (.bad 200)) (.bad 200)) (.bad 200))) (.bad 200)))) (.new 1001 Q95 (.new 1002 Q96 (.br Q40 (.br Q41 (.new 1003 Q7 (.new 1004 Q8 (.leaf [(.c 0), (.c 0), (.c 0), (.c 0), (.c 0), (.c 3)]))) (.br Q42 (.br Q44 (.br Q45 (.br Q47 (.br Q50 (.br Q56 (.br Q97 (.new 1003 Q57 (.new 1004 Q58 (.br Q60 (.br Q61 (.new 1005 Q7 (.new 1006 Q8 (.leaf [(.c 0), (.c 0), (.c 0), (.c 0), (.c 0), (.c 3)]))) (.br Q62 (.br Q64 (.br Q65 (.br Q67 (.new 1005 Q77 (.new 1006 Q78 (.leaf [(.c 0), (.c 0), (.c 0), (.c 0), (.c 0), (.c 3)]))) (.bad 200)) (.bad 200)) (.bad 200)) (.bad 200))) (.bad 200)))) (.new 1003 Q57 (.new 1004 Q58 (.br Q60 (.br Q61 (.new 1005 Q7 (.new 1006 Q8 (.leaf [(.c 0), (.c 0), (.c 0), (.c 0), (.c 0), (.c 3)]))) (.br Q62 (.br Q64
 (.br Q65 (.br Q67 (.new 1005 Q77 (.new 1006 Q78 (.leaf [(.c 0), (.c 0), (.c 0), (.c 0), (.c 0), (.c 3)]))) (.bad 200)) (.bad 200)) (.bad 200)) (.bad 200))) (.bad 200))))) (.br Q97 (.new 1003 Q89 (.new 1004 Q90 (.br Q60 (.br Q61 (.new 1005 Q7 (.new 1006 Q8 (.leaf [(.c 0), (.c 0), (.c 0), (.c 0), (.c 0), (.c 3)]))) (.br Q62 (.br Q64 (.br Q65 (.br Q67 (.new 1005 Q77 (.new 1006 Q78 (.leaf [(.c 0), (.c 0), (.c 0), (.c 0), (.c 0), (.c 3)]))) (.bad 200)) (.bad 200)) (.bad 200)) (.bad 200))) (.bad 200)))) (.new 1003 Q89 (.new 1004 Q90 (.br Q60 (.br Q61 (.new 1005 Q7 (.new 1006 Q8 (.leaf [(.c 0), (.c 0), (.c 0), (.c 0), (.c 0), (.c 3)]))) (.br Q62 (.br Q64 (.br Q65 (.br Q67 (.new 1005 Q77 (.new 1006 Q78 (.br Q98 (.leaf [(.c 0), (.c 0), (.c 0), (.c 0), (.c 0), (.c 3)]) (.br Q99 (.leaf [(.c 0), (.c
 0), (.c 0), (.c 0), (.c 0), (.c 3)]) (.br Q101 (.br Q102 (.leaf [(.c 0), (.c 0), (.c 0), (.c 0), (.c 0), (.c 3)]) (.new 1007 Q111 (.br Q106 (.leaf [(.c 0), (.c 0), (.c 0), (.c 0), (.c 0), (.cl 1007 0 6)]) (.leaf [(.cl 1000 0 44), Q103, Q104, (.c 0), Q105, (.c 0)])))) (.bad 200)))))) (.bad 200)) (.bad 200)) (.bad 200)) (.bad 200))) (.bad 200)))))) (.br Q97 (.new 1003 Q57 (.new 1004 Q58 (.br Q60 (.br Q61 (.new 1005 Q7 (.new 1006 Q8 (.leaf [(.c 0), (.c 0), (.c 0), (.c 0), (.c 0), (.c 3)]))) (.br Q62 (.br Q64 (.br Q65 (.br Q67 (.new 1005 Q77 (.new 1006 Q78 (.leaf [(.c 0), (.c 0), (.c 0), (.c 0), (.c 0), (.c 3)]))) (.bad 200)) (.bad 200)) (.bad 200)) (.bad 200))) (.bad 200)))) (.new 1003 Q57 (.new 1004 Q58 (.br Q60 (.br Q61 (.new 1005 Q7 (.new 1006 Q8 (.leaf [(.c 0), (.c 0), (.c 0), (.c 0),
 (.c 0), (.c 3)]))) (.br Q62 (.br Q64 (.br Q65 (.br Q67 (.new 1005 Q77 (.new 1006 Q78 (.leaf [(.c 0), (.c 0), (.c 0), (.c 0), (.c 0), (.c 3)]))) (.bad 200)) (.bad 200)) (.bad 200)) (.bad 200))) (.bad 200)))))) (.bad 200)) (.bad 200)) (.bad 200)) (.bad 200))) (.bad 200))))) (.new 1001 Q37 (.new 1002 Q38 (.br Q40 (.br Q41 (.new 1003 Q7 (.new 1004 Q8 (.leaf [(.c 0), (.c 0), (.c 0), (.c 0), (.c 0), (.c 3)]))) (.br Q42 (.br Q44 (.br Q45 (.br Q47 (.br Q50 (.br Q56 (.new 1003 Q57 (.new 1004 Q58 (.br Q60 (.br Q61 (.new 1005 Q7 (.new 1006 Q8 (.leaf [(.c 0), (.c 0), (.c 0), (.c 0), (.c 0), (.c 3)]))) (.br Q62 (.br Q64 (.br Q65 (.br Q67 (.new 1005 Q77 (.new 1006 Q78 (.leaf [(.c 0), (.c 0), (.c 0), (.c 0), (.c 0), (.c 3)]))) (.bad 200)) (.bad 200)) (.bad 200)) (.bad 200))) (.bad 200)))) (.new 1003
 Q89 (.new 1004 Q90 (.br Q60 (.br Q61 (.new 1005 Q7 (.new 1006 Q8 (.leaf [(.c 0), (.c 0), (.c 0), (.c 0), (.c 0), (.c 3)]))) (.br Q62 (.br Q64 (.br Q65 (.br Q67 (.new 1005 Q77 (.new 1006 Q78 (.leaf [(.c 0), (.c 0), (.c 0), (.c 0), (.c 0), (.c 3)]))) (.bad 200)) (.bad 200)) (.bad 200)) (.bad 200))) (.bad 200))))) (.new 1003 Q57 (.new 1004 Q58 (.br Q60 (.br Q61 (.new 1005 Q7 (.new 1006 Q8 (.leaf [(.c 0), (.c 0), (.c 0), (.c 0), (.c 0), (.c 3)]))) (.br Q62 (.br Q64 (.br Q65 (.br Q67 (.new 1005 Q77 (.new 1006 Q78 (.leaf [(.c 0), (.c 0), (.c 0), (.c 0), (.c 0), (.c 3)]))) (.bad 200)) (.bad 200)) (.bad 200)) (.bad 200))) (.bad 200))))) (.bad 200)) (.bad 200)) (.bad 200)) (.bad 200))) (.bad 200))))) (.bad 200)) (.bad 200)) (.bad 200)) (.bad 200))) (.bad 200)) (.br Q11 (.br Q18 (.br Q19 (.new
 1001 Q7 (.new 1002 Q8 (.leaf [(.c 0), (.c 0), (.c 0), (.c 0), (.c 0), (.c 3)]))) (.br Q20 (.br Q21 (.br Q22 (.br Q24 (.br Q27 (.br Q36 (.new 1001 Q37 (.new 1002 Q38 (.br Q40 (.br Q41 (.new 1003 Q7 (.new 1004 Q8 (.leaf [(.c 0), (.c 0), (.c 0), (.c 0), (.c 0), (.c 3)]))) (.br Q42 (.br Q44 (.br Q45 (.br Q47 (.new 1003 Q57 (.new 1004 Q58 (.leaf [(.c 0), (.c 0), (.c 0), (.c 0), (.c 0), (.c 3)]))) (.bad 200)) (.bad 200)) (.bad 200)) (.bad 200))) (.bad 200)))) (.new 1001 Q95 (.new 1002 Q96 (.br Q40 (.br Q41 (.new 1003 Q7 (.new 1004 Q8 (.leaf [(.c 0), (.c 0), (.c 0), (.c 0), (.c 0), (.c 3)]))) (.br Q42 (.br Q44 (.br Q45 (.br Q47 (.new 1003 Q57 (.new 1004 Q58 (.br Q97 (.leaf [(.c 0), (.c 0), (.c 0), (.c 0), (.c 0), (.c 3)]) (.br Q98 (.leaf [(.c 0), (.c 0), (.c 0), (.c 0), (.c 0), (.c 3)]) (.br
 Q60 (.br Q62 (.leaf [(.c 0), (.c 0), (.c 0), (.c 0), (.c 0), (.c 3)]) (.new 1005 Q115 (.br Q107 (.leaf [(.c 0), (.c 0), (.c 0), (.c 0), (.c 0), (.cl 1005 0 6)]) (.leaf [(.cl 1000 0 44), Q103, (.c 0), (.c 0), Q104, (.c 0)])))) (.bad 200)))))) (.bad 200)) (.bad 200)) (.bad 200)) (.bad 200))) (.bad 200))))) (.new 1001 Q37 (.new 1002 Q38 (.br Q40 (.br Q41 (.new 1003 Q7 (.new 1004 Q8 (.leaf [(.c 0), (.c 0), (.c 0), (.c 0), (.c 0), (.c 3)]))) (.br Q42 (.br Q44 (.br Q45 (.br Q47 (.new 1003 Q57 (.new 1004 Q58 (.leaf [(.c 0), (.c 0), (.c 0), (.c 0), (.c 0), (.c 3)]))) (.bad 200)) (.bad 200)) (.bad 200)) (.bad 200))) (.bad 200))))) (.bad 200)) (.bad 200)) (.bad 200)) (.bad 200))) (.bad 200)) (.br Q12 (.br Q18 (.br Q19 (.new 1001 Q7 (.new 1002 Q8 (.leaf [(.c 0), (.c 0), (.c 0), (.c 0), (.c 0), (.c
 3)]))) (.br Q20 (.br Q21 (.br Q22 (.br Q24 (.br Q27 (.br Q36 (.new 1001 Q37 (.new 1002 Q38 (.br Q40 (.br Q41 (.new 1003 Q7 (.new 1004 Q8 (.leaf [(.c 0), (.c 0), (.c 0), (.c 0), (.c 0), (.c 3)]))) (.br Q42 (.br Q44 (.br Q45 (.br Q47 (.new 1003 Q57 (.new 1004 Q58 (.leaf [(.c 0), (.c 0), (.c 0), (.c 0), (.c 0), (.c 3)]))) (.bad 200)) (.bad 200)) (.bad 200)) (.bad 200))) (.bad 200)))) (.new 1001 Q95 (.new 1002 Q96 (.br Q40 (.br Q41 (.new 1003 Q7 (.new 1004 Q8 (.leaf [(.c 0), (.c 0), (.c 0), (.c 0), (.c 0), (.c 3)]))) (.br Q42 (.br Q44 (.br Q45 (.br Q47 (.new 1003 Q57 (.new 1004 Q58 (.br Q97 (.leaf [(.c 0), (.c 0), (.c 0), (.c 0), (.c 0), (.c 3)]) (.br Q98 (.leaf [(.c 0), (.c 0), (.c 0), (.c 0), (.c 0), (.c 3)]) (.br Q60 (.br Q62 (.leaf [(.c 0), (.c 0), (.c 0), (.c 0), (.c 0), (.c 3)]) (.new
 1005 Q115 (.br Q107 (.leaf [(.c 0), (.c 0), (.c 0), (.c 0), (.c 0), (.cl 1005 0 6)]) (.leaf [(.cl 1000 0 44), Q103, (.c 0), (.c 0), Q104, (.c 0)])))) (.bad 200)))))) (.bad 200)) (.bad 200)) (.bad 200)) (.bad 200))) (.bad 200))))) (.new 1001 Q37 (.new 1002 Q38 (.br Q40 (.br Q41 (.new 1003 Q7 (.new 1004 Q8 (.leaf [(.c 0), (.c 0), (.c 0), (.c 0), (.c 0), (.c 3)]))) (.br Q42 (.br Q44 (.br Q45 (.br Q47 (.new 1003 Q57 (.new 1004 Q58 (.leaf [(.c 0), (.c 0), (.c 0), (.c 0), (.c 0), (.c 3)]))) (.bad 200)) (.bad 200)) (.bad 200)) (.bad 200))) (.bad 200))))) (.bad 200)) (.bad 200)) (.bad 200)) (.bad 200))) (.bad 200)) (.br Q13 (.br Q18 (.br Q19 (.new 1001 Q7 (.new 1002 Q8 (.leaf [(.c 0), (.c 0), (.c 0), (.c 0), (.c 0), (.c 3)]))) (.br Q20 (.br Q21 (.br Q22 (.br Q24 (.br Q27 (.br Q36 (.new 1001 Q37
 (.new 1002 Q38 (.br Q40 (.br Q41 (.new 1003 Q7 (.new 1004 Q8 (.leaf [(.c 0), (.c 0), (.c 0), (.c 0), (.c 0), (.c 3)]))) (.br Q42 (.br Q44 (.br Q45 (.br Q47 (.br Q50 (.br Q56 (.new 1003 Q57 (.new 1004 Q58 (.br Q60 (.br Q61 (.new 1005 Q7 (.new 1006 Q8 (.leaf [(.c 0), (.c 0), (.c 0), (.c 0), (.c 0), (.c 3)]))) (.br Q62 (.br Q64 (.br Q65 (.br Q67 (.new 1005 Q77 (.new 1006 Q78 (.leaf [(.c 0), (.c 0), (.c 0), (.c 0), (.c 0), (.c 3)]))) (.bad 200)) (.bad 200)) (.bad 200)) (.bad 200))) (.bad 200)))) (.new 1003 Q89 (.new 1004 Q90 (.br Q60 (.br Q61 (.new 1005 Q7 (.new 1006 Q8 (.leaf [(.c 0), (.c 0), (.c 0), (.c 0), (.c 0), (.c 3)]))) (.br Q62 (.br Q64 (.br Q65 (.br Q67 (.new 1005 Q77 (.new 1006 Q78 (.leaf [(.c 0), (.c 0), (.c 0), (.c 0), (.c 0), (.c 3)]))) (.bad 200)) (.bad 200)) (.bad 200)) (.bad
 200))) (.bad 200))))) (.new 1003 Q57 (.new 1004 Q58 (.br Q60 (.br Q61 (.new 1005 Q7 (.new 1006 Q8 (.leaf [(.c 0), (.c 0), (.c 0), (.c 0), (.c 0), (.c 3)]))) (.br Q62 (.br Q64 (.br Q65 (.br Q67 (.new 1005 Q77 (.new 1006 Q78 (.leaf [(.c 0), (.c 0), (.c 0), (.c 0), (.c 0), (.c 3)]))) (.bad 200)) (.bad 200)) (.bad 200)) (.bad 200))) (.bad 200))))) (.bad 200)) (.bad 200)) (.bad 200)) (.bad 200))) (.bad 200)))) (.new 1001 Q95 (.new 1002 Q96 (.br Q40 (.br Q41 (.new 1003 Q7 (.new 1004 Q8 (.leaf [(.c 0), (.c 0), (.c 0), (.c 0), (.c 0), (.c 3)]))) (.br Q42 (.br Q44 (.br Q45 (.br Q47 (.br Q50 (.br Q56 (.br Q97 (.new 1003 Q57 (.new 1004 Q58 (.br Q60 (.br Q61 (.new 1005 Q7 (.new 1006 Q8 (.leaf [(.c 0), (.c 0), (.c 0), (.c 0), (.c 0), (.c 3)]))) (.br Q62 (.br Q64 (.br Q65 (.br Q67 (.new 1005 Q77 (.new
 1006 Q78 (.leaf [(.c 0), (.c 0), (.c 0), (.c 0), (.c 0), (.c 3)]))) (.bad 200)) (.bad 200)) (.bad 200)) (.bad 200))) (.bad 200)))) (.new 1003 Q57 (.new 1004 Q58 (.br Q60 (.br Q61 (.new 1005 Q7 (.new 1006 Q8 (.leaf [(.c 0), (.c 0), (.c 0), (.c 0), (.c 0), (.c 3)]))) (.br Q62 (.br Q64 (.br Q65 (.br Q67 (.new 1005 Q77 (.new 1006 Q78 (.leaf [(.c 0), (.c 0), (.c 0), (.c 0), (.c 0), (.c 3)]))) (.bad 200)) (.bad 200)) (.bad 200)) (.bad 200))) (.bad 200))))) (.br Q97 (.new 1003 Q89 (.new 1004 Q90 (.br Q60 (.br Q61 (.new 1005 Q7 (.new 1006 Q8 (.leaf [(.c 0), (.c 0), (.c 0), (.c 0), (.c 0), (.c 3)]))) (.br Q62 (.br Q64 (.br Q65 (.br Q67 (.new 1005 Q77 (.new 1006 Q78 (.leaf [(.c 0), (.c 0), (.c 0), (.c 0), (.c 0), (.c 3)]))) (.bad 200)) (.bad 200)) (.bad 200)) (.bad 200))) (.bad 200)))) (.new 1003
 Q89 (.new 1004 Q90 (.br Q60 (.br Q61 (.new 1005 Q7 (.new 1006 Q8 (.leaf [(.c 0), (.c 0), (.c 0), (.c 0), (.c 0), (.c 3)]))) (.br Q62 (.br Q64 (.br Q65 (.br Q67 (.new 1005 Q77 (.new 1006 Q78 (.br Q98 (.leaf [(.c 0), (.c 0), (.c 0), (.c 0), (.c 0), (.c 3)]) (.br Q99 (.leaf [(.c 0), (.c 0), (.c 0), (.c 0), (.c 0), (.c 3)]) (.br Q101 (.br Q102 (.leaf [(.c 0), (.c 0), (.c 0), (.c 0), (.c 0), (.c 3)]) (.new 1007 Q111 (.br Q106 (.leaf [(.c 0), (.c 0), (.c 0), (.c 0), (.c 0), (.cl 1007 0 6)]) (.leaf [(.cl 1000 0 44), Q103, Q104, (.c 0), Q105, (.c 0)])))) (.bad 200)))))) (.bad 200)) (.bad 200)) (.bad 200)) (.bad 200))) (.bad 200)))))) (.br Q97 (.new 1003 Q57 (.new 1004 Q58 (.br Q60 (.br Q61 (.new 1005 Q7 (.new 1006 Q8 (.leaf [(.c 0), (.c 0), (.c 0), (.c 0), (.c 0), (.c 3)]))) (.br Q62 (.br Q64
 (.br Q65 (.br Q67 (.new 1005 Q77 (.new 1006 Q78 (.leaf [(.c 0), (.c 0), (.c 0), (.c 0), (.c 0), (.c 3)]))) (.bad 200)) (.bad 200)) (.bad 200)) (.bad 200))) (.bad 200)))) (.new 1003 Q57 (.new 1004 Q58 (.br Q60 (.br Q61 (.new 1005 Q7 (.new 1006 Q8 (.leaf [(.c 0), (.c 0), (.c 0), (.c 0), (.c 0), (.c 3)]))) (.br Q62 (.br Q64 (.br Q65 (.br Q67 (.new 1005 Q77 (.new 1006 Q78 (.leaf [(.c 0), (.c 0), (.c 0), (.c 0), (.c 0), (.c 3)]))) (.bad 200)) (.bad 200)) (.bad 200)) (.bad 200))) (.bad 200)))))) (.bad 200)) (.bad 200)) (.bad 200)) (.bad 200))) (.bad 200))))) (.new 1001 Q37 (.new 1002 Q38 (.br Q40 (.br Q41 (.new 1003 Q7 (.new 1004 Q8 (.leaf [(.c 0), (.c 0), (.c 0), (.c 0), (.c 0), (.c 3)]))) (.br Q42 (.br Q44 (.br Q45 (.br Q47 (.br Q50 (.br Q56 (.new 1003 Q57 (.new 1004 Q58 (.br Q60 (.br Q61
 (.new 1005 Q7 (.new 1006 Q8 (.leaf [(.c 0), (.c 0), (.c 0), (.c 0), (.c 0), (.c 3)]))) (.br Q62 (.br Q64 (.br Q65 (.br Q67 (.new 1005 Q77 (.new 1006 Q78 (.leaf [(.c 0), (.c 0), (.c 0), (.c 0), (.c 0), (.c 3)]))) (.bad 200)) (.bad 200)) (.bad 200)) (.bad 200))) (.bad 200)))) (.new 1003 Q89 (.new 1004 Q90 (.br Q60 (.br Q61 (.new 1005 Q7 (.new 1006 Q8 (.leaf [(.c 0), (.c 0), (.c 0), (.c 0), (.c 0), (.c 3)]))) (.br Q62 (.br Q64 (.br Q65 (.br Q67 (.new 1005 Q77 (.new 1006 Q78 (.leaf [(.c 0), (.c 0), (.c 0), (.c 0), (.c 0), (.c 3)]))) (.bad 200)) (.bad 200)) (.bad 200)) (.bad 200))) (.bad 200))))) (.new 1003 Q57 (.new 1004 Q58 (.br Q60 (.br Q61 (.new 1005 Q7 (.new 1006 Q8 (.leaf [(.c 0), (.c 0), (.c 0), (.c 0), (.c 0), (.c 3)]))) (.br Q62 (.br Q64 (.br Q65 (.br Q67 (.new 1005 Q77 (.new 1006
 Q78 (.leaf [(.c 0), (.c 0), (.c 0), (.c 0), (.c 0), (.c 3)]))) (.bad 200)) (.bad 200)) (.bad 200)) (.bad 200))) (.bad 200))))) (.bad 200)) (.bad 200)) (.bad 200)) (.bad 200))) (.bad 200))))) (.bad 200)) (.bad 200)) (.bad 200)) (.bad 200))) (.bad 200)) (.br Q14 (.br Q18 (.br Q19 (.new 1001 Q7 (.new 1002 Q8 (.leaf [(.c 0), (.c 0), (.c 0), (.c 0), (.c 0), (.c 3)]))) (.br Q20 (.br Q21 (.br Q22 (.br Q24 (.new 1001 Q37 (.new 1002 Q38 (.br Q97 (.leaf [(.c 0), (.c 0), (.c 0), (.c 0), (.c 0), (.c 3)]) (.br Q40 (.br Q42 (.leaf [(.c 0), (.c 0), (.c 0), (.c 0), (.c 0), (.c 3)]) (.new 1003 (.f 141 (.cl 1000 0 44) (.c 0) (tC (.c 0) (tC (.c 0) (tC Q103 (.c 0))))) (.br Q116 (.leaf [(.c 0), (.c 0), (.c 0), (.c 0), (.c 0), (.cl 1003 0 6)]) (.leaf [(.cl 1000 0 44), (.c 0), (.c 0), (.c 0), Q103, (.c 0)]))))
 (.bad 200))))) (.bad 200)) (.bad 200)) (.bad 200)) (.bad 200))) (.bad 200)) (.br Q15 (.br Q18 (.br Q19 (.new 1001 Q7 (.new 1002 Q8 (.leaf [(.c 0), (.c 0), (.c 0), (.c 0), (.c 0), (.c 3)]))) (.br Q20 (.br Q21 (.br Q22 (.br Q24 (.br Q27 (.br Q36 (.new 1001 Q37 (.new 1002 Q38 (.leaf [(.c 0), (.c 0), (.c 0), (.c 0), (.c 0), (.c 3)]))) (.new 1001 Q95 (.new 1002 Q96 (.br Q97 (.leaf [(.c 0), (.c 0), (.c 0), (.c 0), (.c 0), (.c 3)]) (.br Q40 (.br Q42 (.leaf [(.c 0), (.c 0), (.c 0), (.c 0), (.c 0), (.c 3)]) (.new 1003 (.f 141 (.cl 1000 0 44) (.c 0) (tC Q103 Q2)) (.br Q116 (.leaf [(.c 0), (.c 0), (.c 0), (.c 0), (.c 0), (.cl 1003 0 6)]) (.leaf [(.cl 1000 0 44), (.c 0), Q103, (.c 0), (.c 0), (.c 0)])))) (.bad 200)))))) (.new 1001 Q37 (.new 1002 Q38 (.leaf [(.c 0), (.c 0), (.c 0), (.c 0), (.c 0),
 (.c 3)])))) (.bad 200)) (.bad 200)) (.bad 200)) (.bad 200))) (.bad 200)) (.br Q18 (.br Q20 (.leaf [(.c 0), (.c 0), (.c 0), (.c 0), (.c 0), (.c 3)]) (.new 1001 (.f 141 (.cl 1000 0 44) (.c 0) (tC (.c 0) Q2)) (.br (tn (.cl 1001 0 6) (.c 0)) (.leaf [(.c 0), (.c 0), (.c 0), (.c 0), (.c 0), (.cl 1001 0 6)]) (.leaf [(.cl 1000 0 44), (.c 0), (.c 0), (.c 0), (.c 0), (.c 0)])))) (.bad 200))))))))))) (.leaf [(.c 0), (.c 0), (.c 0), (.c 0), (.c 0), (.c 3)]))) (.bad 200)) (.bad 200))) (.bad 200))
noncomputable def sq0 (a : Int) : Int := (kZ ((qQj (rdZ (wrdC a) (1 + 1))) - 1) (kZ (qQy (rdZ (rdZ (wrdC a) (1 + 1)) 1) 1) 0))
noncomputable def sq1 (a : Int) : Int := (kZ ((qQj (rdZ (wrdC a) ((1 + 1) + 1))) - 1) (kZ (qQy (rdZ (rdZ (wrdC a) ((1 + 1) + 1)) 1) 1) 0))
noncomputable def sq2 (a : Int) : Int := (PL (((1 + 1) + 1) + ((((wrdN a) - 1) - 1) - 1)) (wrdN a))
noncomputable def sq3 (a : Int) : Int := (Pe (seqZ (kZ 1 (kZ (qQy (rdZ (rdZ (wrdC a) ((1 + 1) + 1)) 1) 0) 0)) (kZ 1 (kZ (kZ 114 0) 0))) 0)
noncomputable def sq4 (a : Int) : Int := (Pe (seqZ (kZ 1 (kZ (qQy (rdZ (rdZ (wrdC a) (1 + 1)) 1) 0) 0)) (kZ 1 (kZ (kZ 114 0) 0))) 0)
noncomputable def sq5 (a : Int) : Int := (kZ ((qQj (rdZ (wrdC a) 1)) - 1) (kZ (qQy (rdZ (rdZ (wrdC a) 1) 1) 1) 0))
noncomputable def sq6 (a : Int) : Int := (Pe (seqZ (kZ 1 (kZ (qQy (rdZ (rdZ (wrdC a) 1) 1) 0) 0)) (kZ 1 (kZ (kZ 114 0) 0))) 0)
def sL0 (a z0 z2 z4 z6 z8 z10 : Int) : Prop := (z0 : Int) = (parZ a 0) ∧ (z2 : Int) = (parZ a 1) ∧ (z4 : Int) = (parZ a 2) ∧ (z6 : Int) = (parZ a 3) ∧ (z8 : Int) = (parZ a 4) ∧ (z10 : Int) = (parE a) ∧ True
def sq7 (a : Int) : Prop := (Pm (PL 0 ((((wrdN a) - 1) - 1) - 1)) (Pb (Pe ((((wrdN a) - 1) - 1) - 1) 0) (Pn (numZ (kZ 0 (kZ 0 0))) (-999999999) 999999999 fun y5 => Pn (numK (kZ 0 (kZ 0 0))) 0 1 fun y6 => (sL0 a 0 0 0 0 0 3)) (Pm (Pl 0 ((((wrdN a) - 1) - 1) - 1)) (Pm (Pl ((1 + 1) + 1) (wrdN a)) (Pm (PL 1 ((((wrdN a) - 1) - 1) - 1)) (Pm (sq2 a) (Pn (numZ (rdZ (wrdC a) ((1 + 1) + 1))) (-999999999) 999999999 fun y5 => Pn (numK (rdZ (wrdC a) ((1 + 1) + 1))) 0 1 fun y6 => (sL0 a 0 0 0 0 0 3))))))))
def sq8 (a : Int) : Prop := (Pm (PL 0 ((((wrdN a) - 1) - 1) - 1)) (Pb (Pe ((((wrdN a) - 1) - 1) - 1) 0) (Pn (numZ (kZ 0 (kZ 0 0))) (-999999999) 999999999 fun y5 => Pn (numK (kZ 0 (kZ 0 0))) 0 1 fun y6 => (sL0 a 0 0 0 0 0 3)) (Pm (Pl 0 ((((wrdN a) - 1) - 1) - 1)) (Pm (Pl ((1 + 1) + 1) (wrdN a)) (Pm (PL 1 ((((wrdN a) - 1) - 1) - 1)) (Pm (sq2 a) (Pb (PL 1 (qQj (rdZ (wrdC a) ((1 + 1) + 1)))) (Pb (sq3 a) (Pn (numZ (rdZ (wrdC a) ((1 + 1) + 1))) (-999999999) 999999999 fun y5 => Pn (numK (rdZ (wrdC a) ((1 + 1) + 1))) 0 1 fun y6 => (sL0 a 0 0 0 0 0 3)) (Pn (numZ (sq1 a)) (-999999999) 999999999 fun y5 => Pn (numK (sq1 a)) 0 1 fun y6 => (sL0 a 0 0 0 0 0 3))) (Pn (numZ (rdZ (wrdC a) ((1 + 1) + 1))) (-999999999) 999999999 fun y5 => Pn (numK (rdZ (wrdC a) ((1 + 1) + 1))) 0 1 fun y6 => (sL0 a 0 0 0 0
 0 3)))))))))
def sq9 (a y0 : Int) : Prop := (Pm (PL 0 ((wrdN a) - 1)) (Pb (Pe ((wrdN a) - 1) 0) (Pn (numZ (kZ 0 (kZ 0 0))) (-999999999) 999999999 fun y1 => Pn (numK (kZ 0 (kZ 0 0))) 0 1 fun y2 => (sL0 a 0 0 0 0 0 3)) (Pm (Pl 0 ((wrdN a) - 1)) (Pm (Pl 1 (wrdN a)) (Pm (PL 1 ((wrdN a) - 1)) (Pm (PL (1 + ((wrdN a) - 1)) (wrdN a)) (Pb (PL 1 (qQj (rdZ (wrdC a) 1))) (Pb (sq6 a) (Pn (numZ (rdZ (wrdC a) 1)) (-999999999) 999999999 fun y1 => Pn (numK (rdZ (wrdC a) 1)) 0 1 fun y2 => (Pm (PL 0 (((wrdN a) - 1) - 1)) (Pb (Pe (((wrdN a) - 1) - 1) 0) (Pn (numZ (kZ 0 (kZ 0 0))) (-999999999) 999999999 fun y3 => Pn (numK (kZ 0 (kZ 0 0))) 0 1 fun y4 => (sL0 a 0 0 0 0 0 3)) (Pm (Pl 0 (((wrdN a) - 1) - 1)) (Pm (Pl (1 + 1) (wrdN a)) (Pm (PL 1 (((wrdN a) - 1) - 1)) (Pm (PL ((1 + 1) + (((wrdN a) - 1) - 1)) (wrdN a)) (Pb (PL
 1 (qQj (rdZ (wrdC a) (1 + 1)))) (Pb (sq4 a) (Pn (numZ (rdZ (wrdC a) (1 + 1))) (-999999999) 999999999 fun y3 => Pn (numK (rdZ (wrdC a) (1 + 1))) 0 1 fun y4 => (sq7 a)) (Pn (numZ (sq0 a)) (-999999999) 999999999 fun y3 => Pn (numK (sq0 a)) 0 1 fun y4 => (sq7 a))) (Pn (numZ (rdZ (wrdC a) (1 + 1))) (-999999999) 999999999 fun y3 => Pn (numK (rdZ (wrdC a) (1 + 1))) 0 1 fun y4 => (sq7 a)))))))))) (Pn (numZ (sq5 a)) (-999999999) 999999999 fun y1 => Pn (numK (sq5 a)) 0 1 fun y2 => (Pm (PL 0 (((wrdN a) - 1) - 1)) (Pb (Pe (((wrdN a) - 1) - 1) 0) (Pn (numZ (kZ 0 (kZ 0 0))) (-999999999) 999999999 fun y3 => Pn (numK (kZ 0 (kZ 0 0))) 0 1 fun y4 => (sL0 a 0 0 0 0 0 3)) (Pm (Pl 0 (((wrdN a) - 1) - 1)) (Pm (Pl (1 + 1) (wrdN a)) (Pm (PL 1 (((wrdN a) - 1) - 1)) (Pm (PL ((1 + 1) + (((wrdN a) - 1) - 1))
 (wrdN a)) (Pb (PL 1 (qQj (rdZ (wrdC a) (1 + 1)))) (Pb (sq4 a) (Pb (Pe y2 0) (Pn (numZ (rdZ (wrdC a) (1 + 1))) (-999999999) 999999999 fun y3 => Pn (numK (rdZ (wrdC a) (1 + 1))) 0 1 fun y4 => (sq7 a)) (Pn (numZ (rdZ (wrdC a) (1 + 1))) (-999999999) 999999999 fun y3 => Pn (numK (rdZ (wrdC a) (1 + 1))) 0 1 fun y4 => (sq7 a))) (Pb (Pe y2 0) (Pn (numZ (sq0 a)) (-999999999) 999999999 fun y3 => Pn (numK (sq0 a)) 0 1 fun y4 => (sq7 a)) (Pn (numZ (sq0 a)) (-999999999) 999999999 fun y3 => Pn (numK (sq0 a)) 0 1 fun y4 => (Pm (PL 0 ((((wrdN a) - 1) - 1) - 1)) (Pb (Pe ((((wrdN a) - 1) - 1) - 1) 0) (Pn (numZ (kZ 0 (kZ 0 0))) (-999999999) 999999999 fun y5 => Pn (numK (kZ 0 (kZ 0 0))) 0 1 fun y6 => (sL0 a 0 0 0 0 0 3)) (Pm (Pl 0 ((((wrdN a) - 1) - 1) - 1)) (Pm (Pl ((1 + 1) + 1) (wrdN a)) (Pm (PL 1
 ((((wrdN a) - 1) - 1) - 1)) (Pm (sq2 a) (Pn (numZ (rdZ (wrdC a) ((1 + 1) + 1))) (-999999999) 999999999 fun y5 => Pn (numK (rdZ (wrdC a) ((1 + 1) + 1))) 0 1 fun y6 => (Pb (Pe y4 0) (sL0 a 0 0 0 0 0 3) (Pb (Pe y6 0) (sL0 a 0 0 0 0 0 3) (Pm (PL 0 (((((wrdN a) - 1) - 1) - 1) - 1)) (Pb (Pl 0 (((((wrdN a) - 1) - 1) - 1) - 1)) (sL0 a 0 0 0 0 0 3) (Pn (cckZ y0 y1 (kZ y3 (kZ 0 (kZ y5 0)))) 0 6 fun y7 => (Pb (Pd y7 0) (sL0 a 0 0 0 0 0 y7) (sL0 a y0 y1 y3 0 y5 0))))))))))))))))) (Pb (Pe y2 0) (Pn (numZ (rdZ (wrdC a) (1 + 1))) (-999999999) 999999999 fun y3 => Pn (numK (rdZ (wrdC a) (1 + 1))) 0 1 fun y4 => (sq7 a)) (Pn (numZ (rdZ (wrdC a) (1 + 1))) (-999999999) 999999999 fun y3 => Pn (numK (rdZ (wrdC a) (1 + 1))) 0 1 fun y4 => (sq7 a)))))))))))) (Pn (numZ (rdZ (wrdC a) 1)) (-999999999) 999999999 fun
 y1 => Pn (numK (rdZ (wrdC a) 1)) 0 1 fun y2 => (Pm (PL 0 (((wrdN a) - 1) - 1)) (Pb (Pe (((wrdN a) - 1) - 1) 0) (Pn (numZ (kZ 0 (kZ 0 0))) (-999999999) 999999999 fun y3 => Pn (numK (kZ 0 (kZ 0 0))) 0 1 fun y4 => (sL0 a 0 0 0 0 0 3)) (Pm (Pl 0 (((wrdN a) - 1) - 1)) (Pm (Pl (1 + 1) (wrdN a)) (Pm (PL 1 (((wrdN a) - 1) - 1)) (Pm (PL ((1 + 1) + (((wrdN a) - 1) - 1)) (wrdN a)) (Pb (PL 1 (qQj (rdZ (wrdC a) (1 + 1)))) (Pb (sq4 a) (Pn (numZ (rdZ (wrdC a) (1 + 1))) (-999999999) 999999999 fun y3 => Pn (numK (rdZ (wrdC a) (1 + 1))) 0 1 fun y4 => (sq7 a)) (Pn (numZ (sq0 a)) (-999999999) 999999999 fun y3 => Pn (numK (sq0 a)) 0 1 fun y4 => (sq7 a))) (Pn (numZ (rdZ (wrdC a) (1 + 1))) (-999999999) 999999999 fun y3 => Pn (numK (rdZ (wrdC a) (1 + 1))) 0 1 fun y4 => (sq7 a)))))))))))))))))
def sq10 (a y0 : Int) : Prop := (Pm (PL 0 ((wrdN a) - 1)) (Pb (Pe ((wrdN a) - 1) 0) (Pn (numZ (kZ 0 (kZ 0 0))) (-999999999) 999999999 fun y1 => Pn (numK (kZ 0 (kZ 0 0))) 0 1 fun y2 => (sL0 a 0 0 0 0 0 3)) (Pm (Pl 0 ((wrdN a) - 1)) (Pm (Pl 1 (wrdN a)) (Pm (PL 1 ((wrdN a) - 1)) (Pm (PL (1 + ((wrdN a) - 1)) (wrdN a)) (Pb (PL 1 (qQj (rdZ (wrdC a) 1))) (Pb (sq6 a) (Pn (numZ (rdZ (wrdC a) 1)) (-999999999) 999999999 fun y1 => Pn (numK (rdZ (wrdC a) 1)) 0 1 fun y2 => (Pm (PL 0 (((wrdN a) - 1) - 1)) (Pb (Pe (((wrdN a) - 1) - 1) 0) (Pn (numZ (kZ 0 (kZ 0 0))) (-999999999) 999999999 fun y3 => Pn (numK (kZ 0 (kZ 0 0))) 0 1 fun y4 => (sL0 a 0 0 0 0 0 3)) (Pm (Pl 0 (((wrdN a) - 1) - 1)) (Pm (Pl (1 + 1) (wrdN a)) (Pm (PL 1 (((wrdN a) - 1) - 1)) (Pm (PL ((1 + 1) + (((wrdN a) - 1) - 1)) (wrdN a)) (Pn
 (numZ (rdZ (wrdC a) (1 + 1))) (-999999999) 999999999 fun y3 => Pn (numK (rdZ (wrdC a) (1 + 1))) 0 1 fun y4 => (sL0 a 0 0 0 0 0 3))))))))) (Pn (numZ (sq5 a)) (-999999999) 999999999 fun y1 => Pn (numK (sq5 a)) 0 1 fun y2 => (Pm (PL 0 (((wrdN a) - 1) - 1)) (Pb (Pe (((wrdN a) - 1) - 1) 0) (Pn (numZ (kZ 0 (kZ 0 0))) (-999999999) 999999999 fun y3 => Pn (numK (kZ 0 (kZ 0 0))) 0 1 fun y4 => (sL0 a 0 0 0 0 0 3)) (Pm (Pl 0 (((wrdN a) - 1) - 1)) (Pm (Pl (1 + 1) (wrdN a)) (Pm (PL 1 (((wrdN a) - 1) - 1)) (Pm (PL ((1 + 1) + (((wrdN a) - 1) - 1)) (wrdN a)) (Pn (numZ (rdZ (wrdC a) (1 + 1))) (-999999999) 999999999 fun y3 => Pn (numK (rdZ (wrdC a) (1 + 1))) 0 1 fun y4 => (Pb (Pe y2 0) (sL0 a 0 0 0 0 0 3) (Pb (Pe y4 0) (sL0 a 0 0 0 0 0 3) (Pm (PL 0 ((((wrdN a) - 1) - 1) - 1)) (Pb (Pl 0 ((((wrdN a) - 1) -
 1) - 1)) (sL0 a 0 0 0 0 0 3) (Pn (cckZ y0 y1 (kZ 0 (kZ 0 (kZ y3 0)))) 0 6 fun y5 => (Pb (Pd y5 0) (sL0 a 0 0 0 0 0 y5) (sL0 a y0 y1 0 0 y3 0)))))))))))))))) (Pn (numZ (rdZ (wrdC a) 1)) (-999999999) 999999999 fun y1 => Pn (numK (rdZ (wrdC a) 1)) 0 1 fun y2 => (Pm (PL 0 (((wrdN a) - 1) - 1)) (Pb (Pe (((wrdN a) - 1) - 1) 0) (Pn (numZ (kZ 0 (kZ 0 0))) (-999999999) 999999999 fun y3 => Pn (numK (kZ 0 (kZ 0 0))) 0 1 fun y4 => (sL0 a 0 0 0 0 0 3)) (Pm (Pl 0 (((wrdN a) - 1) - 1)) (Pm (Pl (1 + 1) (wrdN a)) (Pm (PL 1 (((wrdN a) - 1) - 1)) (Pm (PL ((1 + 1) + (((wrdN a) - 1) - 1)) (wrdN a)) (Pn (numZ (rdZ (wrdC a) (1 + 1))) (-999999999) 999999999 fun y3 => Pn (numK (rdZ (wrdC a) (1 + 1))) 0 1 fun y4 => (sL0 a 0 0 0 0 0 3))))))))))))))))
def sq11 (a : Int) : Prop := (Pn (numZ (kZ 0 (kZ 0 0))) (-999999999) 999999999 fun y1 => Pn (numK (kZ 0 (kZ 0 0))) 0 1 fun y2 => (sL0 a 0 0 0 0 0 3))
def sq12 (a : Int) : Prop := (Pn (numZ (rdZ (wrdC a) (1 + 1))) (-999999999) 999999999 fun y3 => Pn (numK (rdZ (wrdC a) (1 + 1))) 0 1 fun y4 => (sL0 a 0 0 0 0 0 3))
def sq13 (a : Int) : Prop := (Pn (numZ (rdZ (wrdC a) 1)) (-999999999) 999999999 fun y1 => Pn (numK (rdZ (wrdC a) 1)) 0 1 fun y2 => (Pm (PL 0 (((wrdN a) - 1) - 1)) (Pb (Pe (((wrdN a) - 1) - 1) 0) (Pn (numZ (kZ 0 (kZ 0 0))) (-999999999) 999999999 fun y3 => Pn (numK (kZ 0 (kZ 0 0))) 0 1 fun y4 => (sL0 a 0 0 0 0 0 3)) (Pm (Pl 0 (((wrdN a) - 1) - 1)) (Pm (Pl (1 + 1) (wrdN a)) (Pm (PL 1 (((wrdN a) - 1) - 1)) (Pm (PL ((1 + 1) + (((wrdN a) - 1) - 1)) (wrdN a)) (Pb (PL 1 (qQj (rdZ (wrdC a) (1 + 1)))) (Pb (sq4 a) (Pn (numZ (rdZ (wrdC a) (1 + 1))) (-999999999) 999999999 fun y3 => Pn (numK (rdZ (wrdC a) (1 + 1))) 0 1 fun y4 => (sq8 a)) (Pn (numZ (sq0 a)) (-999999999) 999999999 fun y3 => Pn (numK (sq0 a)) 0 1 fun y4 => (sq8 a))) (Pn (numZ (rdZ (wrdC a) (1 + 1))) (-999999999) 999999999 fun y3 => Pn
 (numK (rdZ (wrdC a) (1 + 1))) 0 1 fun y4 => (sq8 a))))))))))
def sq14 (a : Int) : Prop := (Pn (numZ (rdZ (wrdC a) 1)) (-999999999) 999999999 fun y1 => Pn (numK (rdZ (wrdC a) 1)) 0 1 fun y2 => (Pm (PL 0 (((wrdN a) - 1) - 1)) (Pb (Pe (((wrdN a) - 1) - 1) 0) (Pn (numZ (kZ 0 (kZ 0 0))) (-999999999) 999999999 fun y3 => Pn (numK (kZ 0 (kZ 0 0))) 0 1 fun y4 => (sL0 a 0 0 0 0 0 3)) (Pm (Pl 0 (((wrdN a) - 1) - 1)) (Pm (Pl (1 + 1) (wrdN a)) (Pm (PL 1 (((wrdN a) - 1) - 1)) (Pm (PL ((1 + 1) + (((wrdN a) - 1) - 1)) (wrdN a)) (Pb (PL 1 (qQj (rdZ (wrdC a) (1 + 1)))) (Pb (sq4 a) (sq12 a) (Pn (numZ (sq0 a)) (-999999999) 999999999 fun y3 => Pn (numK (sq0 a)) 0 1 fun y4 => (sL0 a 0 0 0 0 0 3))) (sq12 a)))))))))
def sq15 (a : Int) : Prop := (Pn (numZ (rdZ (wrdC a) ((1 + 1) + 1))) (-999999999) 999999999 fun y5 => Pn (numK (rdZ (wrdC a) ((1 + 1) + 1))) 0 1 fun y6 => (sL0 a 0 0 0 0 0 3))
def sq16 (a : Int) : Prop := (Pn (numZ (rdZ (wrdC a) (1 + 1))) (-999999999) 999999999 fun y3 => Pn (numK (rdZ (wrdC a) (1 + 1))) 0 1 fun y4 => (sq8 a))
def P (a : Int) : Prop :=
 (Pm (PL (qQj a) 100000) (Pb (Pe (wrdN a) 0) (Pn (opfZ (kZ 0 (kZ 0 0))) 0 44 fun y0 => (Pb (PL 1 y0) (Pb (Pe (PL y0 43) 0) (sL0 a 0 0 0 0 0 3) (Pb (PL y0 23) (sq11 a) (Pb (PL y0 30) (sq11 a) (Pb (Pe y0 31) (sq11 a) (Pb (Pe y0 33) (sq11 a) (Pb (Pe y0 40) (sq11 a) (Pb (Pl y0 39) (sq11 a) (Pb (Pe y0 39) (sq11 a) (Pb (Pe y0 41) (sq11 a) (sL0 a 0 0 0 0 0 3)))))))))) (sL0 a 0 0 0 0 0 3))) (Pm (Pl 0 (wrdN a)) (Pm (PL 1 (wrdN a)) (Pn (opfZ (rdZ (wrdC a) 0)) 0 44 fun y0 => (Pb (PL 1 y0) (Pb (Pe (PL y0 43) 0) (sL0 a 0 0 0 0 0 3) (Pb (PL y0 23) (Pm (PL 0 ((wrdN a) - 1)) (Pb (Pe ((wrdN a) - 1) 0) (sq11 a) (Pm (Pl 0 ((wrdN a) - 1)) (Pm (Pl 1 (wrdN a)) (Pm (PL 1 ((wrdN a) - 1)) (Pm (PL (1 + ((wrdN a) - 1)) (wrdN a)) (Pb (PL 1 (qQj (rdZ (wrdC a) 1))) (Pb (sq6 a) (sq13 a) (Pn (numZ (sq5 a))
 (-999999999) 999999999 fun y1 => Pn (numK (sq5 a)) 0 1 fun y2 => (Pm (PL 0 (((wrdN a) - 1) - 1)) (Pb (Pe (((wrdN a) - 1) - 1) 0) (Pn (numZ (kZ 0 (kZ 0 0))) (-999999999) 999999999 fun y3 => Pn (numK (kZ 0 (kZ 0 0))) 0 1 fun y4 => (sL0 a 0 0 0 0 0 3)) (Pm (Pl 0 (((wrdN a) - 1) - 1)) (Pm (Pl (1 + 1) (wrdN a)) (Pm (PL 1 (((wrdN a) - 1) - 1)) (Pm (PL ((1 + 1) + (((wrdN a) - 1) - 1)) (wrdN a)) (Pb (PL 1 (qQj (rdZ (wrdC a) (1 + 1)))) (Pb (sq4 a) (Pb (Pe y2 0) (sq16 a) (sq16 a)) (Pb (Pe y2 0) (Pn (numZ (sq0 a)) (-999999999) 999999999 fun y3 => Pn (numK (sq0 a)) 0 1 fun y4 => (sq8 a)) (Pn (numZ (sq0 a)) (-999999999) 999999999 fun y3 => Pn (numK (sq0 a)) 0 1 fun y4 => (Pm (PL 0 ((((wrdN a) - 1) - 1) - 1)) (Pb (Pe ((((wrdN a) - 1) - 1) - 1) 0) (Pn (numZ (kZ 0 (kZ 0 0))) (-999999999) 999999999 fun
 y5 => Pn (numK (kZ 0 (kZ 0 0))) 0 1 fun y6 => (sL0 a 0 0 0 0 0 3)) (Pm (Pl 0 ((((wrdN a) - 1) - 1) - 1)) (Pm (Pl ((1 + 1) + 1) (wrdN a)) (Pm (PL 1 ((((wrdN a) - 1) - 1) - 1)) (Pm (sq2 a) (Pb (PL 1 (qQj (rdZ (wrdC a) ((1 + 1) + 1)))) (Pb (sq3 a) (Pb (Pe y4 0) (sq15 a) (sq15 a)) (Pb (Pe y4 0) (Pn (numZ (sq1 a)) (-999999999) 999999999 fun y5 => Pn (numK (sq1 a)) 0 1 fun y6 => (sL0 a 0 0 0 0 0 3)) (Pn (numZ (sq1 a)) (-999999999) 999999999 fun y5 => Pn (numK (sq1 a)) 0 1 fun y6 => (Pb (Pe y6 0) (sL0 a 0 0 0 0 0 3) (Pm (PL 0 (((((wrdN a) - 1) - 1) - 1) - 1)) (Pb (Pl 0 (((((wrdN a) - 1) - 1) - 1) - 1)) (sL0 a 0 0 0 0 0 3) (Pn (cckZ y0 y1 (kZ y3 (kZ y5 (kZ 0 0)))) 0 6 fun y7 => (Pb (Pd y7 0) (sL0 a 0 0 0 0 0 y7) (sL0 a y0 y1 y3 y5 0 0))))))))) (Pb (Pe y4 0) (sq15 a) (sq15 a)))))))))))) (Pb (Pe
 y2 0) (sq16 a) (sq16 a))))))))))) (sq13 a)))))))) (Pb (PL y0 30) (Pm (PL 0 ((wrdN a) - 1)) (Pb (Pe ((wrdN a) - 1) 0) (sq11 a) (Pm (Pl 0 ((wrdN a) - 1)) (Pm (Pl 1 (wrdN a)) (Pm (PL 1 ((wrdN a) - 1)) (Pm (PL (1 + ((wrdN a) - 1)) (wrdN a)) (Pb (PL 1 (qQj (rdZ (wrdC a) 1))) (Pb (sq6 a) (sq14 a) (Pn (numZ (sq5 a)) (-999999999) 999999999 fun y1 => Pn (numK (sq5 a)) 0 1 fun y2 => (Pm (PL 0 (((wrdN a) - 1) - 1)) (Pb (Pe (((wrdN a) - 1) - 1) 0) (Pn (numZ (kZ 0 (kZ 0 0))) (-999999999) 999999999 fun y3 => Pn (numK (kZ 0 (kZ 0 0))) 0 1 fun y4 => (sL0 a 0 0 0 0 0 3)) (Pm (Pl 0 (((wrdN a) - 1) - 1)) (Pm (Pl (1 + 1) (wrdN a)) (Pm (PL 1 (((wrdN a) - 1) - 1)) (Pm (PL ((1 + 1) + (((wrdN a) - 1) - 1)) (wrdN a)) (Pb (PL 1 (qQj (rdZ (wrdC a) (1 + 1)))) (Pb (sq4 a) (Pb (Pe y2 0) (sq12 a) (sq12 a)) (Pb (Pe
 y2 0) (Pn (numZ (sq0 a)) (-999999999) 999999999 fun y3 => Pn (numK (sq0 a)) 0 1 fun y4 => (sL0 a 0 0 0 0 0 3)) (Pn (numZ (sq0 a)) (-999999999) 999999999 fun y3 => Pn (numK (sq0 a)) 0 1 fun y4 => (Pb (Pe y4 0) (sL0 a 0 0 0 0 0 3) (Pm (PL 0 ((((wrdN a) - 1) - 1) - 1)) (Pb (Pl 0 ((((wrdN a) - 1) - 1) - 1)) (sL0 a 0 0 0 0 0 3) (Pn (cckZ y0 y1 (kZ y3 (kZ 0 (kZ 0 0)))) 0 6 fun y5 => (Pb (Pd y5 0) (sL0 a 0 0 0 0 0 y5) (sL0 a y0 y1 y3 0 0 0))))))))) (Pb (Pe y2 0) (sq12 a) (sq12 a))))))))))) (sq14 a)))))))) (Pb (Pe y0 31) (sq9 a y0) (Pb (Pe y0 33) (sq10 a y0) (Pb (Pe y0 40) (sq10 a y0) (Pb (Pl y0 39) (sq9 a y0) (Pb (Pe y0 39) (Pm (PL 0 ((wrdN a) - 1)) (Pb (Pe ((wrdN a) - 1) 0) (sq11 a) (Pm (Pl 0 ((wrdN a) - 1)) (Pm (Pl 1 (wrdN a)) (Pm (PL 1 ((wrdN a) - 1)) (Pm (PL (1 + ((wrdN a) - 1)) (wrdN a))
 (Pn (numZ (rdZ (wrdC a) 1)) (-999999999) 999999999 fun y1 => Pn (numK (rdZ (wrdC a) 1)) 0 1 fun y2 => (Pb (Pe y2 0) (sL0 a 0 0 0 0 0 3) (Pm (PL 0 (((wrdN a) - 1) - 1)) (Pb (Pl 0 (((wrdN a) - 1) - 1)) (sL0 a 0 0 0 0 0 3) (Pn (cckZ y0 0 (kZ 0 (kZ 0 (kZ y1 0)))) 0 6 fun y3 => (Pb (Pd y3 0) (sL0 a 0 0 0 0 0 y3) (sL0 a y0 0 0 0 y1 0))))))))))))) (Pb (Pe y0 41) (Pm (PL 0 ((wrdN a) - 1)) (Pb (Pe ((wrdN a) - 1) 0) (sq11 a) (Pm (Pl 0 ((wrdN a) - 1)) (Pm (Pl 1 (wrdN a)) (Pm (PL 1 ((wrdN a) - 1)) (Pm (PL (1 + ((wrdN a) - 1)) (wrdN a)) (Pb (PL 1 (qQj (rdZ (wrdC a) 1))) (Pb (sq6 a) (Pn (numZ (rdZ (wrdC a) 1)) (-999999999) 999999999 fun y1 => Pn (numK (rdZ (wrdC a) 1)) 0 1 fun y2 => (sL0 a 0 0 0 0 0 3)) (Pn (numZ (sq5 a)) (-999999999) 999999999 fun y1 => Pn (numK (sq5 a)) 0 1 fun y2 => (Pb (Pe y2 0)
 (sL0 a 0 0 0 0 0 3) (Pm (PL 0 (((wrdN a) - 1) - 1)) (Pb (Pl 0 (((wrdN a) - 1) - 1)) (sL0 a 0 0 0 0 0 3) (Pn (cckZ y0 0 (kZ y1 (kZ 0 (kZ 0 0)))) 0 6 fun y3 => (Pb (Pd y3 0) (sL0 a 0 0 0 0 0 y3) (sL0 a y0 0 y1 0 0 0)))))))) (Pn (numZ (rdZ (wrdC a) 1)) (-999999999) 999999999 fun y1 => Pn (numK (rdZ (wrdC a) 1)) 0 1 fun y2 => (sL0 a 0 0 0 0 0 3))))))))) (Pm (PL 0 ((wrdN a) - 1)) (Pb (Pl 0 ((wrdN a) - 1)) (sL0 a 0 0 0 0 0 3) (Pn (cckZ y0 0 (kZ 0 (kZ 0 (kZ 0 0)))) 0 6 fun y1 => (Pb (Pd y1 0) (sL0 a 0 0 0 0 0 y1) (sL0 a y0 0 0 0 0 0)))))))))))))) (sL0 a 0 0 0 0 0 3)))))))
set_option maxHeartbeats 40000000 in
theorem holds (s0 : Int) (h_pre0 : qQk (decide ((qQj s0)  ≤  100000)) ≠ 0) : P s0 := by
 delta P sq0 sq1 sq2 sq3 sq4 sq5 sq6 sq7 sq8 sq9 sq10 sq11 sq12 sq13 sq14 sq15 sq16 sL0 Pb Pm Pn PL Pl Pe Pd kZ
 have hE := opfZ_e
 have hop := opfZ_bd (rdZ (wrdC s0) 0)
 have hle := opfZ_le (rdZ (wrdC s0) 0)
 have hw0 := (wrdN_bd s0).1
 have hbad := fun h => par_no (par_bad (s := s0) h)
 simp only [nrm, Int.reduceEq, Int.reduceNeg, reduceIte, cckZ_I, Int.reduceAdd, slen_0, slen_1, hE] at h_pre0 ⊢
 unfold parF at hbad
 simp only [if_false, Int.reduceEq] at hbad
 obtain ⟨op, ho⟩ : ∃ op, op = opfZ (rdZ (wrdC s0) 0) := ⟨_, rfl⟩
 rw [← ho] at hop hle hbad ⊢
 refine ⟨fun _ => ?_, fun h => by omega⟩
 by_cases hn : wrdN s0 = 0
 ·refine ⟨fun _ y hy hyb => ?_, fun h => absurd hn h⟩
  subst hy
  refine ⟨fun h => by omega, fun _ => ?_⟩
  obtain ⟨g1, g2, g3, g4, g5, g6⟩ := hbad (.inl hn)
  omega
 refine ⟨fun h => absurd h hn, fun _ => ?_⟩
 have hs : op = 0 ∨ (1 ≤ op ∧ op ≤ 23) ∨ (24 ≤ op ∧ op ≤ 30) ∨ (op = 31) ∨ (op = 32 ∨ (34 ≤ op ∧ op ≤ 38)) ∨ (op = 33 ∨ op = 40) ∨ (op = 39) ∨ (op = 41) ∨ (op = 42 ∨ op = 43) := by omega
 rcases hs with hr | hr | hr | hr | hr | hr | hr | hr | hr
 ·have hbad := hbad (.inr hr)
  repeat' (first | (constructor <;> intro _) | (intro _ hy _; subst hy))
  all_goals omega
 ·obtain ⟨hY, hN⟩ := parF_0 ho.symm hr (by omega)
  clear hbad hE
  rcases Classical.em _ with hC | hC
  rotate_left
  ·have hG := hN hC
   clear hY hN
   unfold parF at hG
   simp only [Int.reduceEq, if_false] at hG
   obtain ⟨g1, g2, g3, g4, g5, g6⟩ := hG
   rw [g1, g2, g3, g4, g5, g6]
   repeat' (first | (constructor <;> intro _) | (intro _ hy _; subst hy))
   all_goals first
    | (exact ⟨rfl, rfl, rfl, rfl, rfl, rfl⟩)
    | (exfalso; omega)
  ·have hG := hY hC
   clear hY hN
   unfold parF at hG
   obtain ⟨g1, g2, g3, g4, g5, g6⟩ := hG
   rw [g1, g2, g3, g4, g5, g6]
   clear g1 g2 g3 g4 g5 g6
   repeat' (first | (constructor <;> intro _) | (intro _ hy _; subst hy))
   all_goals first
    | (exfalso; omega)
    | omega
 ·obtain ⟨hY, hN⟩ := parF_1 ho.symm hr (by omega)
  clear hbad hE
  rcases Classical.em _ with hC | hC
  rotate_left
  ·have hG := hN hC
   clear hY hN
   unfold parF at hG
   simp only [Int.reduceEq, if_false] at hG
   obtain ⟨g1, g2, g3, g4, g5, g6⟩ := hG
   rw [g1, g2, g3, g4, g5, g6]
   repeat' (first | (constructor <;> intro _) | (intro _ hy _; subst hy))
   all_goals first
    | (exact ⟨rfl, rfl, rfl, rfl, rfl, rfl⟩)
    | (exfalso; omega)
  ·have hG := hY hC
   clear hY hN
   unfold parF at hG
   obtain ⟨g1, g2, g3, g4, g5, g6⟩ := hG
   rw [g1, g2, g3, g4, g5, g6]
   clear g1 g2 g3 g4 g5 g6
   repeat' (first | (constructor <;> intro _) | (intro _ hy _; subst hy))
   all_goals first
    | (exfalso; omega)
    | omega
 ·obtain ⟨hY, hN⟩ := parF_2 ho.symm hr (by omega)
  clear hbad hE
  rcases Classical.em _ with hC | hC
  rotate_left
  ·have hG := hN hC
   clear hY hN
   unfold parF at hG
   simp only [Int.reduceEq, if_false] at hG
   obtain ⟨g1, g2, g3, g4, g5, g6⟩ := hG
   rw [g1, g2, g3, g4, g5, g6]
   repeat' (first | (constructor <;> intro _) | (intro _ hy _; subst hy))
   all_goals first
    | (exact ⟨rfl, rfl, rfl, rfl, rfl, rfl⟩)
    | (exfalso; omega)
  ·have hG := hY hC
   clear hY hN
   unfold parF at hG
   obtain ⟨g1, g2, g3, g4, g5, g6⟩ := hG
   rw [g1, g2, g3, g4, g5, g6]
   clear g1 g2 g3 g4 g5 g6
   repeat' (first | (constructor <;> intro _) | (intro _ hy _; subst hy))
   all_goals first
    | (exfalso; omega)
    | omega
 ·obtain ⟨hY, hN⟩ := parF_3 ho.symm hr (by omega)
  clear hbad hE
  rcases Classical.em _ with hC | hC
  rotate_left
  ·have hG := hN hC
   clear hY hN
   unfold parF at hG
   simp only [Int.reduceEq, if_false] at hG
   obtain ⟨g1, g2, g3, g4, g5, g6⟩ := hG
   rw [g1, g2, g3, g4, g5, g6]
   repeat' (first | (constructor <;> intro _) | (intro _ hy _; subst hy))
   all_goals first
    | (exact ⟨rfl, rfl, rfl, rfl, rfl, rfl⟩)
    | (exfalso; omega)
  ·have hG := hY hC
   clear hY hN
   unfold parF at hG
   obtain ⟨g1, g2, g3, g4, g5, g6⟩ := hG
   rw [g1, g2, g3, g4, g5, g6]
   clear g1 g2 g3 g4 g5 g6
   repeat' (first | (constructor <;> intro _) | (intro _ hy _; subst hy))
   all_goals first
    | (exfalso; omega)
    | omega
 ·obtain ⟨hY, hN⟩ := parF_4 ho.symm hr (by omega)
  clear hbad hE
  rcases Classical.em _ with hC | hC
  rotate_left
  ·have hG := hN hC
   clear hY hN
   unfold parF at hG
   simp only [Int.reduceEq, if_false] at hG
   obtain ⟨g1, g2, g3, g4, g5, g6⟩ := hG
   rw [g1, g2, g3, g4, g5, g6]
   repeat' (first | (constructor <;> intro _) | (intro _ hy _; subst hy))
   all_goals first
    | (exact ⟨rfl, rfl, rfl, rfl, rfl, rfl⟩)
    | (exfalso; omega)
  ·have hG := hY hC
   clear hY hN
   unfold parF at hG
   obtain ⟨g1, g2, g3, g4, g5, g6⟩ := hG
   rw [g1, g2, g3, g4, g5, g6]
   clear g1 g2 g3 g4 g5 g6
   repeat' (first | (constructor <;> intro _) | (intro _ hy _; subst hy))
   all_goals first
    | (exfalso; omega)
    | omega
 ·obtain ⟨hY, hN⟩ := parF_5 ho.symm hr (by omega)
  clear hbad hE
  rcases Classical.em _ with hC | hC
  rotate_left
  ·have hG := hN hC
   clear hY hN
   unfold parF at hG
   simp only [Int.reduceEq, if_false] at hG
   obtain ⟨g1, g2, g3, g4, g5, g6⟩ := hG
   rw [g1, g2, g3, g4, g5, g6]
   repeat' (first | (constructor <;> intro _) | (intro _ hy _; subst hy))
   all_goals first
    | (exact ⟨rfl, rfl, rfl, rfl, rfl, rfl⟩)
    | (exfalso; omega)
  ·have hG := hY hC
   clear hY hN
   unfold parF at hG
   obtain ⟨g1, g2, g3, g4, g5, g6⟩ := hG
   rw [g1, g2, g3, g4, g5, g6]
   clear g1 g2 g3 g4 g5 g6
   repeat' (first | (constructor <;> intro _) | (intro _ hy _; subst hy))
   all_goals first
    | (exfalso; omega)
    | omega
 ·obtain ⟨hY, hN⟩ := parF_6 ho.symm hr (by omega)
  clear hbad hE
  rcases Classical.em _ with hC | hC
  rotate_left
  ·have hG := hN hC
   clear hY hN
   unfold parF at hG
   simp only [Int.reduceEq, if_false] at hG
   obtain ⟨g1, g2, g3, g4, g5, g6⟩ := hG
   rw [g1, g2, g3, g4, g5, g6]
   repeat' (first | (constructor <;> intro _) | (intro _ hy _; subst hy))
   all_goals first
    | (exact ⟨rfl, rfl, rfl, rfl, rfl, rfl⟩)
    | (exfalso; omega)
  ·have hG := hY hC
   clear hY hN
   unfold parF at hG
   obtain ⟨g1, g2, g3, g4, g5, g6⟩ := hG
   rw [g1, g2, g3, g4, g5, g6]
   clear g1 g2 g3 g4 g5 g6
   repeat' (first | (constructor <;> intro _) | (intro _ hy _; subst hy))
   all_goals first
    | (exfalso; omega)
    | omega
 ·obtain ⟨hY, hN⟩ := parF_7 ho.symm hr (by omega)
  clear hbad hE
  rcases Classical.em _ with hC | hC
  rotate_left
  ·have hG := hN hC
   clear hY hN
   unfold parF at hG
   simp only [Int.reduceEq, if_false] at hG
   obtain ⟨g1, g2, g3, g4, g5, g6⟩ := hG
   rw [g1, g2, g3, g4, g5, g6]
   repeat' (first | (constructor <;> intro _) | (intro _ hy _; subst hy))
   all_goals first
    | (exact ⟨rfl, rfl, rfl, rfl, rfl, rfl⟩)
    | (exfalso; omega)
  ·have hG := hY hC
   clear hY hN
   unfold parF at hG
   obtain ⟨g1, g2, g3, g4, g5, g6⟩ := hG
   rw [g1, g2, g3, g4, g5, g6]
   clear g1 g2 g3 g4 g5 g6
   repeat' (first | (constructor <;> intro _) | (intro _ hy _; subst hy))
   all_goals first
    | (exfalso; omega)
    | omega
theorem plain (i v ro p) : statR 2 rc tree ⟨i, fN, v, ro, p⟩ = P (i 0) := by kernel_rfl
theorem ran : ranR us (fun f _ => if [8].contains f then .unroll 400 else .auto) rc 2 tree = true := by kernel_rfl
theorem fineT : fineR 2 rc tree = true := by kernel_rfl
theorem ok : RcOk (cxOf 2) rc := okR us_ok ran fineT okb fun i v ro p hρ hcap hpre => by rw [plain]; have q := hρ.hi; exact holds _ (hpre _ (mg 0 rfl))
end CLParse
end Go.Proofs.YtppiabilakeadacDoor
