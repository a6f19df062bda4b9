/-
  What functions of the program answer, as numbers of what they are handed: their runs by the engine, the plain statements behind them. No condition.
-/
import Derived.Test.YteimodjkllldlacKb
import Derived.Test.YteimodjkllldlacGab
import Derived.Test.YteimodjkllldlacGp4
set_option linter.unusedVariables false
set_option linter.unusedSimpArgs false
set_option maxRecDepth 100000
namespace Go.Proofs.Yteimodjkllldlac
open Go.Eng Go.RowKit
namespace CLPass
def rk : Rk := ⟨31, [(0, 16383), (0, 16384), (0, 2048), (0, 2048), (0, 1), (0, 1), (0, 999990), (0, 16384)], 15, [.ptr 0 0, .int .i64 (.v 0)], [.cells [.wild 1, .sl (.inp 0) 1 (.c 0) (.v 2) (some (.v 13)), .sl (.inp 1) 1 (.c 0) (.v 3) (some (.v 14)), .wild 2, .wild 3, .sl (.own 4) 5 (.c 0) (.v 1) none, .bool (.v 4), .bool (.v 5), .sl (.own 5) 2 (.c 0) (.v 7) none, .sl (.own 6) 1 (.c 0) (.v 6) none] 46 none, .gone, .gone, .gone, .arr [.int .i64, .int .i64, .int .i64, .int .i64, .int .i64] 50 (.v 8) (.v 1), .arr [.int .u32, .int .u32] 58 (.v 11) (.v 7), .arr [.int .i64] 3 (.v 12) (.v 6)], [(.b .le .i64 (.b .padd .i64 (.v 0) (.c 1)) (.v 1)), (.b .eq .i64 (.v 3) (.v 2)), (.b .eq .i64 (.v 7) (.v 1)), (.b .le .i64 (.c 0) (.w .i64 (.f 13 (.f 13 (.v 8) (.v 0) (.c 0)) (.c 0) (.c 0)))), (.b .le .i64 (.w .i64 (.f 13 (.f 13 (.v 8) (.v 0) (.c 0)) (.c 0) (.c 0))) (.c 43)), (.b .le .i64 (.c 0) (.w .i64 (.f 13 (.f 13 (.v 8) (.v 0) (.c 0)) (.c 1) (.c 0)))), (.b .le .i64 (.w .i64 (.f 13 (.f 13 (.v 8) (.v 0) (.c 0)) (.c 1) (.c 0))) (.c 31)), (.b .le .i64 (.c 0) (.w .i64 (.f 13 (.f 13 (.v 8) (.v 0) (.c 0)) (.c 2) (.c 0)))), (.b .le .i64 (.w .i64 (.f 13 (.f 13 (.v 8) (.v 0) (.c 0)) (.c 2) (.c 0))) (.c 31)), (.b .le .i64 (.c 0) (.w .i64 (.f 13 (.f 13 (.v 8) (.v 0) (.c 0)) (.c 3) (.c 0)))), (.b .le .i64 (.w .i64 (.f 13 (.f 13 (.v 8) (.v 0) (.c 0)) (.c 3) (.c 0))) (.c 31)), (.b .le .i64 (.b .psub .i64 (.c 0) (.c 32768)) (.w .i64 (.f 13 (.f 13 (.v 8) (.v 0) (.c 0)) (.c 4) (.c 0)))), (.b .le .i64 (.w .i64 (.f 13 (.f 13 (.v 8) (.v 0) (.c 0)) (.c 4) (.c 0))) (.c 65535)), (.b .padd .i64 (.b .eq .i64 (.w .i64 (.f 13 (.f 13 (.v 8) (.v 0) (.c 0)) (.c 0) (.c 0))) (.c 31)) (.b .le .i64 (.c 0) (.w .i64 (.f 13 (.f 13 (.v 8) (.v 0) (.c 0)) (.c 4) (.c 0)))))], .tup [], [.cells [.wild 1, .sl (.inp 0) 1 (.c 0) (.v 2) (some (.v 13)), .sl (.inp 1) 1 (.c 0) (.v 3) (some (.v 14)), .wild 2, .wild 3, .sl (.own 4) 5 (.c 0) (.v 1) none, .bool (.v 4), .bool (.v 5), .sl (.own 5) 2 (.c 0) (.v 7) none, .sl (.own 7) 1 (.c 0) (.v 1000000) none] 46 none, .gone, .gone, .gone, .arr [.int .i64, .int .i64, .int .i64, .int .i64, .int .i64] 50 (.v 8) (.v 1), .arr [.int .u32, .int .u32] 58 (.v 1000001) (.v 7), .gone, .arr [.int .i64] 3 (.v 1000002) (.v 1000000)], [.num (.f 13 (.f 116 (.w .i64 (.f 13 (.f 13 (.v 8) (.v 0) (.c 0)) (.c 0) (.c 0))) (.w .i64 (.f 13 (.f 13 (.v 8) (.v 0) (.c 0)) (.c 1) (.c 0))) (qQs [(.w .i64 (.f 13 (.f 13 (.v 8) (.v 0) (.c 0)) (.c 2) (.c 0))), (.w .i64 (.f 13 (.f 13 (.v 8) (.v 0) (.c 0)) (.c 3) (.c 0))), (.w .i64 (.f 13 (.f 13 (.v 8) (.v 0) (.c 0)) (.c 4) (.c 0))), (.v 0), (.v 1), (.v 3), (.v 10), (.v 4), (.w .u32 (.f 13 (.f 13 (.v 11) (.v 0) (.c 0)) (.c 1) (.c 0))), (.v 11), (.v 12), (.v 6)])) (.c 2) (.c 0)), .code [.int .u32, .int .u32] (.f 13 (.f 116 (.w .i64 (.f 13 (.f 13 (.v 8) (.v 0) (.c 0)) (.c 0) (.c 0))) (.w .i64 (.f 13 (.f 13 (.v 8) (.v 0) (.c 0)) (.c 1) (.c 0))) (qQs [(.w .i64 (.f 13 (.f 13 (.v 8) (.v 0) (.c 0)) (.c 2) (.c 0))), (.w .i64 (.f 13 (.f 13 (.v 8) (.v 0) (.c 0)) (.c 3) (.c 0))), (.w .i64 (.f 13 (.f 13 (.v 8) (.v 0) (.c 0)) (.c 4) (.c 0))), (.v 0), (.v 1), (.v 3), (.v 10), (.v 4), (.w .u32 (.f 13 (.f 13 (.v 11) (.v 0) (.c 0)) (.c 1) (.c 0))), (.v 11), (.v 12), (.v 6)])) (.c 0) (.c 0)) (.v 7), .code [.int .i64] (.f 13 (.f 116 (.w .i64 (.f 13 (.f 13 (.v 8) (.v 0) (.c 0)) (.c 0) (.c 0))) (.w .i64 (.f 13 (.f 13 (.v 8) (.v 0) (.c 0)) (.c 1) (.c 0))) (qQs [(.w .i64 (.f 13 (.f 13 (.v 8) (.v 0) (.c 0)) (.c 2) (.c 0))), (.w .i64 (.f 13 (.f 13 (.v 8) (.v 0) (.c 0)) (.c 3) (.c 0))), (.w .i64 (.f 13 (.f 13 (.v 8) (.v 0) (.c 0)) (.c 4) (.c 0))), (.v 0), (.v 1), (.v 3), (.v 10), (.v 4), (.w .u32 (.f 13 (.f 13 (.v 11) (.v 0) (.c 0)) (.c 1) (.c 0))), (.v 11), (.v 12), (.v 6)])) (.c 1) (.c 0)) (.f 13 (.f 116 (.w .i64 (.f 13 (.f 13 (.v 8) (.v 0) (.c 0)) (.c 0) (.c 0))) (.w .i64 (.f 13 (.f 13 (.v 8) (.v 0) (.c 0)) (.c 1) (.c 0))) (qQs [(.w .i64 (.f 13 (.f 13 (.v 8) (.v 0) (.c 0)) (.c 2) (.c 0))), (.w .i64 (.f 13 (.f 13 (.v 8) (.v 0) (.c 0)) (.c 3) (.c 0))), (.w .i64 (.f 13 (.f 13 (.v 8) (.v 0) (.c 0)) (.c 4) (.c 0))), (.v 0), (.v 1), (.v 3), (.v 10), (.v 4), (.w .u32 (.f 13 (.f 13 (.v 11) (.v 0) (.c 0)) (.c 1) (.c 0))), (.v 11), (.v 12), (.v 6)])) (.c 2) (.c 0))], [⟨[.int .i32], (.v 9), (.v 2), (.v 13), none⟩, ⟨[.bool], (.v 10), (.v 3), (.v 14), none⟩]⟩
theorem okk : rk.ok = true := by kernel_rfl
theorem okh : rk.rh.ok = true := by kernel_rfl
noncomputable def us : SMs := fun Γ ins n => smH (cxG n Γ ins) [CLReach.rk.rh, CLSecret.rk.rh] (smR (cxG n Γ ins) [])
theorem us_ok : SMsOk us := fun Γ ins n => qJx (tabsG n Γ ins) (qXz CLReach.okh (rh_n CLReach.ok) (qXz CLSecret.okh (rh_n CLSecret.ok) (qZc _))) (qJj (tabsG n Γ ins) (qZe _))
def Q0 : E := (tR (.v 8) (.v 0))
def Q1 : E := (.cl 1000 (-9223372036854775808) 9223372036854775807)
def Q2 : E := (.cl 1002 (-9223372036854775808) 9223372036854775807)
def Q3 : E := (te Q2 (.c 0))
def Q4 : E := (.cl 1004 (-9223372036854775808) 9223372036854775807)
def Q5 : E := (tl (.v 2) Q4)
def Q6 : E := (tl (.c 1) Q1)
def Q7 : E := (tl Q1 (.c 43))
def Q8 : E := (.cl 1001 (-9223372036854775808) 9223372036854775807)
def Q9 : E := (tl (.c 0) Q8)
def Q10 : E := (tl Q8 (.c 31))
def Q11 : E := (tl (.c 0) Q2)
def Q12 : E := (tl Q2 (.c 31))
def Q13 : E := (.cl 1003 (-9223372036854775808) 9223372036854775807)
def Q14 : E := (tl (.c 0) Q13)
def Q15 : E := (tl Q13 (.c 31))
def Q16 : E := (tl (.c (-32768)) Q4)
def Q17 : E := (tl Q4 (.c 65535))
def Q18 : E := (tn Q1 (.c 34))
def Q19 : E := (tn Q2 (.c 0))
def Q20 : E := (tp Q18 Q19)
def Q21 : E := (tl (.c 0) Q4)
def Q22 : E := (tk Q4 (.v 3))
def Q23 : E := (.b .pmul .i64 Q21 Q22)
def Q24 : E := (tp Q20 Q23)
def Q25 : E := (tl Q1 (.c 34))
def Q26 : E := (.b .pmul .i64 Q6 Q25)
def Q27 : E := (te Q1 (.c 40))
def Q28 : E := (tp Q26 Q27)
def Q29 : E := (.cl 1005 0 4294967295)
def Q30 : E := (tC (.v 4) (.c 0))
def Q31 : E := (tC (.v 10) Q30)
def Q32 : E := (tC (.v 3) Q31)
def Q33 : E := (tC Q29 Q32)
def Q34 : E := (tC Q4 Q33)
def Q35 : E := (tC Q13 Q34)
def Q36 : E := (.f 110 Q1 Q2 Q35)
def Q37 : E := (te Q1 (.c 39))
def Q38 : E := (tl Q4 (.c 1000000))
def Q39 : E := (.w .u64 Q8)
def Q40 : E := (.b .shl .u32 (.c 1) Q39)
def Q41 : E := (.b .andNot .u32 Q29 Q40)
def Q42 : E := (.b .andNot .u32 Q40 (.c 1))
def Q43 : E := (.b .or .u32 Q41 Q42)
def Q44 : E := (te (.v 7) (.v 1))
def Q45 : E := (.cl 1006 0 4294967295)
def Q46 : E := (tC (.v 11) (.c 0))
def Q47 : E := (tC Q45 Q46)
def Q48 : E := (.f 111 (.v 1) Q4 Q47)
def Q49 : E := (tp (.v 6) Q48)
def Q50 : E := (.f 112 (.v 11) Q4 Q45)
def Q51 : E := (.ite Q48 Q50 (.v 11))
def Q52 : E := (.f 14 (.v 12) (.v 6) Q4)
def Q53 : E := (.f 106 Q52 (.v 6) (.c 0))
def Q54 : E := (.ite Q48 Q53 (.v 12))
def Q55 : E := (te Q1 (.c 36))
def Q56 : E := (tp (.v 0) (.c 1))
def Q57 : E := (tC Q51 (.c 0))
def Q58 : E := (tC Q45 Q57)
def Q59 : E := (.f 111 (.v 1) Q56 Q58)
def Q60 : E := (tp (.cl 1007 0 999991) Q59)
def Q61 : E := (.f 112 Q51 Q56 Q45)
def Q62 : E := (.ite Q59 Q61 Q51)
def Q63 : E := (.f 14 Q54 (.cl 1007 0 999991) Q56)
def Q64 : E := (.f 106 Q63 (.cl 1007 0 999991) (.c 0))
def Q65 : E := (.ite Q59 Q64 Q54)
def Q66 : E := (te Q1 (.c 37))
def Q67 : E := (te Q1 (.c 38))
def Q68 : E := (.f 111 (.v 1) Q56 Q47)
def Q69 : E := (tp (.v 6) Q68)
def Q70 : E := (.f 112 (.v 11) Q56 Q45)
def Q71 : E := (.ite Q68 Q70 (.v 11))
def Q72 : E := (.f 14 (.v 12) (.v 6) Q56)
def Q73 : E := (.f 106 Q72 (.v 6) (.c 0))
def Q74 : E := (.ite Q68 Q73 (.v 12))
def Q75 : E := (tC Q29 Q46)
def Q76 : E := (.f 111 (.v 1) Q4 Q75)
def Q77 : E := (tp (.v 6) Q76)
def Q78 : E := (.f 112 (.v 11) Q4 Q29)
def Q79 : E := (.ite Q76 Q78 (.v 11))
def Q80 : E := (.ite Q76 Q53 (.v 12))
def Q81 : E := (tC Q79 (.c 0))
def Q82 : E := (tC Q29 Q81)
def Q83 : E := (.f 111 (.v 1) Q56 Q82)
def Q84 : E := (tp (.cl 1006 0 999991) Q83)
def Q85 : E := (.f 112 Q79 Q56 Q29)
def Q86 : E := (.ite Q83 Q85 Q79)
def Q87 : E := (.f 14 Q80 (.cl 1006 0 999991) Q56)
def Q88 : E := (.f 106 Q87 (.cl 1006 0 999991) (.c 0))
def Q89 : E := (.ite Q83 Q88 Q80)
def Q90 : E := (.f 111 (.v 1) Q56 Q75)
def Q91 : E := (tp (.v 6) Q90)
def Q92 : E := (.f 112 (.v 11) Q56 Q29)
def Q93 : E := (.ite Q90 Q92 (.v 11))
def Q94 : E := (.ite Q90 Q73 (.v 12))
def tree : TT (List E) :=
 (.br (tk (.v 0) (.v 1)) (.new 1000 (t6 (tR Q0 (.c 0))) (.new 1001 (t6 (tR Q0 (.c 1))) (.new 1002 (t6 (tR Q0 (.c 2))) (.new 1003 (t6 (tR Q0 (.c 3))) (.new 1004 (t6 (tR Q0 (.c 4))) (.br (tk (.v 0) (.v 7)) (.new 1005 (.w .u32 (tR (tR (.v 11) (.v 0)) (.c 1))) (.br (te Q1 (.c 0)) (.leaf [(.v 6), (.v 11), (.v 12)]) (.br (te Q1 (.c 41)) (.leaf [(.v 6), (.v 11), (.v 12)]) (.br (te Q1 (.c 43)) (.leaf [(.v 6), (.v 11), (.v 12)]) (.br (te Q1 (.c 34)) (.br Q3 (.br Q5 (.leaf [(.v 6), (.v 11), (.v 12)]) (.br Q6 (.br Q7 (.br Q9 (.br Q10 (.br Q11 (.br Q12 (.br Q14 (.br Q15 (.br Q16 (.br Q17 (.br Q24 (.br Q28 (.br Q36 (.br Q37 (.br Q21 (.br Q38 (.new 1006 Q43 (.br Q44 (.leaf [Q49, Q51, Q54]) (.bad 200))) (.bad 200)) (.bad 200)) (.br Q27 (.br Q21 (.br Q38 (.new 1006 Q43 (.br Q44 (.leaf [Q49, Q51, Q54])
 (.bad 200))) (.bad 200)) (.bad 200)) (.br Q55 (.br Q21 (.br Q38 (.new 1006 Q43 (.br Q44 (.new 1007 Q49 (.leaf [Q60, Q62, Q65])) (.bad 200))) (.bad 200)) (.bad 200)) (.br Q66 (.br Q21 (.br Q38 (.new 1006 Q43 (.br Q44 (.new 1007 Q49 (.leaf [Q60, Q62, Q65])) (.bad 200))) (.bad 200)) (.bad 200)) (.br Q67 (.br Q21 (.br Q38 (.new 1006 Q43 (.br Q44 (.new 1007 Q49 (.leaf [Q60, Q62, Q65])) (.bad 200))) (.bad 200)) (.bad 200)) (.new 1006 Q43 (.br Q44 (.leaf [Q69, Q71, Q74]) (.bad 200)))))))) (.br Q37 (.br Q21 (.br Q38 (.new 1006 Q41 (.br Q44 (.leaf [Q49, Q51, Q54]) (.bad 200))) (.bad 200)) (.bad 200)) (.br Q27 (.br Q21 (.br Q38 (.new 1006 Q41 (.br Q44 (.leaf [Q49, Q51, Q54]) (.bad 200))) (.bad 200)) (.bad 200)) (.br Q55 (.br Q21 (.br Q38 (.new 1006 Q41 (.br Q44 (.new 1007 Q49 (.leaf [Q60, Q62,
 Q65])) (.bad 200))) (.bad 200)) (.bad 200)) (.br Q66 (.br Q21 (.br Q38 (.new 1006 Q41 (.br Q44 (.new 1007 Q49 (.leaf [Q60, Q62, Q65])) (.bad 200))) (.bad 200)) (.bad 200)) (.br Q67 (.br Q21 (.br Q38 (.new 1006 Q41 (.br Q44 (.new 1007 Q49 (.leaf [Q60, Q62, Q65])) (.bad 200))) (.bad 200)) (.bad 200)) (.new 1006 Q41 (.br Q44 (.leaf [Q69, Q71, Q74]) (.bad 200))))))))) (.br Q37 (.br Q21 (.br Q38 (.br Q44 (.leaf [Q77, Q79, Q80]) (.bad 200)) (.bad 200)) (.bad 200)) (.br Q27 (.br Q21 (.br Q38 (.br Q44 (.leaf [Q77, Q79, Q80]) (.bad 200)) (.bad 200)) (.bad 200)) (.br Q55 (.br Q21 (.br Q38 (.br Q44 (.new 1006 Q77 (.leaf [Q84, Q86, Q89])) (.bad 200)) (.bad 200)) (.bad 200)) (.br Q66 (.br Q21 (.br Q38 (.br Q44 (.new 1006 Q77 (.leaf [Q84, Q86, Q89])) (.bad 200)) (.bad 200)) (.bad 200)) (.br Q67 (.br
 Q21 (.br Q38 (.br Q44 (.new 1006 Q77 (.leaf [Q84, Q86, Q89])) (.bad 200)) (.bad 200)) (.bad 200)) (.br Q44 (.leaf [Q91, Q93, Q94]) (.bad 200)))))))) (.bad 200)) (.bad 200)) (.bad 200)) (.bad 200)) (.bad 200)) (.bad 200)) (.bad 200)) (.bad 200)) (.bad 200)) (.bad 200)) (.bad 200))) (.br Q6 (.br Q7 (.br Q9 (.br Q10 (.br Q11 (.br Q12 (.br Q14 (.br Q15 (.br Q16 (.br Q17 (.br Q24 (.br Q28 (.br Q36 (.br Q37 (.br Q21 (.br Q38 (.new 1006 Q43 (.br Q44 (.leaf [Q49, Q51, Q54]) (.bad 200))) (.bad 200)) (.bad 200)) (.br Q27 (.br Q21 (.br Q38 (.new 1006 Q43 (.br Q44 (.leaf [Q49, Q51, Q54]) (.bad 200))) (.bad 200)) (.bad 200)) (.br Q55 (.br Q21 (.br Q38 (.new 1006 Q43 (.br Q44 (.new 1007 Q49 (.leaf [Q60, Q62, Q65])) (.bad 200))) (.bad 200)) (.bad 200)) (.br Q66 (.br Q21 (.br Q38 (.new 1006 Q43 (.br Q44
 (.new 1007 Q49 (.leaf [Q60, Q62, Q65])) (.bad 200))) (.bad 200)) (.bad 200)) (.br Q67 (.br Q21 (.br Q38 (.new 1006 Q43 (.br Q44 (.new 1007 Q49 (.leaf [Q60, Q62, Q65])) (.bad 200))) (.bad 200)) (.bad 200)) (.new 1006 Q43 (.br Q44 (.leaf [Q69, Q71, Q74]) (.bad 200)))))))) (.br Q37 (.br Q21 (.br Q38 (.new 1006 Q41 (.br Q44 (.leaf [Q49, Q51, Q54]) (.bad 200))) (.bad 200)) (.bad 200)) (.br Q27 (.br Q21 (.br Q38 (.new 1006 Q41 (.br Q44 (.leaf [Q49, Q51, Q54]) (.bad 200))) (.bad 200)) (.bad 200)) (.br Q55 (.br Q21 (.br Q38 (.new 1006 Q41 (.br Q44 (.new 1007 Q49 (.leaf [Q60, Q62, Q65])) (.bad 200))) (.bad 200)) (.bad 200)) (.br Q66 (.br Q21 (.br Q38 (.new 1006 Q41 (.br Q44 (.new 1007 Q49 (.leaf [Q60, Q62, Q65])) (.bad 200))) (.bad 200)) (.bad 200)) (.br Q67 (.br Q21 (.br Q38 (.new 1006 Q41 (.br
 Q44 (.new 1007 Q49 (.leaf [Q60, Q62, Q65])) (.bad 200))) (.bad 200)) (.bad 200)) (.new 1006 Q41 (.br Q44 (.leaf [Q69, Q71, Q74]) (.bad 200))))))))) (.br Q37 (.br Q21 (.br Q38 (.br Q44 (.leaf [Q77, Q79, Q80]) (.bad 200)) (.bad 200)) (.bad 200)) (.br Q27 (.br Q21 (.br Q38 (.br Q44 (.leaf [Q77, Q79, Q80]) (.bad 200)) (.bad 200)) (.bad 200)) (.br Q55 (.br Q21 (.br Q38 (.br Q44 (.new 1006 Q77 (.leaf [Q84, Q86, Q89])) (.bad 200)) (.bad 200)) (.bad 200)) (.br Q66 (.br Q21 (.br Q38 (.br Q44 (.new 1006 Q77 (.leaf [Q84, Q86, Q89])) (.bad 200)) (.bad 200)) (.bad 200)) (.br Q67 (.br Q21 (.br Q38 (.br Q44 (.new 1006 Q77 (.leaf [Q84, Q86, Q89])) (.bad 200)) (.bad 200)) (.bad 200)) (.br Q44 (.leaf [Q91, Q93, Q94]) (.bad 200)))))))) (.bad 200)) (.bad 200)) (.bad 200)) (.bad 200)) (.bad 200)) (.bad 200))
 (.bad 200)) (.bad 200)) (.bad 200)) (.bad 200)) (.bad 200))) (.br (te Q1 (.c 35)) (.br Q3 (.br Q5 (.leaf [(.v 6), (.v 11), (.v 12)]) (.br Q6 (.br Q7 (.br Q9 (.br Q10 (.br Q11 (.br Q12 (.br Q14 (.br Q15 (.br Q16 (.br Q17 (.br Q24 (.br Q28 (.br Q36 (.br Q37 (.br Q21 (.br Q38 (.new 1006 Q43 (.br Q44 (.leaf [Q49, Q51, Q54]) (.bad 200))) (.bad 200)) (.bad 200)) (.br Q27 (.br Q21 (.br Q38 (.new 1006 Q43 (.br Q44 (.leaf [Q49, Q51, Q54]) (.bad 200))) (.bad 200)) (.bad 200)) (.br Q55 (.br Q21 (.br Q38 (.new 1006 Q43 (.br Q44 (.new 1007 Q49 (.leaf [Q60, Q62, Q65])) (.bad 200))) (.bad 200)) (.bad 200)) (.br Q66 (.br Q21 (.br Q38 (.new 1006 Q43 (.br Q44 (.new 1007 Q49 (.leaf [Q60, Q62, Q65])) (.bad 200))) (.bad 200)) (.bad 200)) (.br Q67 (.br Q21 (.br Q38 (.new 1006 Q43 (.br Q44 (.new 1007 Q49
 (.leaf [Q60, Q62, Q65])) (.bad 200))) (.bad 200)) (.bad 200)) (.new 1006 Q43 (.br Q44 (.leaf [Q69, Q71, Q74]) (.bad 200)))))))) (.br Q37 (.br Q21 (.br Q38 (.new 1006 Q41 (.br Q44 (.leaf [Q49, Q51, Q54]) (.bad 200))) (.bad 200)) (.bad 200)) (.br Q27 (.br Q21 (.br Q38 (.new 1006 Q41 (.br Q44 (.leaf [Q49, Q51, Q54]) (.bad 200))) (.bad 200)) (.bad 200)) (.br Q55 (.br Q21 (.br Q38 (.new 1006 Q41 (.br Q44 (.new 1007 Q49 (.leaf [Q60, Q62, Q65])) (.bad 200))) (.bad 200)) (.bad 200)) (.br Q66 (.br Q21 (.br Q38 (.new 1006 Q41 (.br Q44 (.new 1007 Q49 (.leaf [Q60, Q62, Q65])) (.bad 200))) (.bad 200)) (.bad 200)) (.br Q67 (.br Q21 (.br Q38 (.new 1006 Q41 (.br Q44 (.new 1007 Q49 (.leaf [Q60, Q62, Q65])) (.bad 200))) (.bad 200)) (.bad 200)) (.new 1006 Q41 (.br Q44 (.leaf [Q69, Q71, Q74]) (.bad
 200))))))))) (.br Q37 (.br Q21 (.br Q38 (.br Q44 (.leaf [Q77, Q79, Q80]) (.bad 200)) (.bad 200)) (.bad 200)) (.br Q27 (.br Q21 (.br Q38 (.br Q44 (.leaf [Q77, Q79, Q80]) (.bad 200)) (.bad 200)) (.bad 200)) (.br Q55 (.br Q21 (.br Q38 (.br Q44 (.new 1006 Q77 (.leaf [Q84, Q86, Q89])) (.bad 200)) (.bad 200)) (.bad 200)) (.br Q66 (.br Q21 (.br Q38 (.br Q44 (.new 1006 Q77 (.leaf [Q84, Q86, Q89])) (.bad 200)) (.bad 200)) (.bad 200)) (.br Q67 (.br Q21 (.br Q38 (.br Q44 (.new 1006 Q77 (.leaf [Q84, Q86, Q89])) (.bad 200)) (.bad 200)) (.bad 200)) (.br Q44 (.leaf [Q91, Q93, Q94]) (.bad 200)))))))) (.bad 200)) (.bad 200)) (.bad 200)) (.bad 200)) (.bad 200)) (.bad 200)) (.bad 200)) (.bad 200)) (.bad 200)) (.bad 200)) (.bad 200))) (.br Q6 (.br Q7 (.br Q9 (.br Q10 (.br Q11 (.br Q12 (.br Q14 (.br Q15 (.br
 Q16 (.br Q17 (.br Q24 (.br Q28 (.br Q36 (.br Q37 (.br Q21 (.br Q38 (.new 1006 Q43 (.br Q44 (.leaf [Q49, Q51, Q54]) (.bad 200))) (.bad 200)) (.bad 200)) (.br Q27 (.br Q21 (.br Q38 (.new 1006 Q43 (.br Q44 (.leaf [Q49, Q51, Q54]) (.bad 200))) (.bad 200)) (.bad 200)) (.br Q55 (.br Q21 (.br Q38 (.new 1006 Q43 (.br Q44 (.new 1007 Q49 (.leaf [Q60, Q62, Q65])) (.bad 200))) (.bad 200)) (.bad 200)) (.br Q66 (.br Q21 (.br Q38 (.new 1006 Q43 (.br Q44 (.new 1007 Q49 (.leaf [Q60, Q62, Q65])) (.bad 200))) (.bad 200)) (.bad 200)) (.br Q67 (.br Q21 (.br Q38 (.new 1006 Q43 (.br Q44 (.new 1007 Q49 (.leaf [Q60, Q62, Q65])) (.bad 200))) (.bad 200)) (.bad 200)) (.new 1006 Q43 (.br Q44 (.leaf [Q69, Q71, Q74]) (.bad 200)))))))) (.br Q37 (.br Q21 (.br Q38 (.new 1006 Q41 (.br Q44 (.leaf [Q49, Q51, Q54]) (.bad
 200))) (.bad 200)) (.bad 200)) (.br Q27 (.br Q21 (.br Q38 (.new 1006 Q41 (.br Q44 (.leaf [Q49, Q51, Q54]) (.bad 200))) (.bad 200)) (.bad 200)) (.br Q55 (.br Q21 (.br Q38 (.new 1006 Q41 (.br Q44 (.new 1007 Q49 (.leaf [Q60, Q62, Q65])) (.bad 200))) (.bad 200)) (.bad 200)) (.br Q66 (.br Q21 (.br Q38 (.new 1006 Q41 (.br Q44 (.new 1007 Q49 (.leaf [Q60, Q62, Q65])) (.bad 200))) (.bad 200)) (.bad 200)) (.br Q67 (.br Q21 (.br Q38 (.new 1006 Q41 (.br Q44 (.new 1007 Q49 (.leaf [Q60, Q62, Q65])) (.bad 200))) (.bad 200)) (.bad 200)) (.new 1006 Q41 (.br Q44 (.leaf [Q69, Q71, Q74]) (.bad 200))))))))) (.br Q37 (.br Q21 (.br Q38 (.br Q44 (.leaf [Q77, Q79, Q80]) (.bad 200)) (.bad 200)) (.bad 200)) (.br Q27 (.br Q21 (.br Q38 (.br Q44 (.leaf [Q77, Q79, Q80]) (.bad 200)) (.bad 200)) (.bad 200)) (.br Q55
 (.br Q21 (.br Q38 (.br Q44 (.new 1006 Q77 (.leaf [Q84, Q86, Q89])) (.bad 200)) (.bad 200)) (.bad 200)) (.br Q66 (.br Q21 (.br Q38 (.br Q44 (.new 1006 Q77 (.leaf [Q84, Q86, Q89])) (.bad 200)) (.bad 200)) (.bad 200)) (.br Q67 (.br Q21 (.br Q38 (.br Q44 (.new 1006 Q77 (.leaf [Q84, Q86, Q89])) (.bad 200)) (.bad 200)) (.bad 200)) (.br Q44 (.leaf [Q91, Q93, Q94]) (.bad 200)))))))) (.bad 200)) (.bad 200)) (.bad 200)) (.bad 200)) (.bad 200)) (.bad 200)) (.bad 200)) (.bad 200)) (.bad 200)) (.bad 200)) (.bad 200))) (.br Q6 (.br Q7 (.br Q9 (.br Q10 (.br Q11 (.br Q12 (.br Q14 (.br Q15 (.br Q16 (.br Q17 (.br Q24 (.br Q28 (.br Q36 (.br Q37 (.br Q21 (.br Q38 (.new 1006 Q43 (.br Q44 (.leaf [Q49, Q51, Q54]) (.bad 200))) (.bad 200)) (.bad 200)) (.br Q27 (.br Q21 (.br Q38 (.new 1006 Q43 (.br Q44 (.leaf
 [Q49, Q51, Q54]) (.bad 200))) (.bad 200)) (.bad 200)) (.br Q55 (.br Q21 (.br Q38 (.new 1006 Q43 (.br Q44 (.new 1007 Q49 (.leaf [Q60, Q62, Q65])) (.bad 200))) (.bad 200)) (.bad 200)) (.br Q66 (.br Q21 (.br Q38 (.new 1006 Q43 (.br Q44 (.new 1007 Q49 (.leaf [Q60, Q62, Q65])) (.bad 200))) (.bad 200)) (.bad 200)) (.br Q67 (.br Q21 (.br Q38 (.new 1006 Q43 (.br Q44 (.new 1007 Q49 (.leaf [Q60, Q62, Q65])) (.bad 200))) (.bad 200)) (.bad 200)) (.new 1006 Q43 (.br Q44 (.leaf [Q69, Q71, Q74]) (.bad 200)))))))) (.br Q37 (.br Q21 (.br Q38 (.new 1006 Q41 (.br Q44 (.leaf [Q49, Q51, Q54]) (.bad 200))) (.bad 200)) (.bad 200)) (.br Q27 (.br Q21 (.br Q38 (.new 1006 Q41 (.br Q44 (.leaf [Q49, Q51, Q54]) (.bad 200))) (.bad 200)) (.bad 200)) (.br Q55 (.br Q21 (.br Q38 (.new 1006 Q41 (.br Q44 (.new 1007 Q49
 (.leaf [Q60, Q62, Q65])) (.bad 200))) (.bad 200)) (.bad 200)) (.br Q66 (.br Q21 (.br Q38 (.new 1006 Q41 (.br Q44 (.new 1007 Q49 (.leaf [Q60, Q62, Q65])) (.bad 200))) (.bad 200)) (.bad 200)) (.br Q67 (.br Q21 (.br Q38 (.new 1006 Q41 (.br Q44 (.new 1007 Q49 (.leaf [Q60, Q62, Q65])) (.bad 200))) (.bad 200)) (.bad 200)) (.new 1006 Q41 (.br Q44 (.leaf [Q69, Q71, Q74]) (.bad 200))))))))) (.br Q37 (.br Q21 (.br Q38 (.br Q44 (.leaf [Q77, Q79, Q80]) (.bad 200)) (.bad 200)) (.bad 200)) (.br Q27 (.br Q21 (.br Q38 (.br Q44 (.leaf [Q77, Q79, Q80]) (.bad 200)) (.bad 200)) (.bad 200)) (.br Q55 (.br Q21 (.br Q38 (.br Q44 (.new 1006 Q77 (.leaf [Q84, Q86, Q89])) (.bad 200)) (.bad 200)) (.bad 200)) (.br Q66 (.br Q21 (.br Q38 (.br Q44 (.new 1006 Q77 (.leaf [Q84, Q86, Q89])) (.bad 200)) (.bad 200)) (.bad
 200)) (.br Q67 (.br Q21 (.br Q38 (.br Q44 (.new 1006 Q77 (.leaf [Q84, Q86, Q89])) (.bad 200)) (.bad 200)) (.bad 200)) (.br Q44 (.leaf [Q91, Q93, Q94]) (.bad 200)))))))) (.bad 200)) (.bad 200)) (.bad 200)) (.bad 200)) (.bad 200)) (.bad 200)) (.bad 200)) (.bad 200)) (.bad 200)) (.bad 200)) (.bad 200)))))))) (.bad 200))))))) (.bad 200))
noncomputable def sq0 (b y4 y6 l : Int) : Int := (iteZ (lrcZ b y4 (kZ y6 (kZ l 0))) (lrvZ l y4 y6) l)
noncomputable def sq1 (b a y6 y4 l n g y7 : Int) : Int := (iteZ (lrcZ b (a + 1) (kZ y6 (kZ (sq0 b y4 y6 l) 0))) (hupZ (updZ (iteZ (lrcZ b y4 (kZ y6 (kZ l 0))) (hupZ (updZ n g y4) g) n) y7 (a + 1)) y7) (iteZ (lrcZ b y4 (kZ y6 (kZ l 0))) (hupZ (updZ n g y4) g) n))
noncomputable def sq2 (b y4 y5 l : Int) : Int := (iteZ (lrcZ b y4 (kZ y5 (kZ l 0))) (lrvZ l y4 y5) l)
noncomputable def sq3 (b a y6 y4 l : Int) : Int := (iteZ (lrcZ b (a + 1) (kZ y6 (kZ (sq0 b y4 y6 l) 0))) (lrvZ (sq0 b y4 y6 l) (a + 1) y6) (sq0 b y4 y6 l))
noncomputable def sq4 (b a y5 y4 l n g y6 : Int) : Int := (iteZ (lrcZ b (a + 1) (kZ y5 (kZ (sq2 b y4 y5 l) 0))) (hupZ (updZ (iteZ (lrcZ b y4 (kZ y5 (kZ l 0))) (hupZ (updZ n g y4) g) n) y6 (a + 1)) y6) (iteZ (lrcZ b y4 (kZ y5 (kZ l 0))) (hupZ (updZ n g y4) g) n))
noncomputable def sq5 (y5 y1 : Int) : Int := (bor .u32 (bandn .u32 y5 (shlZ .u32 1 (IntKind.wrap .u64 y1))) (bandn .u32 (shlZ .u32 1 (IntKind.wrap .u64 y1)) 1))
noncomputable def sq6 (b a y5 y4 l : Int) : Int := (iteZ (lrcZ b (a + 1) (kZ y5 (kZ (sq2 b y4 y5 l) 0))) (lrvZ (sq2 b y4 y5 l) (a + 1) y5) (sq2 b y4 y5 l))
noncomputable def sq7 (b a y6 y4 l : Int) : Int := (lrcZ b (a + 1) (kZ y6 (kZ (sq0 b y4 y6 l) 0)))
noncomputable def sq8 (b y4 y6 l n g : Int) : Int := (iteZ (lrcZ b y4 (kZ y6 (kZ l 0))) (hupZ (updZ n g y4) g) n)
noncomputable def sq9 (i a b d k e l n g : Int) : Int := (lpsZ (W6 (rdZ (rdZ i a) 0)) (W6 (rdZ (rdZ i a) 1)) (kZ (W6 (rdZ (rdZ i a) 2)) (kZ (W6 (rdZ (rdZ i a) 3)) (kZ (W6 (rdZ (rdZ i a) 4)) (kZ a (kZ b (kZ d (kZ k (kZ e (kZ (U3 (rdZ (rdZ l a) 1)) (kZ l (kZ n (kZ g 0)))))))))))))
noncomputable def sq10 (b a y5 y4 l : Int) : Int := (lrcZ b (a + 1) (kZ y5 (kZ (sq2 b y4 y5 l) 0)))
noncomputable def sq11 (b a y6 l : Int) : Int := (iteZ (lrcZ b (a + 1) (kZ y6 (kZ l 0))) (lrvZ l (a + 1) y6) l)
noncomputable def sq12 (b a y6 l n g : Int) : Int := (iteZ (lrcZ b (a + 1) (kZ y6 (kZ l 0))) (hupZ (updZ n g (a + 1)) g) n)
noncomputable def sq13 (b y4 y5 l n g : Int) : Int := (iteZ (lrcZ b y4 (kZ y5 (kZ l 0))) (hupZ (updZ n g y4) g) n)
def sL0 (i a b d k e l n g h z0 z2 z5 : Int) : Prop := (z0 : Int) = (rdZ (sq9 i a b d k e l n g) 2) ∧ qQf [.int .u32, .int .u32] z2 (rdZ (sq9 i a b d k e l n g) 0) h ∧ qQf [.int .i64] z5 (rdZ (sq9 i a b d k e l n g) 1) (rdZ (sq9 i a b d k e l n g) 2) ∧ True
def sq14 (y0 y1 y2 y3 y4 d y5 k e h b i a l n g : Int) : Prop := (Pm (PL 1 y0) (Pm (PL y0 43) (Pm (PL 0 y1) (Pm (PL y1 31) (Pm (PL 0 y2) (Pm (PL y2 31) (Pm (PL 0 y3) (Pm (PL y3 31) (Pm (PL (-32768) y4) (Pm (PL y4 65535) (Pm (((Pd y0 34) + (Pd y2 0)) + ((PL 0 y4) * (Pl y4 d))) (Pb (((PL 1 y0) * (PL y0 34)) + (Pe y0 40)) (Pb (fseZ y0 y2 (kZ y3 (kZ y4 (kZ y5 (kZ d (kZ k (kZ e 0))))))) (Pb (Pe y0 39) (Pm (PL 0 y4) (Pm (PL y4 1000000) (Pn (sq5 y5 y1) 0 4294967295 fun y6 => (Pm (Pe h b) (sL0 i a b d k e l n g h (g + (lrcZ b y4 (kZ y6 (kZ l 0)))) (sq0 b y4 y6 l) (sq8 b y4 y6 l n g)))))) (Pb (Pe y0 40) (Pm (PL 0 y4) (Pm (PL y4 1000000) (Pn (sq5 y5 y1) 0 4294967295 fun y6 => (Pm (Pe h b) (sL0 i a b d k e l n g h (g + (lrcZ b y4 (kZ y6 (kZ l 0)))) (sq0 b y4 y6 l) (sq8 b y4 y6 l n g)))))) (Pb (Pe y0
 36) (Pm (PL 0 y4) (Pm (PL y4 1000000) (Pn (sq5 y5 y1) 0 4294967295 fun y6 => (Pm (Pe h b) (Pn (g + (lrcZ b y4 (kZ y6 (kZ l 0)))) 0 999991 fun y7 => (sL0 i a b d k e l n g h (y7 + (sq7 b a y6 y4 l)) (sq3 b a y6 y4 l) (sq1 b a y6 y4 l n g y7))))))) (Pb (Pe y0 37) (Pm (PL 0 y4) (Pm (PL y4 1000000) (Pn (sq5 y5 y1) 0 4294967295 fun y6 => (Pm (Pe h b) (Pn (g + (lrcZ b y4 (kZ y6 (kZ l 0)))) 0 999991 fun y7 => (sL0 i a b d k e l n g h (y7 + (sq7 b a y6 y4 l)) (sq3 b a y6 y4 l) (sq1 b a y6 y4 l n g y7))))))) (Pb (Pe y0 38) (Pm (PL 0 y4) (Pm (PL y4 1000000) (Pn (sq5 y5 y1) 0 4294967295 fun y6 => (Pm (Pe h b) (Pn (g + (lrcZ b y4 (kZ y6 (kZ l 0)))) 0 999991 fun y7 => (sL0 i a b d k e l n g h (y7 + (sq7 b a y6 y4 l)) (sq3 b a y6 y4 l) (sq1 b a y6 y4 l n g y7))))))) (Pn (sq5 y5 y1) 0 4294967295 fun y6
 => (Pm (Pe h b) (sL0 i a b d k e l n g h (g + (lrcZ b (a + 1) (kZ y6 (kZ l 0)))) (sq11 b a y6 l) (sq12 b a y6 l n g))))))))) (Pb (Pe y0 39) (Pm (PL 0 y4) (Pm (PL y4 1000000) (Pn (bandn .u32 y5 (shlZ .u32 1 (IntKind.wrap .u64 y1))) 0 4294967295 fun y6 => (Pm (Pe h b) (sL0 i a b d k e l n g h (g + (lrcZ b y4 (kZ y6 (kZ l 0)))) (sq0 b y4 y6 l) (sq8 b y4 y6 l n g)))))) (Pb (Pe y0 40) (Pm (PL 0 y4) (Pm (PL y4 1000000) (Pn (bandn .u32 y5 (shlZ .u32 1 (IntKind.wrap .u64 y1))) 0 4294967295 fun y6 => (Pm (Pe h b) (sL0 i a b d k e l n g h (g + (lrcZ b y4 (kZ y6 (kZ l 0)))) (sq0 b y4 y6 l) (sq8 b y4 y6 l n g)))))) (Pb (Pe y0 36) (Pm (PL 0 y4) (Pm (PL y4 1000000) (Pn (bandn .u32 y5 (shlZ .u32 1 (IntKind.wrap .u64 y1))) 0 4294967295 fun y6 => (Pm (Pe h b) (Pn (g + (lrcZ b y4 (kZ y6 (kZ l 0)))) 0
 999991 fun y7 => (sL0 i a b d k e l n g h (y7 + (sq7 b a y6 y4 l)) (sq3 b a y6 y4 l) (sq1 b a y6 y4 l n g y7))))))) (Pb (Pe y0 37) (Pm (PL 0 y4) (Pm (PL y4 1000000) (Pn (bandn .u32 y5 (shlZ .u32 1 (IntKind.wrap .u64 y1))) 0 4294967295 fun y6 => (Pm (Pe h b) (Pn (g + (lrcZ b y4 (kZ y6 (kZ l 0)))) 0 999991 fun y7 => (sL0 i a b d k e l n g h (y7 + (sq7 b a y6 y4 l)) (sq3 b a y6 y4 l) (sq1 b a y6 y4 l n g y7))))))) (Pb (Pe y0 38) (Pm (PL 0 y4) (Pm (PL y4 1000000) (Pn (bandn .u32 y5 (shlZ .u32 1 (IntKind.wrap .u64 y1))) 0 4294967295 fun y6 => (Pm (Pe h b) (Pn (g + (lrcZ b y4 (kZ y6 (kZ l 0)))) 0 999991 fun y7 => (sL0 i a b d k e l n g h (y7 + (sq7 b a y6 y4 l)) (sq3 b a y6 y4 l) (sq1 b a y6 y4 l n g y7))))))) (Pn (bandn .u32 y5 (shlZ .u32 1 (IntKind.wrap .u64 y1))) 0 4294967295 fun y6 => (Pm
 (Pe h b) (sL0 i a b d k e l n g h (g + (lrcZ b (a + 1) (kZ y6 (kZ l 0)))) (sq11 b a y6 l) (sq12 b a y6 l n g)))))))))) (Pb (Pe y0 39) (Pm (PL 0 y4) (Pm (PL y4 1000000) (Pm (Pe h b) (sL0 i a b d k e l n g h (g + (lrcZ b y4 (kZ y5 (kZ l 0)))) (sq2 b y4 y5 l) (sq13 b y4 y5 l n g))))) (Pb (Pe y0 40) (Pm (PL 0 y4) (Pm (PL y4 1000000) (Pm (Pe h b) (sL0 i a b d k e l n g h (g + (lrcZ b y4 (kZ y5 (kZ l 0)))) (sq2 b y4 y5 l) (sq13 b y4 y5 l n g))))) (Pb (Pe y0 36) (Pm (PL 0 y4) (Pm (PL y4 1000000) (Pm (Pe h b) (Pn (g + (lrcZ b y4 (kZ y5 (kZ l 0)))) 0 999991 fun y6 => (sL0 i a b d k e l n g h (y6 + (sq10 b a y5 y4 l)) (sq6 b a y5 y4 l) (sq4 b a y5 y4 l n g y6)))))) (Pb (Pe y0 37) (Pm (PL 0 y4) (Pm (PL y4 1000000) (Pm (Pe h b) (Pn (g + (lrcZ b y4 (kZ y5 (kZ l 0)))) 0 999991 fun y6 => (sL0 i a b d k
 e l n g h (y6 + (sq10 b a y5 y4 l)) (sq6 b a y5 y4 l) (sq4 b a y5 y4 l n g y6)))))) (Pb (Pe y0 38) (Pm (PL 0 y4) (Pm (PL y4 1000000) (Pm (Pe h b) (Pn (g + (lrcZ b y4 (kZ y5 (kZ l 0)))) 0 999991 fun y6 => (sL0 i a b d k e l n g h (y6 + (sq10 b a y5 y4 l)) (sq6 b a y5 y4 l) (sq4 b a y5 y4 l n g y6)))))) (Pm (Pe h b) (sL0 i a b d k e l n g h (g + (lrcZ b (a + 1) (kZ y5 (kZ l 0)))) (iteZ (lrcZ b (a + 1) (kZ y5 (kZ l 0))) (lrvZ l (a + 1) y5) l) (iteZ (lrcZ b (a + 1) (kZ y5 (kZ l 0))) (hupZ (updZ n g (a + 1)) g) n))))))))))))))))))))
def P (a b c d e f g h i j k l n o p : Int) : Prop :=
 (Pm (Pl a b) (Pn (W6 (rdZ (rdZ i a) 0)) (-9223372036854775808) 9223372036854775807 fun y0 => Pn (W6 (rdZ (rdZ i a) 1)) (-9223372036854775808) 9223372036854775807 fun y1 => Pn (W6 (rdZ (rdZ i a) 2)) (-9223372036854775808) 9223372036854775807 fun y2 => Pn (W6 (rdZ (rdZ i a) 3)) (-9223372036854775808) 9223372036854775807 fun y3 => Pn (W6 (rdZ (rdZ i a) 4)) (-9223372036854775808) 9223372036854775807 fun y4 => (Pm (Pl a h) (Pn (U3 (rdZ (rdZ l a) 1)) 0 4294967295 fun y5 => (Pb (Pe y0 0) (sL0 i a b d k e l n g h g l n) (Pb (Pe y0 41) (sL0 i a b d k e l n g h g l n) (Pb (Pe y0 43) (sL0 i a b d k e l n g h g l n) (Pb (Pe y0 34) (Pb (Pe y2 0) (Pb (PL c y4) (sL0 i a b d k e l n g h g l n) (sq14 y0 y1 y2 y3 y4 d y5 k e h b i a l n g)) (sq14 y0 y1 y2 y3 y4 d y5 k e h b i a l n g)) (Pb (Pe y0 35) (Pb
 (Pe y2 0) (Pb (PL c y4) (sL0 i a b d k e l n g h g l n) (sq14 y0 y1 y2 y3 y4 d y5 k e h b i a l n g)) (sq14 y0 y1 y2 y3 y4 d y5 k e h b i a l n g)) (sq14 y0 y1 y2 y3 y4 d y5 k e h b i a l n g))))))))))
set_option maxHeartbeats 16000000 in
theorem holds (pc nc nD nS m m2 nW nV cq cD cS v w rD rS : Int) (l_pc : 0 ≤ pc) (u_pc : pc ≤ 16383) (l_nc : 0 ≤ nc) (u_nc : nc ≤ 16384) (l_nD : 0 ≤ nD) (u_nD : nD ≤ 2048) (l_nS : 0 ≤ nS) (u_nS : nS ≤ 2048) (l_m : 0 ≤ m) (u_m : m ≤ 1) (l_m2 : 0 ≤ m2) (u_m2 : m2 ≤ 1) (l_nW : 0 ≤ nW) (u_nW : nW ≤ 999990) (l_nV : 0 ≤ nV) (u_nV : nV ≤ 16384) (h_pre0 : qQz (decide (pc+1 ≤ nc)) ≠ 0) (h_pre1 : qQz (nS == nD) ≠ 0) (h_pre2 : qQz (nV == nc) ≠ 0) (h_pre3 : (qQz (decide (0 ≤ (IntKind.wrap .i64 (rdZ (rdZ cq pc) 0))))) ≠ 0) (h_pre4 : (qQz (decide ((IntKind.wrap .i64 (rdZ (rdZ cq pc) 0)) ≤ 43))) ≠ 0) (h_pre5 : (qQz (decide (0 ≤ (IntKind.wrap .i64 (rdZ (rdZ cq pc) 1))))) ≠ 0) (h_pre6 : (qQz (decide ((IntKind.wrap .i64 (rdZ (rdZ cq pc) 1)) ≤ 31))) ≠ 0) (h_pre7 : (qQz (decide (0 ≤ (IntKind.wrap .i64 (rdZ (rdZ cq pc) 2))))) ≠ 0) (h_pre8 : (qQz (decide ((IntKind.wrap .i64 (rdZ (rdZ cq pc) 2)) ≤ 31))) ≠ 0) (h_pre9 : (qQz (decide (0 ≤ (IntKind.wrap .i64 (rdZ (rdZ cq pc) 3))))) ≠ 0) (h_pre10 : (qQz (decide ((IntKind.wrap .i64 (rdZ (rdZ cq pc) 3)) ≤ 31))) ≠ 0) (h_pre11 : (qQz (decide ((0 - 32768) ≤ (IntKind.wrap .i64 (rdZ (rdZ cq pc) 4))))) ≠ 0) (h_pre12 : (qQz (decide ((IntKind.wrap .i64 (rdZ (rdZ cq pc) 4)) ≤ 65535))) ≠ 0) (h_pre13 : ((qQz ((IntKind.wrap .i64 (rdZ (rdZ cq pc) 0)) == 31)) + (qQz (decide (0 ≤ (IntKind.wrap .i64 (rdZ (rdZ cq pc) 4)))))) ≠ 0) : P pc nc nD nS m m2 nW nV cq cD cS v w rD rS := by
 delta P sq0 sq1 sq2 sq3 sq4 sq5 sq6 sq7 sq8 sq9 sq10 sq11 sq12 sq13 sq14 sL0 Pb Pm Pn PL Pl Pe Pd W6 U3 kZ
 simp only [nrm, nro, Int.reduceEq, Int.reduceNeg, reduceIte]
 simp only [show ∀ x k : Int, qQz (x == k) = if x = k then 1 else 0 from bo1, bo2] at h_pre0 h_pre1 h_pre2 h_pre3 h_pre4 h_pre5 h_pre6 h_pre7 h_pre8 h_pre9 h_pre10 h_pre11 h_pre12 h_pre13
 have hpc : pc < nc := Classical.byContradiction fun g => h_pre0 (if_neg (by omega))
 have hnD : nS = nD := Classical.byContradiction fun g => h_pre1 (if_neg g)
 subst hnD
 have hv : nc = nV := Classical.byContradiction fun g => h_pre2 (if_neg fun k => g k.symm)
 subst hv
 refine ⟨hpc, ?_⟩
 rintro op hop - d hd - a ha - b hb - n hn -
 refine ⟨hpc, ?_⟩
 rintro s hs -
 simp only [← hop, ← hd, ← ha, ← hb, ← hn, ← hs] at *
 generalize hR : lpsZ op d _ = R
 obtain ⟨r0, r1, r2⟩ := lps_ev hR.symm
 have o0 : 0 ≤ op := Classical.byContradiction fun g => h_pre3 (if_neg g)
 have o1 : op ≤ 43 := Classical.byContradiction fun g => h_pre4 (if_neg g)
 have d0 : 0 ≤ d := Classical.byContradiction fun g => h_pre5 (if_neg g)
 have d1 : d ≤ 31 := Classical.byContradiction fun g => h_pre6 (if_neg g)
 have a0 : 0 ≤ a := Classical.byContradiction fun g => h_pre7 (if_neg g)
 have a1 : a ≤ 31 := Classical.byContradiction fun g => h_pre8 (if_neg g)
 have b0 : 0 ≤ b := Classical.byContradiction fun g => h_pre9 (if_neg g)
 have b1 : b ≤ 31 := Classical.byContradiction fun g => h_pre10 (if_neg g)
 have n0 : 0 - 32768 ≤ n := Classical.byContradiction fun g => h_pre11 (if_neg g)
 have n1 : n ≤ 65535 := Classical.byContradiction fun g => h_pre12 (if_neg g)
 have np : op = 31 ∨ 0 ≤ n := Classical.byContradiction fun g => h_pre13 (by rw [if_neg (fun k => g (.inl k)), if_neg (fun k => g (.inr k))]; decide)
 clear h_pre0 h_pre1 h_pre2 h_pre3 h_pre4 h_pre5 h_pre6 h_pre7 h_pre8 h_pre9 h_pre10 h_pre11 h_pre12 h_pre13 hR
 have wd : IntKind.wrap .u64 d = d := by
  have : IntKind.wrap .u64 d = d % 18446744073709551616 := by simp [IntKind.wrap, IntKind.bits, IntKind.signed]
  omega
 have hp : qQz (decide (1 ≤ op)) * qQz (decide (op ≤ 34)) + qQz (op == 40) = 0 ↔ ¬ (1 ≤ op ∧ op ≤ 34 ∨ op = 40) := by
  rw [bo2, bo2, bo1]
  (repeat' split) <;> omega
 have bn : ∀ x k : Int, qQz (x != k) = if x ≠ k then 1 else 0 := fun x k => by unfold qQz; by_cases e : x = k <;> simp [e]
 have hm : qQz (op != 34) + qQz (a != 0) + qQz (decide (0 ≤ n)) * qQz (decide (n < nS)) = 0 ↔ ¬ (op ≠ 34 ∨ a ≠ 0 ∨ 0 ≤ n ∧ n < nS) := by
  rw [bn, bn, bo2]
  have e : qQz (decide (n < nS)) = if n < nS then 1 else 0 := by unfold qQz; by_cases e : n < nS <;> simp [e]
  rw [e]
  (repeat' split) <;> omega
 simp only [hp, hm, wd, Classical.not_not, true_and, eq_self]
 clear hp hm bn wd
 have fin : ∀ x y z, lpsT op d a b n pc nc nS cS m s (v, w, nW) = (x, y, z) → z = rdZ R 2 ∧ qQf [.int .u32, .int .u32] x (rdZ R 0) nc ∧ qQf [.int .i64] y (rdZ R 1) (rdZ R 2) := fun x y z h => by
  rw [r0, r1, r2, h]; exact ⟨rfl, qJq _ _ _, qJq _ _ _⟩
 have fin0 : (op = 0 ∨ endsP nS op a n) → nW = rdZ R 2 ∧ qQf [.int .u32, .int .u32] v (rdZ R 0) nc ∧ qQf [.int .i64] w (rdZ R 1) (rdZ R 2) := fun h => fin _ _ _ (by unfold lpsT; rw [if_pos h])
 have finJ : ∀ S, S = lsbZ op d a b n nS cS m s → ¬ (op = 0 ∨ endsP nS op a n) → (op = 39 ∨ op = 40) → nW + lrcZ nc n (qQq S (qQq v 0)) = rdZ R 2 ∧
   qQf [.int .u32, .int .u32] (if ¬ lrcZ nc n (qQq S (qQq v 0)) = 0 then lrvZ v n S else v) (rdZ R 0) nc ∧
   qQf [.int .i64] (if ¬ lrcZ nc n (qQq S (qQq v 0)) = 0 then hupZ (updZ w nW n) nW else w) (rdZ R 1) (rdZ R 2) := fun S hS h g => fin _ _ _ (by unfold lpsT; rw [if_neg h, if_pos g, ← hS, rch_ev])
 have finE : ∀ S, S = lsbZ op d a b n nS cS m s → ¬ (op = 0 ∨ endsP nS op a n) → ¬ (36 ≤ op ∧ op ≤ 40) → nW + lrcZ nc (pc + 1) (qQq S (qQq v 0)) = rdZ R 2 ∧
   qQf [.int .u32, .int .u32] (if ¬ lrcZ nc (pc + 1) (qQq S (qQq v 0)) = 0 then lrvZ v (pc + 1) S else v) (rdZ R 0) nc ∧
   qQf [.int .i64] (if ¬ lrcZ nc (pc + 1) (qQq S (qQq v 0)) = 0 then hupZ (updZ w nW (pc + 1)) nW else w) (rdZ R 1) (rdZ R 2) := fun S hS h g => fin _ _ _ (by unfold lpsT; rw [if_neg h, if_neg (by omega), if_neg (by omega), ← hS, rch_ev])
 have finB : ∀ S K, S = lsbZ op d a b n nS cS m s → ¬ (op = 0 ∨ endsP nS op a n) → (op = 36 ∨ op = 37 ∨ op = 38) → K = nW + lrcZ nc n (qQq S (qQq v 0)) →
   K + lrcZ nc (pc + 1) (qQq S (qQq (if ¬ lrcZ nc n (qQq S (qQq v 0)) = 0 then lrvZ v n S else v) 0)) = rdZ R 2 ∧
   qQf [.int .u32, .int .u32] (if ¬ lrcZ nc (pc + 1) (qQq S (qQq (if ¬ lrcZ nc n (qQq S (qQq v 0)) = 0 then lrvZ v n S else v) 0)) = 0 then lrvZ (if ¬ lrcZ nc n (qQq S (qQq v 0)) = 0 then lrvZ v n S else v) (pc + 1) S else if ¬ lrcZ nc n (qQq S (qQq v 0)) = 0 then lrvZ v n S else v) (rdZ R 0) nc ∧
   qQf [.int .i64] (if ¬ lrcZ nc (pc + 1) (qQq S (qQq (if ¬ lrcZ nc n (qQq S (qQq v 0)) = 0 then lrvZ v n S else v) 0)) = 0 then hupZ (updZ (if ¬ lrcZ nc n (qQq S (qQq v 0)) = 0 then hupZ (updZ w nW n) nW else w) K (pc + 1)) K else if ¬ lrcZ nc n (qQq S (qQq v 0)) = 0 then hupZ (updZ w nW n) nW else w) (rdZ R 1) (rdZ R 2) := fun S K hS h g hK => fin _ _ _ (by
    subst hK
    unfold lpsT; rw [if_neg h, if_neg (by omega), if_pos g, ← hS, rch_ev, rch_ev])
 have s1 : (op ≤ 34 ∨ op = 40) → ¬ fseZ op a (qQq b (qQq n (qQq s (qQq nS (qQq cS (qQq m 0)))))) = 0 → bor .u32 (bandn .u32 s (shlZ .u32 1 d)) (bandn .u32 (shlZ .u32 1 d) 1) = lsbZ op d a b n nS cS m s := fun h g => by
  unfold lsbZ; rw [if_pos h, if_pos g]; rfl
 have s2 : (op ≤ 34 ∨ op = 40) → fseZ op a (qQq b (qQq n (qQq s (qQq nS (qQq cS (qQq m 0)))))) = 0 → bandn .u32 s (shlZ .u32 1 d) = lsbZ op d a b n nS cS m s := fun h g => by
  unfold lsbZ; rw [if_pos h, if_neg (fun k => k g)]; rfl
 have s3 : ¬ (op ≤ 34 ∨ op = 40) → s = lsbZ op d a b n nS cS m s := fun h => by unfold lsbZ; rw [if_neg h]
 unfold endsP at fin0 finJ finE finB
 clear fin r0 r1 r2 hop hd ha hb hn hs
 generalize lsbZ op d a b n nS cS m s = Z at *
 repeat' (first | exact fin0 (by omega) | refine And.intro (fun _ => ?_) (fun _ => ?_) | refine ⟨by omega, ?_⟩ | fail)
 all_goals first
  | (exfalso; omega)
  | exact fin0 (by omega)
  | (rintro _ rfl -; exact finJ _ (s1 (by omega) (by assumption)) (by omega) (by omega))
  | (rintro _ rfl -; exact finJ _ (s2 (by omega) (by assumption)) (by omega) (by omega))
  | exact finJ _ (s3 (by omega)) (by omega) (by omega)
  | (rintro _ rfl -; exact finE _ (s1 (by omega) (by assumption)) (by omega) (by omega))
  | (rintro _ rfl -; exact finE _ (s2 (by omega) (by assumption)) (by omega) (by omega))
  | exact finE _ (s3 (by omega)) (by omega) (by omega)
  | (rintro _ rfl - _ rfl -; exact finB _ _ (s1 (by omega) (by assumption)) (by omega) (by omega) rfl)
  | (rintro _ rfl - _ rfl -; exact finB _ _ (s2 (by omega) (by assumption)) (by omega) (by omega) rfl)
  | (rintro _ rfl -; exact finB _ _ (s3 (by omega)) (by omega) (by omega) rfl)
  | trace_state
theorem plain (i v ro p) : statH 2 rk tree ⟨i, fN, v, ro, p⟩ = P (i 0) (i 1) (i 2) (i 3) (i 4) (i 5) (i 6) (i 7) (i 8) (i 9) (i 10) (i 11) (i 12) (i 13) (i 14) := by kernel_rfl
theorem ran : ranH us (fun _ _ => .auto) rk 2 tree = true := by kernel_rfl
theorem fineT : fineH 2 rk tree = true := by kernel_rfl
theorem ok : RhOk (cxOf 2) rk.rh := okH us_ok ran fineT (by kernel_rfl) okk fun i v ro p hρ hpre => by rw [plain]; have q := hρ.hi; exact holds _ _ _ _ _ _ _ _ _ _ _ _ _ _ _ (q 0 _ rfl).1 (q 0 _ rfl).2 (q 1 _ rfl).1 (q 1 _ rfl).2 (q 2 _ rfl).1 (q 2 _ rfl).2 (q 3 _ rfl).1 (q 3 _ rfl).2 (q 4 _ rfl).1 (q 4 _ rfl).2 (q 5 _ rfl).1 (q 5 _ rfl).2 (q 6 _ rfl).1 (q 6 _ rfl).2 (q 7 _ rfl).1 (q 7 _ rfl).2 (hpre _ (mg 0 rfl)) (hpre _ (mg 1 rfl)) (hpre _ (mg 2 rfl)) (hpre _ (mg 3 rfl)) (hpre _ (mg 4 rfl)) (hpre _ (mg 5 rfl)) (hpre _ (mg 6 rfl)) (hpre _ (mg 7 rfl)) (hpre _ (mg 8 rfl)) (hpre _ (mg 9 rfl)) (hpre _ (mg 10 rfl)) (hpre _ (mg 11 rfl)) (hpre _ (mg 12 rfl)) (hpre _ (mg 13 rfl))
end CLPass
end Go.Proofs.Yteimodjkllldlac
