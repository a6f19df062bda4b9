/-
  What functions of the program answer, as numbers of what they are handed: their runs by the engine, the plain statements behind them. No condition.
-/
import Derived.Test.YteimodjkllldlacKa
import Derived.Test.YteimodjkllldlacKb
import Derived.Test.YteimodjkllldlacKc
import Derived.Test.YteimodjkllldlacGab
import Derived.Test.YteimodjkllldlacGp5
import Derived.Test.YteimodjkllldlacGp1
set_option linter.unusedVariables false
set_option linter.unusedSimpArgs false
set_option maxRecDepth 100000
namespace Go.Proofs.Yteimodjkllldlac
open Go.Eng Go.RowKit
namespace CFCheck
def rc : Rc := ⟨6, [some 5], [.row [.int .u32] 1000000, .row [.int .i32] 1000000, .row [.bool] 1000000, .row [.int .i64] 1000000, .row [.int .i64] 1000000], [], .agg 2, [.int .i64 (.ite (.b .ne .i64 (.f 84 (.v 0) (.v 1) (qQs [(.v 2), (.v 3), (.v 4), (.v 8), (.v 9)])) (.c 0)) (.f 84 (.v 0) (.v 1) (qQs [(.v 2), (.v 3), (.v 4), (.v 8), (.v 9)])) (.f 104 (.v 5) (.v 0) (qQs [(.v 1), (.v 7), (.v 8), (.v 3)]))), .int .i64 (.ite (.b .ne .i64 (.f 84 (.v 0) (.v 1) (qQs [(.v 2), (.v 3), (.v 4), (.v 8), (.v 9)])) (.c 0)) (.c (-1)) (.f 105 (.v 5) (.v 0) (qQs [(.v 1), (.v 7), (.v 8), (.v 3)])))]⟩
theorem okb : rc.ok = true := by kernel_rfl
def mk14_3 : qZi := [([0, 18], .num (0) (4611686018427387904)), ([1, 3, 5], .arr [.int .i64, .int .i64, .int .i64, .int .i64, .int .i64] 50), ([0, 5], .wilds 3), ([0, 19], .wilds 19)]
def mk15_1 : qZi := [([1, 4, 0], .code), ([1, 3, 9], .arr [.int .i64] 3), ([0, 2], .wilds 2), ([0, 6], .wilds 18)]
def mk6_9 : qZi := [([0, 26], .num (0) (4611686018427387904)), ([0, 5], .wilds 1), ([0, 27], .wilds 5), ([0, 34], .wilds 1)]
noncomputable def us : SMs := fun Γ ins n => smH (cxG n Γ ins) [CHDown.rk.rh, CHUp.rk.rh, CLPass.rk.rh] (smR (cxG n Γ ins) [CICheck.rc, CCDec.rc, CSCon.rc])
theorem us_ok : SMsOk us := fun Γ ins n => qJx (tabsG n Γ ins) (qXz CHDown.okh (rh_n CHDown.ok) (qXz CHUp.okh (rh_n CHUp.ok) (qXz CLPass.okh (rh_n CLPass.ok) (qZc _)))) (qJj (tabsG n Γ ins) (qQo CICheck.okb (rc_n CICheck.ok) (qQo CCDec.okb (rc_n CCDec.ok) (qQo CSCon.okb (rc_n CSCon.ok) (qZe _)))))
def Q0 : E := (.cl 1001 0 4611686018427387904)
def Q1 : E := (tR (.v 8) Q0)
def Q2 : E := (t6 Q1)
def Q3 : E := (tp Q0 (.c 1))
def Q4 : E := (.cl 1005 0 4611686018427387904)
def Q5 : E := (tR (.v 5) Q4)
def Q6 : E := (.w .u32 Q5)
def Q7 : E := (.cl 1007 0 1000000)
def Q8 : E := (tp Q7 (.c 1))
def Q9 : E := (tl Q8 (.c 1000000))
def Q10 : E := (tp Q4 (.c 1))
def Q11 : E := (.cl 1018 0 1000000)
def Q12 : E := (tk (.c 0) Q11)
def Q13 : E := (.b .psub .i64 Q11 (.c 1))
def Q14 : E := (tl (.c 0) Q13)
def Q15 : E := (tk Q13 Q11)
def Q16 : E := (tR (.v 1017) Q13)
def Q17 : E := (t6 Q16)
def Q18 : E := (tp Q13 (.c 1))
def Q19 : E := (tl Q18 Q11)
def Q20 : E := (tl Q13 Q11)
def Q21 : E := (.cl 1021 (-9223372036854775808) 9223372036854775807)
def Q22 : E := (.f 14 (.v 1017) (.c 0) Q21)
def Q23 : E := (tR (.v 1017) (.c 0))
def Q24 : E := (t6 Q23)
def Q25 : E := (.f 14 Q22 Q13 Q24)
def Q26 : E := (.f 107 Q25 Q13 (.c 0))
def Q27 : E := (tR Q26 Q13)
def Q28 : E := (t6 Q27)
def Q29 : E := (tl (.c 0) Q28)
def Q30 : E := (tl Q28 (.c 16383))
def Q31 : E := (tl Q7 (.c 16384))
def Q32 : E := (tl (.v 1) (.c 2048))
def Q33 : E := (tl (.v 2) (.c 2048))
def Q34 : E := (tl Q13 (.c 999990))
def Q35 : E := (tl (.v 0) (.c 16384))
def Q36 : E := (.cl 1022 (-9223372036854775808) 9223372036854775807)
def Q37 : E := (tp Q36 (.c 1))
def Q38 : E := (tl Q37 Q7)
def Q39 : E := (te (.v 0) Q7)
def Q40 : E := (tR (.v 1006) Q36)
def Q41 : E := (tR Q40 (.c 0))
def Q42 : E := (t6 Q41)
def Q43 : E := (tl (.c 0) Q42)
def Q44 : E := (tl Q42 (.c 43))
def Q45 : E := (tR Q40 (.c 1))
def Q46 : E := (t6 Q45)
def Q47 : E := (tl (.c 0) Q46)
def Q48 : E := (tl Q46 (.c 31))
def Q49 : E := (tR Q40 (.c 2))
def Q50 : E := (t6 Q49)
def Q51 : E := (tl (.c 0) Q50)
def Q52 : E := (tl Q50 (.c 31))
def Q53 : E := (tR Q40 (.c 3))
def Q54 : E := (t6 Q53)
def Q55 : E := (tl (.c 0) Q54)
def Q56 : E := (tl Q54 (.c 31))
def Q57 : E := (tR Q40 (.c 4))
def Q58 : E := (t6 Q57)
def Q59 : E := (tl (.c (-32768)) Q58)
def Q60 : E := (tl Q58 (.c 65535))
def Q61 : E := (te Q42 (.c 31))
def Q62 : E := (tl (.c 0) Q58)
def Q63 : E := (tp Q61 Q62)
def Q64 : E := (.f 113 (.v 7) (.v 2) (.c 1))
def Q65 : E := (tR (.v 1019) Q36)
def Q66 : E := (tR Q65 (.c 1))
def Q67 : E := (.w .u32 Q66)
def Q68 : E := (tC Q13 (.c 0))
def Q69 : E := (tC Q26 Q68)
def Q70 : E := (tC (.v 1019) Q69)
def Q71 : E := (tC Q67 Q70)
def Q72 : E := (tC Q64 Q71)
def Q73 : E := (tC (.v 7) Q72)
def Q74 : E := (tC (.v 2) Q73)
def Q75 : E := (tC Q7 Q74)
def Q76 : E := (tC Q36 Q75)
def Q77 : E := (tC Q58 Q76)
def Q78 : E := (tC Q54 Q77)
def Q79 : E := (tC Q50 Q78)
def Q80 : E := (.f 116 Q42 Q46 Q79)
def Q81 : E := (tR Q80 (.c 2))
def Q82 : E := (tl (.c 0) Q81)
def Q83 : E := (tl Q81 (.c 1000000))
def Q84 : E := (tR Q80 (.c 1))
def Q85 : E := (tR Q80 (.c 0))
def Q86 : E := (.cl 1025 0 4611686018427387904)
def Q87 : E := (tk Q86 Q7)
def Q88 : E := (tR (.v 1006) Q86)
def Q89 : E := (tR Q88 (.c 0))
def Q90 : E := (t6 Q89)
def Q91 : E := (tR Q88 (.c 1))
def Q92 : E := (t6 Q91)
def Q93 : E := (tR Q88 (.c 2))
def Q94 : E := (t6 Q93)
def Q95 : E := (tR Q88 (.c 3))
def Q96 : E := (t6 Q95)
def Q97 : E := (tR Q88 (.c 4))
def Q98 : E := (t6 Q97)
def Q99 : E := (tk Q86 (.v 0))
def Q100 : E := (tR (.v 1019) Q86)
def Q101 : E := (tR Q100 (.c 0))
def Q102 : E := (.w .u32 Q101)
def Q103 : E := (tR Q100 (.c 1))
def Q104 : E := (.w .u32 Q103)
def Q105 : E := (.cl 1033 0 4294967295)
def Q106 : E := (.cl 1028 (-9223372036854775808) 9223372036854775807)
def Q107 : E := (.w .u64 Q106)
def Q108 : E := (.b .shl .u32 (.c 1) Q107)
def Q109 : E := (.b .and .u32 Q105 Q108)
def Q110 : E := (.cl 1029 (-9223372036854775808) 9223372036854775807)
def Q111 : E := (.w .u64 Q110)
def Q112 : E := (.b .shl .u32 (.c 1) Q111)
def Q113 : E := (.b .and .u32 Q105 Q112)
def Q114 : E := (.cl 1030 (-9223372036854775808) 9223372036854775807)
def Q115 : E := (.w .u64 Q114)
def Q116 : E := (.b .shl .u32 (.c 1) Q115)
def Q117 : E := (.b .and .u32 Q105 Q116)
def Q118 : E := (te (.cl 1032 0 4294967295) (.c 0))
def Q119 : E := (tp Q86 (.c 1))
def Q120 : E := (tl Q119 (.c 4611686018427387904))
def Q121 : E := (.cl 1027 (-9223372036854775808) 9223372036854775807)
def Q122 : E := (te Q121 (.c 34))
def Q123 : E := (te Q110 (.c 0))
def Q124 : E := (.cl 1031 (-9223372036854775808) 9223372036854775807)
def Q125 : E := (tl (.v 1) Q124)
def Q126 : E := (te Q121 (.c 22))
def Q127 : E := (.cl 1035 0 4294967295)
def Q128 : E := (tn Q127 (.c 0))
def Q129 : E := (.cl 1036 0 4294967295)
def Q130 : E := (tn Q129 (.c 0))
def Q131 : E := (te Q121 (.c 23))
def Q132 : E := (te Q121 (.c 35))
def Q133 : E := (.cl 1034 0 4294967295)
def Q134 : E := (tn Q133 (.c 0))
def Q135 : E := (tl (.c 0) Q124)
def Q136 : E := (tk Q124 (.v 2))
def Q137 : E := (tR (.v 7) Q124)
def Q138 : E := (.nt Q137)
def Q139 : E := (.f 113 (.v 7) (.v 2) (.c 0))
def Q140 : E := (te Q121 (.c 36))
def Q141 : E := (te Q121 (.c 37))
def Q142 : E := (te Q121 (.c 38))
def Q143 : E := (te Q121 (.c 41))
def Q144 : E := (te (.v 1037) (.c 0))
def Q145 : E := (te (.v 1037) (.c 1))
def Q146 : E := (te (.v 1037) (.c 2))
def Q147 : E := (te (.v 1037) (.c 3))
def Q148 : E := (te (.v 1037) (.c 4))
def Q149 : E := (te (.v 1037) (.c 5))
def Q150 : E := (te (.v 1037) (.c 6))
def Q151 : E := (te (.v 1037) (.c 7))
def Q152 : E := (te (.v 1037) (.c 8))
def Q153 : E := (te (.v 1037) (.c 9))
def Q154 : E := (te (.v 1037) (.c 10))
def Q155 : E := (te (.v 1037) (.c 11))
def Q156 : E := (te (.v 1037) (.c 12))
def Q157 : E := (te (.v 1037) (.c 13))
def Q158 : E := (te (.v 1037) (.c 14))
def Q159 : E := (te (.v 1037) (.c 15))
def Q160 : E := (te (.v 1037) (.c 16))
def Q161 : E := (te (.v 1037) (.c 17))
def Q162 : E := (te (.v 1037) (.c 18))
def Q163 : E := (te (.v 1037) (.c 19))
def Q164 : E := (te (.v 1037) (.c 20))
def Q165 : E := (te (.v 1037) (.c 21))
def Q166 : E := (te (.v 1037) (.c 22))
def Q167 : E := (te (.v 1037) (.c 23))
def Q168 : E := (te (.v 1037) (.c 24))
def Q169 : E := (te (.v 1037) (.c 25))
def Q170 : E := (te (.v 1037) (.c 26))
def Q171 : E := (te (.v 1037) (.c 27))
def Q172 : E := (te (.v 1037) (.c 28))
def Q173 : E := (te (.v 1037) (.c 29))
def Q174 : E := (te (.v 1037) (.c 30))
def Q175 : E := (te (.v 1037) (.c 31))
def tree : TT (List E) :=
 (.br (tl (.v 0) (.v 10)) (.br (tl (.v 1) (.v 11)) (.br (tl (.v 2) (.v 12)) (.br (tl (.v 3) (.v 13)) (.br (tl (.v 4) (.v 14)) (.new 1000 (.f 84 (.v 0) (.v 1) (tC (.v 2) (tC (.v 3) (tC (.v 4) (tC (.v 8) (tC (.v 9) (.c 0))))))) (.br (tn (.cl 1000 0 9) (.c 0)) (.leaf [(.cl 1000 0 9), (.c (-1))]) (.loop ⟨1001, [some (0, 4611686018427387904)], [(.c 0)], 1003⟩ (.br (tk Q0 (.v 3)) (.br (tl (.c 0) Q2) (.br (tk Q2 (.v 2)) (.br (.nt (tR (.v 7) Q2)) (.exit 0) (.br (tl Q3 (.c 4611686018427387904)) (.back [Q3]) (.bad 303))) (.bad 200)) (.bad 200)) (.exit 1)) (.br (te (.v 1003) (.c 0)) (.leaf [(.c 12), (.c (-1))]) (.loop ⟨1005, [some (0, 4611686018427387904), none, some (0, 1000000)], [(.c 0), (.c 0), (.c 0)], 1015⟩ (.br (tk Q4 (.v 0)) (.new 1009 (.f 67 Q6 (.c 0) (.c 0)) (.new 1010 (.f 67 Q6 (.c 1) (.c
 0)) (.new 1011 (.f 67 Q6 (.c 2) (.c 0)) (.new 1012 (.f 67 Q6 (.c 3) (.c 0)) (.new 1013 (.f 67 Q6 (.c 4) (.c 0)) (.new 1014 (.f 67 Q6 (.c 5) (.c 0)) (.br Q9 (.br (tl Q10 (.c 4611686018427387904)) (.br Q9 (.back [Q10, (.f 14 (.v 1006) Q7 (tC (.cl 1009 (-32768) 65535) (tC (.cl 1010 (-32768) 65535) (tC (.cl 1011 (-32768) 65535) (tC (.cl 1012 (-32768) 65535) (tC (.cl 1013 (-32768) 65535) (.c 0))))))), Q8]) (.bad 303)) (.bad 303)) (.bad 200)))))))) (.exit 0)) (.br (tl Q7 (.c 0)) (.loop ⟨1017, [none, some (0, 1000000), none], [(.c 0), (.c 0), (.c 0)], 1023⟩ (.br Q12 (.br Q14 (.br Q15 (.new 1021 Q17 (.br Q19 (.br Q20 (.br Q29 (.br Q30 (.br Q31 (.br Q32 (.br Q33 (.br Q34 (.br Q35 (.new 1022 Q28 (.br Q38 (.br (te (.v 2) (.v 1)) (.br Q39 (.br Q43 (.br Q44 (.br Q47 (.br Q48 (.br Q51 (.br Q52 (.br
 Q55 (.br Q56 (.br Q59 (.br Q60 (.br Q63 (.br Q82 (.br Q83 (.back [Q84, Q81, Q85]) (.bad 303)) (.bad 303)) (.bad 200)) (.bad 200)) (.bad 200)) (.bad 200)) (.bad 200)) (.bad 200)) (.bad 200)) (.bad 200)) (.bad 200)) (.bad 200)) (.bad 200)) (.bad 200)) (.bad 200)) (.bad 200))) (.bad 200)) (.bad 200)) (.bad 200)) (.bad 200)) (.bad 200)) (.bad 200)) (.bad 200)) (.bad 200)) (.bad 200))) (.bad 200)) (.bad 200)) (.exit 0)) (.loop ⟨1025, [some (0, 4611686018427387904)], [(.c 0)], 1037⟩ (.br Q87 (.new 1027 Q90 (.new 1028 Q92 (.new 1029 Q94 (.new 1030 Q96 (.new 1031 Q98 (.br Q99 (.new 1032 Q102 (.new 1033 Q104 (.new 1034 Q109 (.new 1035 Q113 (.new 1036 Q117 (.br Q118 (.br Q120 (.back [Q119]) (.bad 303)) (.br Q122 (.br Q123 (.br Q125 (.br Q120 (.back [Q119]) (.bad 303)) (.br Q126 (.br Q128 (.exit 0)
 (.br Q130 (.exit 1) (.br Q120 (.back [Q119]) (.bad 303)))) (.br Q131 (.br Q128 (.exit 2) (.br Q130 (.exit 3) (.br Q120 (.back [Q119]) (.bad 303)))) (.br Q128 (.exit 4) (.br Q120 (.back [Q119]) (.bad 303)))))) (.br Q126 (.br Q128 (.exit 5) (.br Q130 (.exit 6) (.br Q120 (.back [Q119]) (.bad 303)))) (.br Q131 (.br Q128 (.exit 7) (.br Q130 (.exit 8) (.br Q120 (.back [Q119]) (.bad 303)))) (.br Q128 (.exit 9) (.br Q120 (.back [Q119]) (.bad 303)))))) (.br Q132 (.br Q123 (.br Q125 (.br Q120 (.back [Q119]) (.bad 303)) (.br Q126 (.br Q128 (.exit 10) (.br Q130 (.exit 11) (.br Q120 (.back [Q119]) (.bad 303)))) (.br Q131 (.br Q128 (.exit 12) (.br Q130 (.exit 13) (.br Q120 (.back [Q119]) (.bad 303)))) (.br Q134 (.br Q135 (.br Q136 (.br Q138 (.exit 14) (.br Q120 (.back [Q119]) (.bad 303))) (.bad 200))
 (.bad 200)) (.br Q120 (.back [Q119]) (.bad 303)))))) (.br Q126 (.br Q128 (.exit 15) (.br Q130 (.exit 16) (.br Q120 (.back [Q119]) (.bad 303)))) (.br Q131 (.br Q128 (.exit 17) (.br Q130 (.exit 18) (.br Q120 (.back [Q119]) (.bad 303)))) (.br Q128 (.exit 19) (.br Q134 (.br Q139 (.exit 20) (.br Q120 (.back [Q119]) (.bad 303))) (.br Q120 (.back [Q119]) (.bad 303))))))) (.br Q126 (.br Q128 (.exit 21) (.br Q130 (.exit 22) (.br Q120 (.back [Q119]) (.bad 303)))) (.br Q131 (.br Q128 (.exit 23) (.br Q130 (.exit 24) (.br Q120 (.back [Q119]) (.bad 303)))) (.br Q140 (.br Q134 (.exit 25) (.br Q128 (.exit 26) (.br Q120 (.back [Q119]) (.bad 303)))) (.br Q141 (.br Q134 (.exit 27) (.br Q128 (.exit 28) (.br Q120 (.back [Q119]) (.bad 303)))) (.br Q142 (.br Q134 (.exit 29) (.br Q128 (.exit 30) (.br Q120
 (.back [Q119]) (.bad 303)))) (.br Q143 (.exit 31) (.br Q120 (.back [Q119]) (.bad 303)))))))))))))))) (.bad 200))))))) (.exit 32)) (.br Q144 (.leaf [(.c 12), Q86]) (.br Q145 (.leaf [(.c 12), Q86]) (.br Q146 (.leaf [(.c 12), Q86]) (.br Q147 (.leaf [(.c 12), Q86]) (.br Q148 (.leaf [(.c 12), Q86]) (.br Q149 (.leaf [(.c 12), Q86]) (.br Q150 (.leaf [(.c 12), Q86]) (.br Q151 (.leaf [(.c 12), Q86]) (.br Q152 (.leaf [(.c 12), Q86]) (.br Q153 (.leaf [(.c 12), Q86]) (.br Q154 (.leaf [(.c 12), Q86]) (.br Q155 (.leaf [(.c 12), Q86]) (.br Q156 (.leaf [(.c 12), Q86]) (.br Q157 (.leaf [(.c 12), Q86]) (.br Q158 (.leaf [(.c 12), Q86]) (.br Q159 (.leaf [(.c 12), Q86]) (.br Q160 (.leaf [(.c 12), Q86]) (.br Q161 (.leaf [(.c 12), Q86]) (.br Q162 (.leaf [(.c 12), Q86]) (.br Q163 (.leaf [(.c 12), Q86]) (.br
 Q164 (.leaf [(.c 12), Q86]) (.br Q165 (.leaf [(.c 12), Q86]) (.br Q166 (.leaf [(.c 12), Q86]) (.br Q167 (.leaf [(.c 12), Q86]) (.br Q168 (.leaf [(.c 12), Q86]) (.br Q169 (.leaf [(.c 12), Q86]) (.br Q170 (.leaf [(.c 12), Q86]) (.br Q171 (.leaf [(.c 12), Q86]) (.br Q172 (.leaf [(.c 12), Q86]) (.br Q173 (.leaf [(.c 12), Q86]) (.br Q174 (.leaf [(.c 12), Q86]) (.br Q175 (.leaf [(.c 12), Q86]) (.leaf [(.c 0), (.c 0)]))))))))))))))))))))))))))))))))))) (.br (tk (.c 0) (.v 0)) (.loop ⟨1017, [none, some (0, 1000000), none], [(tC (.c 0) (.c 0)), (.c 1), (.f 14 (.c 0) (.c 0) (tC (.c 1) (tC (.c 0) (.c 0))))], 1023⟩ (.br Q12 (.br Q14 (.br Q15 (.new 1021 Q17 (.br Q19 (.br Q20 (.br Q29 (.br Q30 (.br Q31 (.br Q32 (.br Q33 (.br Q34 (.br Q35 (.new 1022 Q28 (.br Q38 (.br (te (.v 2) (.v 1)) (.br Q39 (.br
 Q43 (.br Q44 (.br Q47 (.br Q48 (.br Q51 (.br Q52 (.br Q55 (.br Q56 (.br Q59 (.br Q60 (.br Q63 (.br Q82 (.br Q83 (.back [Q84, Q81, Q85]) (.bad 303)) (.bad 303)) (.bad 200)) (.bad 200)) (.bad 200)) (.bad 200)) (.bad 200)) (.bad 200)) (.bad 200)) (.bad 200)) (.bad 200)) (.bad 200)) (.bad 200)) (.bad 200)) (.bad 200)) (.bad 200))) (.bad 200)) (.bad 200)) (.bad 200)) (.bad 200)) (.bad 200)) (.bad 200)) (.bad 200)) (.bad 200)) (.bad 200))) (.bad 200)) (.bad 200)) (.exit 0)) (.loop ⟨1025, [some (0, 4611686018427387904)], [(.c 0)], 1037⟩ (.br Q87 (.new 1027 Q90 (.new 1028 Q92 (.new 1029 Q94 (.new 1030 Q96 (.new 1031 Q98 (.br Q99 (.new 1032 Q102 (.new 1033 Q104 (.new 1034 Q109 (.new 1035 Q113 (.new 1036 Q117 (.br Q118 (.br Q120 (.back [Q119]) (.bad 303)) (.br Q122 (.br Q123 (.br Q125 (.br Q120
 (.back [Q119]) (.bad 303)) (.br Q126 (.br Q128 (.exit 0) (.br Q130 (.exit 1) (.br Q120 (.back [Q119]) (.bad 303)))) (.br Q131 (.br Q128 (.exit 2) (.br Q130 (.exit 3) (.br Q120 (.back [Q119]) (.bad 303)))) (.br Q128 (.exit 4) (.br Q120 (.back [Q119]) (.bad 303)))))) (.br Q126 (.br Q128 (.exit 5) (.br Q130 (.exit 6) (.br Q120 (.back [Q119]) (.bad 303)))) (.br Q131 (.br Q128 (.exit 7) (.br Q130 (.exit 8) (.br Q120 (.back [Q119]) (.bad 303)))) (.br Q128 (.exit 9) (.br Q120 (.back [Q119]) (.bad 303)))))) (.br Q132 (.br Q123 (.br Q125 (.br Q120 (.back [Q119]) (.bad 303)) (.br Q126 (.br Q128 (.exit 10) (.br Q130 (.exit 11) (.br Q120 (.back [Q119]) (.bad 303)))) (.br Q131 (.br Q128 (.exit 12) (.br Q130 (.exit 13) (.br Q120 (.back [Q119]) (.bad 303)))) (.br Q134 (.br Q135 (.br Q136 (.br Q138
 (.exit 14) (.br Q120 (.back [Q119]) (.bad 303))) (.bad 200)) (.bad 200)) (.br Q120 (.back [Q119]) (.bad 303)))))) (.br Q126 (.br Q128 (.exit 15) (.br Q130 (.exit 16) (.br Q120 (.back [Q119]) (.bad 303)))) (.br Q131 (.br Q128 (.exit 17) (.br Q130 (.exit 18) (.br Q120 (.back [Q119]) (.bad 303)))) (.br Q128 (.exit 19) (.br Q134 (.br Q139 (.exit 20) (.br Q120 (.back [Q119]) (.bad 303))) (.br Q120 (.back [Q119]) (.bad 303))))))) (.br Q126 (.br Q128 (.exit 21) (.br Q130 (.exit 22) (.br Q120 (.back [Q119]) (.bad 303)))) (.br Q131 (.br Q128 (.exit 23) (.br Q130 (.exit 24) (.br Q120 (.back [Q119]) (.bad 303)))) (.br Q140 (.br Q134 (.exit 25) (.br Q128 (.exit 26) (.br Q120 (.back [Q119]) (.bad 303)))) (.br Q141 (.br Q134 (.exit 27) (.br Q128 (.exit 28) (.br Q120 (.back [Q119]) (.bad 303)))) (.br
 Q142 (.br Q134 (.exit 29) (.br Q128 (.exit 30) (.br Q120 (.back [Q119]) (.bad 303)))) (.br Q143 (.exit 31) (.br Q120 (.back [Q119]) (.bad 303)))))))))))))))) (.bad 200))))))) (.exit 32)) (.br Q144 (.leaf [(.c 12), Q86]) (.br Q145 (.leaf [(.c 12), Q86]) (.br Q146 (.leaf [(.c 12), Q86]) (.br Q147 (.leaf [(.c 12), Q86]) (.br Q148 (.leaf [(.c 12), Q86]) (.br Q149 (.leaf [(.c 12), Q86]) (.br Q150 (.leaf [(.c 12), Q86]) (.br Q151 (.leaf [(.c 12), Q86]) (.br Q152 (.leaf [(.c 12), Q86]) (.br Q153 (.leaf [(.c 12), Q86]) (.br Q154 (.leaf [(.c 12), Q86]) (.br Q155 (.leaf [(.c 12), Q86]) (.br Q156 (.leaf [(.c 12), Q86]) (.br Q157 (.leaf [(.c 12), Q86]) (.br Q158 (.leaf [(.c 12), Q86]) (.br Q159 (.leaf [(.c 12), Q86]) (.br Q160 (.leaf [(.c 12), Q86]) (.br Q161 (.leaf [(.c 12), Q86]) (.br Q162 (.leaf
 [(.c 12), Q86]) (.br Q163 (.leaf [(.c 12), Q86]) (.br Q164 (.leaf [(.c 12), Q86]) (.br Q165 (.leaf [(.c 12), Q86]) (.br Q166 (.leaf [(.c 12), Q86]) (.br Q167 (.leaf [(.c 12), Q86]) (.br Q168 (.leaf [(.c 12), Q86]) (.br Q169 (.leaf [(.c 12), Q86]) (.br Q170 (.leaf [(.c 12), Q86]) (.br Q171 (.leaf [(.c 12), Q86]) (.br Q172 (.leaf [(.c 12), Q86]) (.br Q173 (.leaf [(.c 12), Q86]) (.br Q174 (.leaf [(.c 12), Q86]) (.br Q175 (.leaf [(.c 12), Q86]) (.leaf [(.c 0), (.c 0)]))))))))))))))))))))))))))))))))))) (.bad 200)))))))) (.bad 200)) (.bad 200)) (.bad 200)) (.bad 200)) (.bad 200))
noncomputable def sq0 (y6 y22 y7 c h y19 y17 y21 y18 : Int) : Int := (lpsZ (W6 (rdZ (rdZ y6 y22) 0)) (W6 (rdZ (rdZ y6 y22) 1)) (kZ (W6 (rdZ (rdZ y6 y22) 2)) (kZ (W6 (rdZ (rdZ y6 y22) 3)) (kZ (W6 (rdZ (rdZ y6 y22) 4)) (kZ y22 (kZ y7 (kZ c (kZ h (kZ (anyZ h c 1) (kZ (U3 (rdZ (rdZ y19 y22) 1)) (kZ y19 (kZ (hdnZ (updZ (updZ y17 0 y21) (y18 - 1) (W6 (rdZ y17 0))) (y18 - 1)) (kZ (y18 - 1) 0)))))))))))))
noncomputable def sq1 (y17 y21 y18 : Int) : Int := (W6 (rdZ (hdnZ (updZ (updZ y17 0 y21) (y18 - 1) (W6 (rdZ y17 0))) (y18 - 1)) (y18 - 1)))
def sL0 (a b c d e i j f h z0 z2 : Int) : Prop := (z0 : Int) = (iteZ (Pd (chkZ a b (kZ c (kZ d (kZ e (kZ i (kZ j 0)))))) 0) (chkZ a b (kZ c (kZ d (kZ e (kZ i (kZ j 0)))))) (fwhZ f a (kZ b (kZ h (kZ i (kZ d 0)))))) ∧ (z2 : Int) = (iteZ (Pd (chkZ a b (kZ c (kZ d (kZ e (kZ i (kZ j 0)))))) 0) (-1) (fpcZ f a (kZ b (kZ h (kZ i (kZ d 0)))))) ∧ True
def sq2 (y18 y17 y7 b c a y6 h y19 d e i j f : Int) (m17 : Nat) (I1017 : Int → Int → Int → Nat → Prop) : Prop := (Pb (Pl 0 y18) (Pm (PL 0 (y18 - 1)) (Pm (Pl (y18 - 1) y18) (Pn (W6 (rdZ y17 (y18 - 1))) (-9223372036854775808) 9223372036854775807 fun y21 => (Pm (PL ((y18 - 1) + 1) y18) (Pm (PL (y18 - 1) y18) (Pm (PL 0 (sq1 y17 y21 y18)) (Pm (PL (sq1 y17 y21 y18) 16383) (Pm (PL y7 16384) (Pm (PL b 2048) (Pm (PL c 2048) (Pm (PL (y18 - 1) 999990) (Pm (PL a 16384) (Pn (sq1 y17 y21 y18) (-9223372036854775808) 9223372036854775807 fun y22 => (Pm (PL (y22 + 1) y7) (Pm (Pe c b) (Pm (Pe a y7) (Pm (PL 0 (W6 (rdZ (rdZ y6 y22) 0))) (Pm (PL (W6 (rdZ (rdZ y6 y22) 0)) 43) (Pm (PL 0 (W6 (rdZ (rdZ y6 y22) 1))) (Pm (PL (W6 (rdZ (rdZ y6 y22) 1)) 31) (Pm (PL 0 (W6 (rdZ (rdZ y6 y22) 2))) (Pm (PL (W6 (rdZ (rdZ y6
 y22) 2)) 31) (Pm (PL 0 (W6 (rdZ (rdZ y6 y22) 3))) (Pm (PL (W6 (rdZ (rdZ y6 y22) 3)) 31) (Pm (PL (-32768) (W6 (rdZ (rdZ y6 y22) 4))) (Pm (PL (W6 (rdZ (rdZ y6 y22) 4)) 65535) (Pm ((Pe (W6 (rdZ (rdZ y6 y22) 0)) 31) + (PL 0 (W6 (rdZ (rdZ y6 y22) 4)))) (Pm (PL 0 (rdZ (sq0 y6 y22 y7 c h y19 y17 y21 y18) 2)) (Pm (PL (rdZ (sq0 y6 y22 y7 c h y19 y17 y21 y18) 2) 1000000) (∃ m', m' < m17 ∧ I1017 (rdZ (sq0 y6 y22 y7 c h y19 y17 y21 y18) 1) (rdZ (sq0 y6 y22 y7 c h y19 y17 y21 y18) 2) (rdZ (sq0 y6 y22 y7 c h y19 y17 y21 y18) 0) m')))))))))))))))))))))))))))))) (∃ I1025 : Int → Nat → Prop, (∃ m, I1025 0 m) ∧ ∀ y25 : Int, ∀ m25, ((0 ≤ y25 ∧ y25 ≤ 4611686018427387904) ∧ True) → I1025 y25 m25 → (Pb (Pl y25 y7) (Pn (W6 (rdZ (rdZ y6 y25) 0)) (-9223372036854775808) 9223372036854775807 fun y27 => Pn (W6 (rdZ
 (rdZ y6 y25) 1)) (-9223372036854775808) 9223372036854775807 fun y28 => Pn (W6 (rdZ (rdZ y6 y25) 2)) (-9223372036854775808) 9223372036854775807 fun y29 => Pn (W6 (rdZ (rdZ y6 y25) 3)) (-9223372036854775808) 9223372036854775807 fun y30 => Pn (W6 (rdZ (rdZ y6 y25) 4)) (-9223372036854775808) 9223372036854775807 fun y31 => (Pm (Pl y25 a) (Pn (U3 (rdZ (rdZ y19 y25) 0)) 0 4294967295 fun y32 => Pn (U3 (rdZ (rdZ y19 y25) 1)) 0 4294967295 fun y33 => Pn (band .u32 y33 (shlZ .u32 1 (IntKind.wrap .u64 y28))) 0 4294967295 fun y34 => Pn (band .u32 y33 (shlZ .u32 1 (IntKind.wrap .u64 y29))) 0 4294967295 fun y35 => Pn (band .u32 y33 (shlZ .u32 1 (IntKind.wrap .u64 y30))) 0 4294967295 fun y36 => (Pb (Pe y32 0) (Pm (PL (y25 + 1) 4611686018427387904) (∃ m', m' < m25 ∧ I1025 (y25 + 1) m')) (Pb (Pe y27 34)
 (Pb (Pe y29 0) (Pb (PL b y31) (Pm (PL (y25 + 1) 4611686018427387904) (∃ m', m' < m25 ∧ I1025 (y25 + 1) m')) (Pb (Pe y27 22) (Pb (Pd y35 0) (sL0 a b c d e i j f h 12 y25) (Pb (Pd y36 0) (sL0 a b c d e i j f h 12 y25) (Pm (PL (y25 + 1) 4611686018427387904) (∃ m', m' < m25 ∧ I1025 (y25 + 1) m')))) (Pb (Pe y27 23) (Pb (Pd y35 0) (sL0 a b c d e i j f h 12 y25) (Pb (Pd y36 0) (sL0 a b c d e i j f h 12 y25) (Pm (PL (y25 + 1) 4611686018427387904) (∃ m', m' < m25 ∧ I1025 (y25 + 1) m')))) (Pb (Pd y35 0) (sL0 a b c d e i j f h 12 y25) (Pm (PL (y25 + 1) 4611686018427387904) (∃ m', m' < m25 ∧ I1025 (y25 + 1) m')))))) (Pb (Pe y27 22) (Pb (Pd y35 0) (sL0 a b c d e i j f h 12 y25) (Pb (Pd y36 0) (sL0 a b c d e i j f h 12 y25) (Pm (PL (y25 + 1) 4611686018427387904) (∃ m', m' < m25 ∧ I1025 (y25 + 1)
 m')))) (Pb (Pe y27 23) (Pb (Pd y35 0) (sL0 a b c d e i j f h 12 y25) (Pb (Pd y36 0) (sL0 a b c d e i j f h 12 y25) (Pm (PL (y25 + 1) 4611686018427387904) (∃ m', m' < m25 ∧ I1025 (y25 + 1) m')))) (Pb (Pd y35 0) (sL0 a b c d e i j f h 12 y25) (Pm (PL (y25 + 1) 4611686018427387904) (∃ m', m' < m25 ∧ I1025 (y25 + 1) m')))))) (Pb (Pe y27 35) (Pb (Pe y29 0) (Pb (PL b y31) (Pm (PL (y25 + 1) 4611686018427387904) (∃ m', m' < m25 ∧ I1025 (y25 + 1) m')) (Pb (Pe y27 22) (Pb (Pd y35 0) (sL0 a b c d e i j f h 12 y25) (Pb (Pd y36 0) (sL0 a b c d e i j f h 12 y25) (Pm (PL (y25 + 1) 4611686018427387904) (∃ m', m' < m25 ∧ I1025 (y25 + 1) m')))) (Pb (Pe y27 23) (Pb (Pd y35 0) (sL0 a b c d e i j f h 12 y25) (Pb (Pd y36 0) (sL0 a b c d e i j f h 12 y25) (Pm (PL (y25 + 1) 4611686018427387904) (∃ m', m' < m25
 ∧ I1025 (y25 + 1) m')))) (Pb (Pd y34 0) (Pm (PL 0 y31) (Pm (Pl y31 c) (Pb (Pe (rdZ h y31) 0) (sL0 a b c d e i j f h 12 y25) (Pm (PL (y25 + 1) 4611686018427387904) (∃ m', m' < m25 ∧ I1025 (y25 + 1) m'))))) (Pm (PL (y25 + 1) 4611686018427387904) (∃ m', m' < m25 ∧ I1025 (y25 + 1) m')))))) (Pb (Pe y27 22) (Pb (Pd y35 0) (sL0 a b c d e i j f h 12 y25) (Pb (Pd y36 0) (sL0 a b c d e i j f h 12 y25) (Pm (PL (y25 + 1) 4611686018427387904) (∃ m', m' < m25 ∧ I1025 (y25 + 1) m')))) (Pb (Pe y27 23) (Pb (Pd y35 0) (sL0 a b c d e i j f h 12 y25) (Pb (Pd y36 0) (sL0 a b c d e i j f h 12 y25) (Pm (PL (y25 + 1) 4611686018427387904) (∃ m', m' < m25 ∧ I1025 (y25 + 1) m')))) (Pb (Pd y35 0) (sL0 a b c d e i j f h 12 y25) (Pb (Pd y34 0) (Pb (anyZ h c 0) (sL0 a b c d e i j f h 12 y25) (Pm (PL (y25 + 1)
 4611686018427387904) (∃ m', m' < m25 ∧ I1025 (y25 + 1) m'))) (Pm (PL (y25 + 1) 4611686018427387904) (∃ m', m' < m25 ∧ I1025 (y25 + 1) m'))))))) (Pb (Pe y27 22) (Pb (Pd y35 0) (sL0 a b c d e i j f h 12 y25) (Pb (Pd y36 0) (sL0 a b c d e i j f h 12 y25) (Pm (PL (y25 + 1) 4611686018427387904) (∃ m', m' < m25 ∧ I1025 (y25 + 1) m')))) (Pb (Pe y27 23) (Pb (Pd y35 0) (sL0 a b c d e i j f h 12 y25) (Pb (Pd y36 0) (sL0 a b c d e i j f h 12 y25) (Pm (PL (y25 + 1) 4611686018427387904) (∃ m', m' < m25 ∧ I1025 (y25 + 1) m')))) (Pb (Pe y27 36) (Pb (Pd y34 0) (sL0 a b c d e i j f h 12 y25) (Pb (Pd y35 0) (sL0 a b c d e i j f h 12 y25) (Pm (PL (y25 + 1) 4611686018427387904) (∃ m', m' < m25 ∧ I1025 (y25 + 1) m')))) (Pb (Pe y27 37) (Pb (Pd y34 0) (sL0 a b c d e i j f h 12 y25) (Pb (Pd y35 0) (sL0 a b c d
 e i j f h 12 y25) (Pm (PL (y25 + 1) 4611686018427387904) (∃ m', m' < m25 ∧ I1025 (y25 + 1) m')))) (Pb (Pe y27 38) (Pb (Pd y34 0) (sL0 a b c d e i j f h 12 y25) (Pb (Pd y35 0) (sL0 a b c d e i j f h 12 y25) (Pm (PL (y25 + 1) 4611686018427387904) (∃ m', m' < m25 ∧ I1025 (y25 + 1) m')))) (Pb (Pe y27 41) (sL0 a b c d e i j f h 12 y25) (Pm (PL (y25 + 1) 4611686018427387904) (∃ m', m' < m25 ∧ I1025 (y25 + 1) m')))))))))))))) (sL0 a b c d e i j f h 0 0))))
def sq3 (a f b c h d e i j : Int) : Prop := (∃ I1005 : Int → Int → Int → Nat → Prop, (∃ m, I1005 0 0 0 m) ∧ ∀ y5 y6 y7 : Int, ∀ m5, ((0 ≤ y5 ∧ y5 ≤ 4611686018427387904) ∧ True ∧ (0 ≤ y7 ∧ y7 ≤ 1000000) ∧ True) → I1005 y5 y6 y7 m5 → (Pb (Pl y5 a) (Pn (decZ (U3 (rdZ f y5)) 0) (-32768) 65535 fun y9 => Pn (decZ (U3 (rdZ f y5)) 1) (-32768) 65535 fun y10 => Pn (decZ (U3 (rdZ f y5)) 2) (-32768) 65535 fun y11 => Pn (decZ (U3 (rdZ f y5)) 3) (-32768) 65535 fun y12 => Pn (decZ (U3 (rdZ f y5)) 4) (-32768) 65535 fun y13 => Pn (decZ (U3 (rdZ f y5)) 5) (-32768) 65535 fun y14 => (Pm (PL (y7 + 1) 1000000) (Pm (PL (y5 + 1) 4611686018427387904) (Pm (PL (y7 + 1) 1000000) (∃ m', m' < m5 ∧ I1005 (y5 + 1) (updZ y6 y7 (kZ y9 (kZ y10 (kZ y11 (kZ y12 (kZ y13 0)))))) (y7 + 1) m'))))) (Pb (PL y7 0) (∃ I1017 : Int →
 Int → Int → Nat → Prop, (∃ m, I1017 0 0 0 m) ∧ ∀ y17 y18 y19 : Int, ∀ m17, (True ∧ (0 ≤ y18 ∧ y18 ≤ 1000000) ∧ True ∧ True) → I1017 y17 y18 y19 m17 → (sq2 y18 y17 y7 b c a y6 h y19 d e i j f m17 I1017)) (Pm (Pl 0 a) (∃ I1017 : Int → Int → Int → Nat → Prop, (∃ m, I1017 (kZ 0 0) 1 (updZ 0 0 (kZ 1 (kZ 0 0))) m) ∧ ∀ y17 y18 y19 : Int, ∀ m17, (True ∧ (0 ≤ y18 ∧ y18 ≤ 1000000) ∧ True ∧ True) → I1017 y17 y18 y19 m17 → (sq2 y18 y17 y7 b c a y6 h y19 d e i j f m17 I1017))))))
def P (a b c d e f g h i j k l n o p : Int) : Prop :=
 (Pm (PL a k) (Pm (PL b l) (Pm (PL c n) (Pm (PL d o) (Pm (PL e p) (Pn (chkZ a b (kZ c (kZ d (kZ e (kZ i (kZ j 0)))))) 0 9 fun y0 => (Pb (Pd y0 0) (sL0 a b c d e i j f h y0 (-1)) (∃ I1001 : Int → Nat → Prop, (∃ m, I1001 0 m) ∧ ∀ y1 : Int, ∀ m1, ((0 ≤ y1 ∧ y1 ≤ 4611686018427387904) ∧ True) → I1001 y1 m1 → (Pb (Pl y1 d) (Pm (PL 0 (W6 (rdZ i y1))) (Pm (Pl (W6 (rdZ i y1)) c) (Pb (Pe (rdZ h (W6 (rdZ i y1))) 0) (Pb (Pe (0 : Int) 0) (sL0 a b c d e i j f h 12 (-1)) (sq3 a f b c h d e i j)) (Pm (PL (y1 + 1) 4611686018427387904) (∃ m', m' < m1 ∧ I1001 (y1 + 1) m'))))) (Pb (Pe (1 : Int) 0) (sL0 a b c d e i j f h 12 (-1)) (sq3 a f b c h d e i j)))))))))))
set_option maxHeartbeats 4000000 in
theorem holds (n0_0 n0_1 n0_2 n0_3 n0_4 c0_0 c0_1 c0_2 c0_3 c0_4 r0_0 r0_1 r0_2 r0_3 r0_4 : Int) (l_n0_0 : 0 ≤ n0_0) (u_n0_0 : n0_0 ≤ 1000000) (l_n0_1 : 0 ≤ n0_1) (u_n0_1 : n0_1 ≤ 1000000) (l_n0_2 : 0 ≤ n0_2) (u_n0_2 : n0_2 ≤ 1000000) (l_n0_3 : 0 ≤ n0_3) (u_n0_3 : n0_3 ≤ 1000000) (l_n0_4 : 0 ≤ n0_4) (u_n0_4 : n0_4 ≤ 1000000) (h_n0_0 : n0_0 ≤ r0_0) (h_n0_1 : n0_1 ≤ r0_1) (h_n0_2 : n0_2 ≤ r0_2) (h_n0_3 : n0_3 ≤ r0_3) (h_n0_4 : n0_4 ≤ r0_4) : P n0_0 n0_1 n0_2 n0_3 n0_4 c0_0 c0_1 c0_2 c0_3 c0_4 r0_0 r0_1 r0_2 r0_3 r0_4 := by
 delta P sq0 sq1 sq2 sq3 sL0 Pb Pm Pn PL Pl Pe Pd W6 U3 kZ
 simp only [nrm, nro, Int.reduceEq, Int.reduceNeg, reduceIte]
 refine ⟨h_n0_0, h_n0_1, h_n0_2, h_n0_3, h_n0_4, ?_⟩
 rintro x rfl -
 simp only [chk_ev]
 generalize hC : chk7 n0_0 n0_1 n0_2 n0_3 n0_4 c0_3 c0_4 = C
 refine ⟨fun h => by rw [if_pos h, if_pos h]; exact ⟨rfl, rfl⟩, fun h => ?_⟩
 obtain ⟨k1, k2, k3, k4, k5, k6, k7, k8⟩ := chk_zero (hC.trans h)
 have i0 : ∀ x y : Int, (if ¬ C = 0 then x else y) = y := fun x y => if_neg (fun g => g h)
 simp only [i0]
 subst k5
 refine ⟨fun i m => (0 ≤ i ∧ i ≤ n0_3) ∧ (∀ j, 0 ≤ j → j < i → rdZ c0_2 (IntKind.wrap .i64 (rdZ c0_3 j)) ≠ 0) ∧ m = (n0_3 - i).toNat, ⟨_, ⟨by decide, l_n0_3⟩, fun j _ _ => by omega, rfl⟩, ?_⟩
 rintro i m hb ⟨⟨z0, z1⟩, hI, rfl⟩
 refine ⟨fun hi => ?_, fun hi => ?_⟩
 ·obtain ⟨a0, a1, _⟩ := ad_at k6 hb hi k2
  refine ⟨a0, a1, fun hz => ?_, fun hz => ⟨by omega, _, ?_, ⟨by omega, by omega⟩, fun j j0 j1 => ?_, rfl⟩⟩
  ·have ho : openIn c0_2 c0_3 n0_3 := ⟨i, z0, hi, hz⟩
   obtain ⟨e1, e2⟩ := fwh_ev rfl (fpc_open ho (w := c0_0) (nc := n0_0) (nr := n0_2))
   rw [e1, e2, if_pos (by omega), if_pos (by omega)]; exact ⟨rfl, rfl⟩
  ·omega
  ·by_cases e : j = i
   ·subst e; exact hz
   ·exact hI j j0 (by omega)
 have ho : ¬ openIn c0_2 c0_3 n0_3 := fun ⟨j, j0, j1, hz⟩ => hI j j0 (by omega) hz
 clear hI z0 z1 hb
 refine ⟨fun i q n m => (0 ≤ i ∧ i ≤ n0_0) ∧ n = i ∧ InsOk c0_0 q i ∧ m = (n0_0 - i).toNat, ⟨_, ⟨by decide, l_n0_0⟩, rfl, fun j _ _ => by omega, rfl⟩, ?_⟩
 rintro i q n m - ⟨⟨z0, z1⟩, e, hQ, rfl⟩
 subst e
 refine ⟨fun hi => ?_, fun hi => ?_⟩
 ·rintro _ rfl - _ rfl - _ rfl - _ rfl - _ rfl - _ rfl -
  exact ⟨by omega, by omega, by omega, _, by omega, ⟨by omega, by omega⟩, rfl, ins_snoc hQ z0, rfl⟩
 obtain rfl : n0_0 = n := by omega
 have last : (∀ k, 0 ≤ k → k < n0_0 → ¬ qZn c0_0 n0_2 c0_2 (qQd c0_0 n0_0 n0_2 c0_2) k) → 0 = fwhZ c0_0 n0_0 (qQq n0_2 (qQq c0_2 (qQq c0_3 (qQq n0_3 0)))) ∧ 0 = fpcZ c0_0 n0_0 (qQq n0_2 (qQq c0_2 (qQq c0_3 (qQq n0_3 0)))) := fun g => by
  obtain ⟨e1, e2⟩ := fwh_ev rfl (fpc_none ho l_n0_0 (w := c0_0) (nr := n0_2) g)
  rw [e1, e2, if_neg (by omega), if_neg (by omega)]; exact ⟨rfl, rfl⟩
 refine ⟨fun hz => ?_, fun hz => ?_⟩
 ·refine ⟨fun _ k _ _ => k = 0, ⟨0, rfl⟩, ?_⟩
  rintro W k V m - rfl
  refine ⟨fun g => absurd g (by decide), fun _ => ?_⟩
  refine ⟨fun p _ => 0 ≤ p, ⟨0, by decide⟩, ?_⟩
  rintro p m - hp
  exact ⟨fun g => absurd g (by omega), fun g => last fun k q0 q1 => absurd q1 (by omega)⟩
 refine ⟨hz, ?_⟩
 refine ⟨fun W k V m => Wk c0_0 n0_0 n0_2 c0_2 V W k (fun _ => False) ∧ m = mWk V n0_0 k, ⟨_, wk_init hz, rfl⟩, ?_⟩
 rintro W k V m - ⟨hW, rfl⟩
 have hb := wk_bd hW k1
 refine ⟨fun hk => ?_, fun hk => ?_⟩
 ·obtain ⟨w1, w2, x0, x1, xr, xe⟩ := wk_pop hW hk
  refine ⟨by omega, by omega, ?_⟩
  rintro _ rfl -
  have sw : updZ (updZ W 0 (IntKind.wrap .i64 (rdZ W (k - 1)))) (k - 1) (IntKind.wrap .i64 (rdZ W 0)) = swpZ W 0 (k - 1) := rfl
  simp only [sw, xe]
  generalize hdnZ (swpZ W 0 (k - 1)) (k - 1) = W' at w1 ⊢
  generalize IntKind.wrap .i64 (rdZ W 0) = x at w1 x0 x1 xr ⊢
  refine ⟨by omega, by omega, x0, by omega, by omega, k2, by omega, by omega, k1, ?_⟩
  rintro x rfl -
  have hq := hQ x x0 x1
  rw [hq 0 (by decide) (by decide), hq 1 (by decide) (by decide), hq 2 (by decide) (by decide), hq 3 (by decide) (by decide), hq 4 (by decide) (by decide)]
  simp only [dec_w64]
  obtain ⟨⟨o0, o1⟩, ⟨d0, d1⟩, ⟨a0, a1⟩, ⟨b0, b1⟩, ⟨n0, n1⟩, np⟩ := dec_all (rdZ c0_0 x)
  refine ⟨by omega, trivial, trivial, o0, o1, d0, d1, a0, a1, b0, b1, n0, n1, ?_, ?_⟩
  ·rw [bo1, bo2]
   (repeat' split) <;> omega
  generalize hR : lpsZ _ _ _ = R
  obtain ⟨r0, r1, r2⟩ := lps_ev hR.symm
  obtain ⟨g1, g2⟩ := pass_ok w1 k1 x0 x1 xr rfl rfl rfl rfl rfl rfl rfl rfl
  rw [← r0, ← r1, ← r2] at g1
  rw [← r0, ← r2] at g2
  have hb2 := wk_bd g1 k1
  exact ⟨by omega, by omega, _, by omega, g1, rfl⟩
 obtain rfl : k = 0 := by omega
 obtain ⟨lr, ls⟩ := wk_least hW
 have wu : ∀ d : Int, 0 ≤ d → d ≤ 31 → IntKind.wrap .u64 d = d := fun d d0 d1 => by
  have : IntKind.wrap .u64 d = d % 18446744073709551616 := by simp [IntKind.wrap, IntKind.bits, IntKind.signed]
  omega
 refine ⟨fun p m => (0 ≤ p ∧ p ≤ n0_0) ∧ (∀ k, 0 ≤ k → k < p → ¬ qZn c0_0 n0_2 c0_2 (qQd c0_0 n0_0 n0_2 c0_2) k) ∧ m = (n0_0 - p).toNat, ⟨_, ⟨by decide, l_n0_0⟩, fun j _ _ => by omega, rfl⟩, ?_⟩
 rintro p m - ⟨⟨p0, p1⟩, hI2, rfl⟩
 refine ⟨fun hp => ?_, fun hp => last fun k q0 q1 => hI2 k q0 (by omega)⟩
 rintro op hop - d hd - a ha - b hb2 - n hn -
 have hq := hQ p p0 hp
 rw [hq 0 (by decide) (by decide), dec_w64] at hop
 rw [hq 1 (by decide) (by decide), dec_w64] at hd
 rw [hq 2 (by decide) (by decide), dec_w64] at ha
 rw [hq 3 (by decide) (by decide), dec_w64] at hb2
 rw [hq 4 (by decide) (by decide), dec_w64] at hn
 obtain ⟨⟨o0, o1⟩, ⟨d0, d1⟩, ⟨a0, a1⟩, ⟨b0, b1⟩, ⟨n0, n1⟩, np⟩ := dec_all (rdZ c0_0 p)
 have h5 := dec_ok5 (x := IntKind.wrap .u32 (rdZ c0_0 p))
 rw [← hop] at o0 o1 np h5
 rw [← hd] at d0 d1
 rw [← ha] at a0 a1
 rw [← hb2] at b0 b1
 rw [← hn] at n0 n1 np
 refine ⟨hp, ?_⟩
 rintro re hre - s hs - D hD - A hA - B hB -
 have bt : ∀ r, 0 ≤ r → r ≤ 31 → (band .u32 s (shlZ .u32 1 (IntKind.wrap .u64 r)) ≠ 0 ↔ (qQd c0_0 n0_0 n0_2 c0_2).se p r) := fun r r0 r1 => by
  rw [wu r r0 r1, ne_eq, band_one r0 (by omega), Classical.not_not, hs, qKk]
  exact ls p r p0 hp r0 (by omega)
 have sd := bt d d0 d1
 have sa := bt a a0 a1
 have sb := bt b b0 b1
 rw [← hD] at sd
 rw [← hA] at sa
 rw [← hB] at sb
 have lre := lr p p0 hp
 rw [← hre] at lre
 have a00 : a = 0 → A = 0 := fun e => Classical.byContradiction fun k => by
  have := sa.1 k
  rw [e] at this
  exact least_zero p this
 have a01 : a ≠ 0 ∨ A = 0 := (Classical.em (a = 0)).elim (fun e => .inr (a00 e)) .inl
 clear a00
 have back : ¬ qZn c0_0 n0_2 c0_2 (qQd c0_0 n0_0 n0_2 c0_2) p → p + 1 ≤ 4611686018427387904 ∧ ∃ m', m' < (n0_0 - p).toNat ∧ (0 ≤ p + 1 ∧ p + 1 ≤ n0_0) ∧ (∀ k, 0 ≤ k → k < p + 1 → ¬ qZn c0_0 n0_2 c0_2 (qQd c0_0 n0_0 n0_2 c0_2) k) ∧ m' = (n0_0 - (p + 1)).toNat := fun g =>
  ⟨by omega, _, by omega, ⟨by omega, by omega⟩, fun k q0 q1 => by
   by_cases e : k = p
   ·subst e; exact g
   ·exact hI2 k q0 (by omega), rfl⟩
 have found : qZn c0_0 n0_2 c0_2 (qQd c0_0 n0_0 n0_2 c0_2) p → 12 = fwhZ c0_0 n0_0 (qQq n0_2 (qQq c0_2 (qQq c0_3 (qQq n0_3 0)))) ∧ p = fpcZ c0_0 n0_0 (qQq n0_2 (qQq c0_2 (qQq c0_3 (qQq n0_3 0)))) := fun g => by
  obtain ⟨e1, e2⟩ := fwh_ev rfl (fpc_found ho p0 hp g hI2)
  rw [e1, e2, if_pos hp, if_pos hp]; exact ⟨rfl, rfl⟩
 have any := any_open (c := c0_2) (n := n0_2)
 refine ⟨fun hr => back fun g => lre.2 g.1 hr, fun hr => ?_⟩
 generalize anyZ c0_2 n0_2 0 = Y at any ⊢
 have hW2 : qZn c0_0 n0_2 c0_2 (qQd c0_0 n0_0 n0_2 c0_2) p ↔ op ≠ 0 ∧ (((op = 22 ∨ op = 23) ∧ (A ≠ 0 ∨ B ≠ 0)) ∨ (op = 34 ∧ A ≠ 0) ∨ (op = 35 ∧ a = 0 ∧ D ≠ 0 ∧ n < n0_2 ∧ rdZ c0_2 n = 0) ∨ (op = 35 ∧ a ≠ 0 ∧ (A ≠ 0 ∨ (D ≠ 0 ∧ Y ≠ 0))) ∨ ((op = 36 ∨ op = 37 ∨ op = 38) ∧ (D ≠ 0 ∨ A ≠ 0)) ∨ op = 41) := by
  unfold qZn wrongP
  rw [← hop, ← hd, ← ha, ← hb2, ← hn, ← sa, ← sb, ← sd, any, h5]
  exact ⟨fun g => ⟨g.2.1, g.2.2⟩, fun g => ⟨lre.1 hr, g.1, g.2⟩⟩
 have hf := fun g => found (hW2.2 g)
 have hk := fun g => back (mt hW2.1 g)
 clear found back hW2 sa sb sd any lre lr ls bt h5 hop hd ha hb2 hn hre hs hD hA hB hW hq hQ last ho hI2 hC h i0 hb k6 k7 k8
 generalize rdZ c0_2 n = N at hf hk ⊢
 repeat' (first | refine And.intro (fun _ => ?_) (fun _ => ?_) | fail)
 all_goals first
  | exact hf (by clear hf hk; omega)
  | exact hk (by clear hf hk; omega)
  | exact ⟨by clear hf hk; omega, by clear hf hk; omega, fun _ => hf (by clear hf hk; omega), fun _ => hk (by clear hf hk; omega)⟩
theorem plain (i v ro p) : statR 1002 rc tree ⟨i, fN, v, ro, p⟩ = P (i 0) (i 1) (i 2) (i 3) (i 4) (i 5) (i 6) (i 7) (i 8) (i 9) (i 10) (i 11) (i 12) (i 13) (i 14) := by kernel_rfl
theorem ran : ranR us (fun f i => match f, i with | 14, 3 => .tmpl (some mk14_3) | 15, 1 => .tmpl (some mk15_1) | 6, 9 => .tmpl (some mk6_9) | _, _ => .auto) rc 1002 tree = true := by kernel_rfl
theorem fineT : fineR 1002 rc tree = true := by kernel_rfl
theorem ok : RcOk (cxOf 1002) rc := okR us_ok ran fineT okb fun i v ro p hρ hcap hpre => by rw [plain]; have q := hρ.hi; exact holds _ _ _ _ _ _ _ _ _ _ _ _ _ _ _ (q 0 _ rfl).1 (q 0 _ rfl).2 (q 1 _ rfl).1 (q 1 _ rfl).2 (q 2 _ rfl).1 (q 2 _ rfl).2 (q 3 _ rfl).1 (q 3 _ rfl).2 (q 4 _ rfl).1 (q 4 _ rfl).2 (hcap _ (mg 0 rfl)) (hcap _ (mg 1 rfl)) (hcap _ (mg 2 rfl)) (hcap _ (mg 3 rfl)) (hcap _ (mg 4 rfl))
end CFCheck
end Go.Proofs.Yteimodjkllldlac
