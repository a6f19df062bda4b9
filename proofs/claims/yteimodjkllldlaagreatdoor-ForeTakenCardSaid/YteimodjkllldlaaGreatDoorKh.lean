/-
  What functions of the program answer, as numbers of what they are handed: their runs by the engine, the plain statements behind them. No condition.
-/
import Derived.Test.YteimodjkllldlaaGreatDoorKf
import Derived.Test.YteimodjkllldlaaGreatDoorKg
import Derived.Test.YteimodjkllldlaaGreatDoorGab
import Derived.Test.YteimodjkllldlaaGreatDoorGmZi
set_option linter.unusedVariables false
set_option linter.unusedSimpArgs false
set_option maxRecDepth 100000
namespace Go.Proofs.YteimodjkllldlaaGreatDoor
open Go.Eng Go.RowKit
namespace CRLevels
def rc : Rc := ⟨14, [some 5], [.row [.int .u32] 1000000, .row [.int .i32] 1000000, .row [.bool] 1000000, .row [.int .i64] 1000000, .row [.int .i64] 1000000], [(.b .le .i64 (.v 0) (.c 16384)), (.b .le .i64 (.v 1) (.c 2048)), (.b .eq .i64 (.v 2) (.v 1))], .one, [.row [.bool, .bool, .bool, .bool, .bool, .bool, .bool, .bool, .bool, .bool, .bool, .bool, .bool, .bool, .bool, .bool, .bool, .bool, .bool, .bool, .bool, .bool, .bool, .bool, .bool, .bool, .bool, .bool, .bool, .bool, .bool, .bool, .bool] 64 (.f 103 (.v 5) (.v 0) (qQv [(.v 1), (.v 7)])) (.v 0)]⟩
theorem okb : rc.ok = true := by kernel_rfl
def mk5 : qJx := [([0, 4], .num (0) (1)), ([0, 5], .wild), ([0, 6], .wild), ([0, 7], .wild), ([0, 8], .wild), ([0, 9], .wild), ([0, 10], .wild), ([0, 11], .wild), ([0, 12], .wild), ([0, 23], .wild), ([0, 24], .wild), ([0, 25], .wild), ([0, 26], .wild), ([0, 27], .wild), ([0, 28], .wild), ([0, 29], .wild), ([0, 30], .wild), ([0, 31], .wild), ([0, 32], .wild), ([0, 33], .wild), ([0, 34], .wild), ([0, 35], .wild), ([0, 36], .wild), ([0, 37], .wild), ([0, 38], .wild), ([0, 39], .wild), ([0, 40], .wild), ([0, 41], .wild), ([0, 42], .wild), ([0, 43], .wild), ([0, 44], .wild), ([0, 45], .wild), ([0, 46], .wild), ([0, 47], .wild), ([0, 48], .wild), ([0, 49], .wild), ([0, 50], .wild), ([0, 51], .wild), ([0, 52], .wild), ([0, 53], .wild), ([0, 54], .wild), ([0, 55], .wild), ([0, 56], .wild), ([0, 57], .wild), ([0, 58], .wild), ([0, 59], .wild), ([0, 60], .wild), ([0, 61], .wild), ([0, 62], .wild), ([0, 63], .wild), ([0, 64], .wild), ([0, 65], .wild), ([0, 66], .wild), ([0, 67], .wild), ([0, 68], .wild), ([0, 69], .wild), ([0, 70], .wild), ([0, 71], .wild), ([0, 72], .wild), ([0, 73], .wild), ([0, 74], .wild), ([0, 75], .wild), ([0, 76], .wild), ([0, 77], .wild), ([0, 78], .wild), ([0, 79], .wild), ([0, 80], .wild), ([0, 81], .wild), ([0, 82], .wild), ([0, 83], .wild), ([0, 84], .wild), ([0, 85], .wild), ([0, 86], .wild), ([0, 87], .wild), ([0, 88], .wild), ([0, 89], .wild), ([0, 90], .wild), ([0, 91], .wild), ([0, 92], .wild), ([0, 93], .wild), ([0, 94], .wild), ([0, 95], .wild), ([0, 96], .wild), ([0, 97], .wild), ([0, 98], .wild), ([0, 99], .wild), ([0, 100], .wild), ([0, 101], .wild), ([0, 102], .wild), ([0, 103], .wild), ([0, 104], .wild), ([0, 105], .wild), ([0, 106], .wild), ([0, 107], .wild), ([0, 108], .wild), ([0, 109], .wild), ([0, 110], .wild), ([0, 111], .wild), ([0, 112], .wild), ([0, 113], .wild), ([0, 114], .wild), ([0, 115], .wild), ([0, 116], .wild), ([0, 117], .wild), ([0, 118], .wild), ([0, 119], .wild), ([0, 120], .wild), ([0, 121], .wild), ([1, 1, 0], .code)]
def mk8 : qJx := [([0, 5], .num (0) (4611686018427387904)), ([0, 5], .num (0) (4611686018427387904)), ([0, 5], .num (0) (4611686018427387904)), ([0, 4], .num (0) (1)), ([0, 8], .wild), ([0, 9], .wild), ([0, 10], .wild), ([0, 11], .wild), ([0, 12], .wild), ([0, 49], .wild), ([0, 50], .wild), ([0, 51], .wild), ([0, 52], .wild), ([0, 53], .wild), ([0, 54], .wild), ([0, 55], .wild), ([0, 56], .wild), ([0, 57], .wild), ([0, 58], .wild), ([0, 59], .wild), ([0, 60], .wild), ([0, 61], .wild), ([0, 62], .wild), ([0, 63], .wild), ([0, 64], .wild), ([0, 65], .wild), ([0, 66], .wild), ([0, 67], .wild), ([0, 68], .wild), ([0, 69], .wild), ([0, 70], .wild), ([0, 71], .wild), ([0, 72], .wild), ([0, 73], .wild), ([0, 74], .wild), ([0, 75], .wild), ([0, 76], .wild), ([0, 77], .wild), ([0, 78], .wild), ([0, 79], .wild), ([0, 80], .wild), ([0, 81], .wild), ([0, 82], .wild), ([0, 83], .wild), ([0, 84], .wild), ([0, 85], .wild), ([0, 86], .wild), ([0, 87], .wild), ([0, 88], .wild), ([0, 89], .wild), ([0, 90], .wild), ([0, 91], .wild), ([0, 92], .wild), ([0, 93], .wild), ([0, 94], .wild), ([0, 95], .wild), ([0, 96], .wild), ([0, 97], .wild), ([0, 98], .wild), ([0, 99], .wild), ([0, 100], .wild), ([0, 101], .wild), ([0, 102], .wild), ([0, 103], .wild), ([0, 104], .wild), ([0, 105], .wild), ([0, 106], .wild), ([0, 107], .wild), ([0, 108], .wild), ([0, 109], .wild), ([0, 110], .wild), ([0, 111], .wild), ([0, 112], .wild), ([0, 113], .wild), ([0, 114], .wild), ([0, 115], .wild), ([0, 116], .wild), ([0, 117], .wild), ([0, 118], .wild), ([0, 119], .wild), ([0, 120], .wild), ([0, 121], .wild), ([0, 5], .num (-9223372036854775808) (9223372036854775807)), ([0, 6], .wild), ([0, 7], .wild), ([0, 24], .wild), ([0, 25], .wild), ([0, 26], .wild), ([0, 27], .wild), ([0, 28], .wild), ([0, 29], .wild), ([0, 30], .wild), ([0, 31], .wild), ([0, 32], .wild), ([0, 33], .wild), ([0, 34], .wild), ([0, 35], .wild), ([0, 36], .wild), ([0, 37], .wild), ([0, 38], .wild), ([0, 39], .wild), ([0, 40], .wild), ([0, 41], .wild), ([0, 42], .wild), ([0, 43], .wild), ([0, 44], .wild), ([0, 45], .wild), ([0, 46], .wild), ([0, 47], .wild), ([0, 48], .wild), ([1, 1, 0], .code)]
def mk15 : qJx := [([0, 10], .num (0) (4611686018427387904)), ([0, 10], .num (0) (4611686018427387904)), ([0, 10], .num (0) (4611686018427387904)), ([0, 4], .num (0) (1)), ([0, 11], .wild), ([0, 12], .wild), ([0, 73], .wild), ([0, 74], .wild), ([0, 75], .wild), ([0, 76], .wild), ([0, 77], .wild), ([0, 78], .wild), ([0, 79], .wild), ([0, 80], .wild), ([0, 81], .wild), ([0, 82], .wild), ([0, 83], .wild), ([0, 84], .wild), ([0, 85], .wild), ([0, 86], .wild), ([0, 87], .wild), ([0, 88], .wild), ([0, 89], .wild), ([0, 90], .wild), ([0, 91], .wild), ([0, 92], .wild), ([0, 93], .wild), ([0, 94], .wild), ([0, 95], .wild), ([0, 96], .wild), ([0, 97], .wild), ([0, 98], .wild), ([0, 99], .wild), ([0, 100], .wild), ([0, 101], .wild), ([0, 102], .wild), ([0, 103], .wild), ([0, 104], .wild), ([0, 105], .wild), ([0, 106], .wild), ([0, 107], .wild), ([0, 108], .wild), ([0, 109], .wild), ([0, 110], .wild), ([0, 111], .wild), ([0, 112], .wild), ([0, 113], .wild), ([0, 114], .wild), ([0, 115], .wild), ([0, 116], .wild), ([0, 117], .wild), ([0, 118], .wild), ([0, 119], .wild), ([0, 120], .wild), ([0, 121], .wild), ([0, 10], .num (-9223372036854775808) (9223372036854775807)), ([0, 60], .wild), ([0, 61], .wild), ([0, 62], .wild), ([0, 63], .wild), ([0, 64], .wild), ([0, 65], .wild), ([0, 66], .wild), ([0, 67], .wild), ([0, 68], .wild), ([0, 69], .wild), ([0, 70], .wild), ([0, 71], .wild), ([0, 72], .wild), ([1, 1, 0], .code)]
def mk21 : qJx := [([0, 12], .num (0) (4611686018427387904)), ([0, 12], .num (0) (4611686018427387904)), ([0, 12], .num (-9223372036854775808) (9223372036854775807)), ([0, 87], .wild), ([0, 88], .wild), ([0, 89], .wild), ([0, 90], .wild), ([0, 91], .wild), ([0, 92], .wild), ([0, 93], .wild), ([0, 94], .wild), ([0, 95], .wild), ([0, 96], .wild), ([0, 97], .wild), ([0, 98], .wild), ([0, 99], .wild), ([0, 100], .wild), ([0, 101], .wild), ([0, 102], .wild), ([0, 103], .wild), ([0, 104], .wild), ([0, 105], .wild), ([0, 106], .wild), ([0, 107], .wild), ([0, 108], .wild), ([0, 109], .wild), ([1, 1, 0], .code)]
noncomputable def us : SMs := fun Γ ins n => smH (cxG n Γ ins) [CRBehind.rk.rh] (smR (cxG n Γ ins) [CRDec.rc, CRNext24.rc])
theorem us_ok : SMsOk us := fun Γ ins n => qZo (tabsG n Γ ins) (qJi CRBehind.okh (rh_n CRBehind.ok) (qZz _)) (qZi (tabsG n Γ ins) (qQo CRDec.okb (rc_n CRDec.ok) (qQo CRNext24.okb (rc_n CRNext24.ok) (qZj _))))
def Q0 : E := (.cl 1004 0 4611686018427387904)
def Q1 : E := (tk Q0 (.v 0))
def Q2 : E := (tR (.v 5) Q0)
def Q3 : E := (.w .u32 Q2)
def Q4 : E := (.f 67 Q3 (.c 0) (.c 0))
def Q5 : E := (.f 67 Q3 (.c 1) (.c 0))
def Q6 : E := (.f 67 Q3 (.c 2) (.c 0))
def Q7 : E := (.f 67 Q3 (.c 3) (.c 0))
def Q8 : E := (.f 67 Q3 (.c 4) (.c 0))
def Q9 : E := (.f 67 Q3 (.c 5) (.c 0))
def Q10 : E := (tR (.v 1005) Q0)
def Q11 : E := (tR Q10 (.c 0))
def Q12 : E := (.nt Q11)
def Q13 : E := (tp Q0 (.c 1))
def Q14 : E := (tl Q13 (.c 4611686018427387904))
def Q15 : E := (tn (.cl 1012 (-32768) 65535) (.c 0))
def Q16 : E := (.cl 1007 (-32768) 65535)
def Q17 : E := (tl (.c 1) Q16)
def Q18 : E := (tl Q16 (.c 44))
def Q19 : E := (.cl 1008 (-32768) 65535)
def Q20 : E := (tl (.c 0) Q19)
def Q21 : E := (tl Q19 (.c 31))
def Q22 : E := (.cl 1009 (-32768) 65535)
def Q23 : E := (tl (.c 0) Q22)
def Q24 : E := (tl Q22 (.c 31))
def Q25 : E := (.cl 1010 (-32768) 65535)
def Q26 : E := (tl (.c 0) Q25)
def Q27 : E := (tl Q25 (.c 31))
def Q28 : E := (tl (.v 0) (.c 16384))
def Q29 : E := (tl (.v 2) (.c 2048))
def Q30 : E := (tn Q16 (.c 34))
def Q31 : E := (tn Q22 (.c 0))
def Q32 : E := (tp Q30 Q31)
def Q33 : E := (.cl 1011 (-32768) 65535)
def Q34 : E := (tl (.c 0) Q33)
def Q35 : E := (tp Q32 Q34)
def Q36 : E := (te Q16 (.c 41))
def Q37 : E := (te Q16 (.c 43))
def Q38 : E := (tp Q36 Q37)
def Q39 : E := (te Q16 (.c 34))
def Q40 : E := (te Q16 (.c 35))
def Q41 : E := (tp Q39 Q40)
def Q42 : E := (te Q22 (.c 0))
def Q43 : E := (.b .pmul .i64 Q41 Q42)
def Q44 : E := (tl (.v 1) Q33)
def Q45 : E := (.b .pmul .i64 Q43 Q44)
def Q46 : E := (tp Q38 Q45)
def Q47 : E := (te Q16 (.c 36))
def Q48 : E := (te Q16 (.c 37))
def Q49 : E := (tp Q47 Q48)
def Q50 : E := (te Q16 (.c 38))
def Q51 : E := (tp Q49 Q50)
def Q52 : E := (.ite Q51 (.c 2) (.c 1))
def Q53 : E := (.ite Q46 (.c 0) Q52)
def Q54 : E := (.cl 1015 0 4611686018427387904)
def Q55 : E := (tk Q54 (.cl 1013 0 2))
def Q56 : E := (tC Q13 (.c 0))
def Q57 : E := (tC Q33 Q56)
def Q58 : E := (te Q16 (.c 39))
def Q59 : E := (te Q16 (.c 40))
def Q60 : E := (tp Q58 Q59)
def Q61 : E := (tC Q33 (.c 0))
def Q62 : E := (.ite Q60 Q61 Q56)
def Q63 : E := (.ite Q51 Q57 Q62)
def Q64 : E := (tR Q63 Q54)
def Q65 : E := (t6 Q64)
def Q66 : E := (tl (.v 0) Q65)
def Q67 : E := (tp Q54 (.c 1))
def Q68 : E := (tl Q67 (.c 4611686018427387904))
def Q69 : E := (tl (.c 0) Q65)
def Q70 : E := (tk Q65 (.v 0))
def Q71 : E := (tR (.v 1016) Q65)
def Q72 : E := (.f 14 Q71 (.c 0) (.c 1))
def Q73 : E := (.f 14 (.v 1016) Q65 Q72)
def Q74 : E := (.cl 1018 0 4611686018427387904)
def Q75 : E := (tk Q74 (.c 32))
def Q76 : E := (tR Q71 (.c 1))
def Q77 : E := (tR Q71 (.c 2))
def Q78 : E := (tR Q71 (.c 3))
def Q79 : E := (tR Q71 (.c 4))
def Q80 : E := (tR Q71 (.c 5))
def Q81 : E := (tR Q71 (.c 6))
def Q82 : E := (tR Q71 (.c 7))
def Q83 : E := (tR Q71 (.c 8))
def Q84 : E := (tR Q71 (.c 9))
def Q85 : E := (tR Q71 (.c 10))
def Q86 : E := (tR Q71 (.c 11))
def Q87 : E := (tR Q71 (.c 12))
def Q88 : E := (tR Q71 (.c 13))
def Q89 : E := (tR Q71 (.c 14))
def Q90 : E := (tR Q71 (.c 15))
def Q91 : E := (tR Q71 (.c 16))
def Q92 : E := (tR Q71 (.c 17))
def Q93 : E := (tR Q71 (.c 18))
def Q94 : E := (tR Q71 (.c 19))
def Q95 : E := (tR Q71 (.c 20))
def Q96 : E := (tR Q71 (.c 21))
def Q97 : E := (tR Q71 (.c 22))
def Q98 : E := (tR Q71 (.c 23))
def Q99 : E := (tR Q71 (.c 24))
def Q100 : E := (tR Q71 (.c 25))
def Q101 : E := (tR Q71 (.c 26))
def Q102 : E := (tR Q71 (.c 27))
def Q103 : E := (tR Q71 (.c 28))
def Q104 : E := (tR Q71 (.c 29))
def Q105 : E := (tR Q71 (.c 30))
def Q106 : E := (tR Q71 (.c 31))
def Q107 : E := (tR Q71 (.c 32))
def Q108 : E := (tC Q107 (.c 0))
def Q109 : E := (tC Q106 Q108)
def Q110 : E := (tC Q105 Q109)
def Q111 : E := (tC Q104 Q110)
def Q112 : E := (tC Q103 Q111)
def Q113 : E := (tC Q102 Q112)
def Q114 : E := (tC Q101 Q113)
def Q115 : E := (tC Q100 Q114)
def Q116 : E := (tC Q99 Q115)
def Q117 : E := (tC Q98 Q116)
def Q118 : E := (tC Q97 Q117)
def Q119 : E := (tC Q96 Q118)
def Q120 : E := (tC Q95 Q119)
def Q121 : E := (tC Q94 Q120)
def Q122 : E := (tC Q93 Q121)
def Q123 : E := (tC Q92 Q122)
def Q124 : E := (tC Q91 Q123)
def Q125 : E := (tC Q90 Q124)
def Q126 : E := (tC Q89 Q125)
def Q127 : E := (tC Q88 Q126)
def Q128 : E := (tC Q87 Q127)
def Q129 : E := (tC Q86 Q128)
def Q130 : E := (tC Q85 Q129)
def Q131 : E := (tC Q84 Q130)
def Q132 : E := (tC Q83 Q131)
def Q133 : E := (tC Q82 Q132)
def Q134 : E := (tC Q81 Q133)
def Q135 : E := (tC Q80 Q134)
def Q136 : E := (tC Q79 Q135)
def Q137 : E := (tC Q78 Q136)
def Q138 : E := (tC Q77 Q137)
def Q139 : E := (tC Q76 Q138)
def Q140 : E := (tR Q139 Q74)
def Q141 : E := (.cl 1021 (-9223372036854775808) 9223372036854775807)
def Q142 : E := (tl (.c 0) Q141)
def Q143 : E := (tk Q141 (.v 0))
def Q144 : E := (tp (.c 1) Q74)
def Q145 : E := (tk Q144 (.c 33))
def Q146 : E := (tp Q74 (.c 1))
def Q147 : E := (tl Q146 (.c 4611686018427387904))
def Q148 : E := (tR (.v 1019) Q141)
def Q149 : E := (.f 14 Q148 Q144 (.c 1))
def Q150 : E := (.f 14 (.v 1019) Q141 Q149)
def Q151 : E := (tC Q10 (.c 0))
def Q152 : E := (tC (.v 7) Q151)
def Q153 : E := (tC (.v 2) Q152)
def Q154 : E := (tC Q33 Q153)
def Q155 : E := (tC Q25 Q154)
def Q156 : E := (tC Q22 Q155)
def Q157 : E := (.f 115 Q16 Q19 Q156)
def Q158 : E := (tR Q157 (.c 1))
def Q159 : E := (tR Q157 (.c 2))
def Q160 : E := (tR Q157 (.c 3))
def Q161 : E := (tR Q157 (.c 4))
def Q162 : E := (tR Q157 (.c 5))
def Q163 : E := (tR Q157 (.c 6))
def Q164 : E := (tR Q157 (.c 7))
def Q165 : E := (tR Q157 (.c 8))
def Q166 : E := (tR Q157 (.c 9))
def Q167 : E := (tR Q157 (.c 10))
def Q168 : E := (tR Q157 (.c 11))
def Q169 : E := (tR Q157 (.c 12))
def Q170 : E := (tR Q157 (.c 13))
def Q171 : E := (tR Q157 (.c 14))
def Q172 : E := (tR Q157 (.c 15))
def Q173 : E := (tR Q157 (.c 16))
def Q174 : E := (tR Q157 (.c 17))
def Q175 : E := (tR Q157 (.c 18))
def Q176 : E := (tR Q157 (.c 19))
def Q177 : E := (tR Q157 (.c 20))
def Q178 : E := (tR Q157 (.c 21))
def Q179 : E := (tR Q157 (.c 22))
def Q180 : E := (tR Q157 (.c 23))
def Q181 : E := (tR Q157 (.c 24))
def Q182 : E := (tR Q157 (.c 25))
def Q183 : E := (tR Q157 (.c 26))
def Q184 : E := (tR Q157 (.c 27))
def Q185 : E := (tR Q157 (.c 28))
def Q186 : E := (tR Q157 (.c 29))
def Q187 : E := (tR Q157 (.c 30))
def Q188 : E := (tR Q157 (.c 31))
def Q189 : E := (tR Q157 (.c 32))
def Q190 : E := (tC Q189 (.c 0))
def Q191 : E := (tC Q188 Q190)
def Q192 : E := (tC Q187 Q191)
def Q193 : E := (tC Q186 Q192)
def Q194 : E := (tC Q185 Q193)
def Q195 : E := (tC Q184 Q194)
def Q196 : E := (tC Q183 Q195)
def Q197 : E := (tC Q182 Q196)
def Q198 : E := (tC Q181 Q197)
def Q199 : E := (tC Q180 Q198)
def Q200 : E := (tC Q179 Q199)
def Q201 : E := (tC Q178 Q200)
def Q202 : E := (tC Q177 Q201)
def Q203 : E := (tC Q176 Q202)
def Q204 : E := (tC Q175 Q203)
def Q205 : E := (tC Q174 Q204)
def Q206 : E := (tC Q173 Q205)
def Q207 : E := (tC Q172 Q206)
def Q208 : E := (tC Q171 Q207)
def Q209 : E := (tC Q170 Q208)
def Q210 : E := (tC Q169 Q209)
def Q211 : E := (tC Q168 Q210)
def Q212 : E := (tC Q167 Q211)
def Q213 : E := (tC Q166 Q212)
def Q214 : E := (tC Q165 Q213)
def Q215 : E := (tC Q164 Q214)
def Q216 : E := (tC Q163 Q215)
def Q217 : E := (tC Q162 Q216)
def Q218 : E := (tC Q161 Q217)
def Q219 : E := (tC Q160 Q218)
def Q220 : E := (tC Q159 Q219)
def Q221 : E := (tC Q158 Q220)
def Q222 : E := (tR Q221 Q74)
def Q223 : E := (.f 14 Q148 Q144 Q222)
def Q224 : E := (.f 14 (.v 1019) Q141 Q223)
def Q225 : E := (.cl 1024 (-9223372036854775808) 9223372036854775807)
def Q226 : E := (tl (.c 0) Q225)
def Q227 : E := (tk Q225 (.v 0))
def Q228 : E := (tR (.v 1019) Q225)
def Q229 : E := (tR Q228 (.c 0))
def Q230 : E := (.nt Q229)
def Q231 : E := (tR Q71 (.c 0))
def Q232 : E := (.nt Q231)
def Q233 : E := (te Q230 Q232)
def Q234 : E := (tR Q228 (.c 1))
def Q235 : E := (.nt Q234)
def Q236 : E := (.nt Q76)
def Q237 : E := (te Q235 Q236)
def Q238 : E := (tR Q228 (.c 2))
def Q239 : E := (.nt Q238)
def Q240 : E := (.nt Q77)
def Q241 : E := (te Q239 Q240)
def Q242 : E := (tR Q228 (.c 3))
def Q243 : E := (.nt Q242)
def Q244 : E := (.nt Q78)
def Q245 : E := (te Q243 Q244)
def Q246 : E := (tR Q228 (.c 4))
def Q247 : E := (.nt Q246)
def Q248 : E := (.nt Q79)
def Q249 : E := (te Q247 Q248)
def Q250 : E := (tR Q228 (.c 5))
def Q251 : E := (.nt Q250)
def Q252 : E := (.nt Q80)
def Q253 : E := (te Q251 Q252)
def Q254 : E := (tR Q228 (.c 6))
def Q255 : E := (.nt Q254)
def Q256 : E := (.nt Q81)
def Q257 : E := (te Q255 Q256)
def Q258 : E := (tR Q228 (.c 7))
def Q259 : E := (.nt Q258)
def Q260 : E := (.nt Q82)
def Q261 : E := (te Q259 Q260)
def Q262 : E := (tR Q228 (.c 8))
def Q263 : E := (.nt Q262)
def Q264 : E := (.nt Q83)
def Q265 : E := (te Q263 Q264)
def Q266 : E := (tR Q228 (.c 9))
def Q267 : E := (.nt Q266)
def Q268 : E := (.nt Q84)
def Q269 : E := (te Q267 Q268)
def Q270 : E := (tR Q228 (.c 10))
def Q271 : E := (.nt Q270)
def Q272 : E := (.nt Q85)
def Q273 : E := (te Q271 Q272)
def Q274 : E := (tR Q228 (.c 11))
def Q275 : E := (.nt Q274)
def Q276 : E := (.nt Q86)
def Q277 : E := (te Q275 Q276)
def Q278 : E := (tR Q228 (.c 12))
def Q279 : E := (.nt Q278)
def Q280 : E := (.nt Q87)
def Q281 : E := (te Q279 Q280)
def Q282 : E := (tR Q228 (.c 13))
def Q283 : E := (.nt Q282)
def Q284 : E := (.nt Q88)
def Q285 : E := (te Q283 Q284)
def Q286 : E := (tR Q228 (.c 14))
def Q287 : E := (.nt Q286)
def Q288 : E := (.nt Q89)
def Q289 : E := (te Q287 Q288)
def Q290 : E := (tR Q228 (.c 15))
def Q291 : E := (.nt Q290)
def Q292 : E := (.nt Q90)
def Q293 : E := (te Q291 Q292)
def Q294 : E := (tR Q228 (.c 16))
def Q295 : E := (.nt Q294)
def Q296 : E := (.nt Q91)
def Q297 : E := (te Q295 Q296)
def Q298 : E := (tR Q228 (.c 17))
def Q299 : E := (.nt Q298)
def Q300 : E := (.nt Q92)
def Q301 : E := (te Q299 Q300)
def Q302 : E := (tR Q228 (.c 18))
def Q303 : E := (.nt Q302)
def Q304 : E := (.nt Q93)
def Q305 : E := (te Q303 Q304)
def Q306 : E := (tR Q228 (.c 19))
def Q307 : E := (.nt Q306)
def Q308 : E := (.nt Q94)
def Q309 : E := (te Q307 Q308)
def Q310 : E := (tR Q228 (.c 20))
def Q311 : E := (.nt Q310)
def Q312 : E := (.nt Q95)
def Q313 : E := (te Q311 Q312)
def Q314 : E := (tR Q228 (.c 21))
def Q315 : E := (.nt Q314)
def Q316 : E := (.nt Q96)
def Q317 : E := (te Q315 Q316)
def Q318 : E := (tR Q228 (.c 22))
def Q319 : E := (.nt Q318)
def Q320 : E := (.nt Q97)
def Q321 : E := (te Q319 Q320)
def Q322 : E := (tR Q228 (.c 23))
def Q323 : E := (.nt Q322)
def Q324 : E := (.nt Q98)
def Q325 : E := (te Q323 Q324)
def Q326 : E := (tR Q228 (.c 24))
def Q327 : E := (.nt Q326)
def Q328 : E := (.nt Q99)
def Q329 : E := (te Q327 Q328)
def Q330 : E := (tR Q228 (.c 25))
def Q331 : E := (.nt Q330)
def Q332 : E := (.nt Q100)
def Q333 : E := (te Q331 Q332)
def Q334 : E := (tR Q228 (.c 26))
def Q335 : E := (.nt Q334)
def Q336 : E := (.nt Q101)
def Q337 : E := (te Q335 Q336)
def Q338 : E := (tR Q228 (.c 27))
def Q339 : E := (.nt Q338)
def Q340 : E := (.nt Q102)
def Q341 : E := (te Q339 Q340)
def Q342 : E := (tR Q228 (.c 28))
def Q343 : E := (.nt Q342)
def Q344 : E := (.nt Q103)
def Q345 : E := (te Q343 Q344)
def Q346 : E := (tR Q228 (.c 29))
def Q347 : E := (.nt Q346)
def Q348 : E := (.nt Q104)
def Q349 : E := (te Q347 Q348)
def Q350 : E := (tR Q228 (.c 30))
def Q351 : E := (.nt Q350)
def Q352 : E := (.nt Q105)
def Q353 : E := (te Q351 Q352)
def Q354 : E := (tR Q228 (.c 31))
def Q355 : E := (.nt Q354)
def Q356 : E := (.nt Q106)
def Q357 : E := (te Q355 Q356)
def Q358 : E := (tR Q228 (.c 32))
def Q359 : E := (.nt Q358)
def Q360 : E := (.nt Q107)
def Q361 : E := (te Q359 Q360)
def Q362 : E := (.ite Q357 Q361 (.c 0))
def Q363 : E := (.ite Q353 Q362 (.c 0))
def Q364 : E := (.ite Q349 Q363 (.c 0))
def Q365 : E := (.ite Q345 Q364 (.c 0))
def Q366 : E := (.ite Q341 Q365 (.c 0))
def Q367 : E := (.ite Q337 Q366 (.c 0))
def Q368 : E := (.ite Q333 Q367 (.c 0))
def Q369 : E := (.ite Q329 Q368 (.c 0))
def Q370 : E := (.ite Q325 Q369 (.c 0))
def Q371 : E := (.ite Q321 Q370 (.c 0))
def Q372 : E := (.ite Q317 Q371 (.c 0))
def Q373 : E := (.ite Q313 Q372 (.c 0))
def Q374 : E := (.ite Q309 Q373 (.c 0))
def Q375 : E := (.ite Q305 Q374 (.c 0))
def Q376 : E := (.ite Q301 Q375 (.c 0))
def Q377 : E := (.ite Q297 Q376 (.c 0))
def Q378 : E := (.ite Q293 Q377 (.c 0))
def Q379 : E := (.ite Q289 Q378 (.c 0))
def Q380 : E := (.ite Q285 Q379 (.c 0))
def Q381 : E := (.ite Q281 Q380 (.c 0))
def Q382 : E := (.ite Q277 Q381 (.c 0))
def Q383 : E := (.ite Q273 Q382 (.c 0))
def Q384 : E := (.ite Q269 Q383 (.c 0))
def Q385 : E := (.ite Q265 Q384 (.c 0))
def Q386 : E := (.ite Q261 Q385 (.c 0))
def Q387 : E := (.ite Q257 Q386 (.c 0))
def Q388 : E := (.ite Q253 Q387 (.c 0))
def Q389 : E := (.ite Q249 Q388 (.c 0))
def Q390 : E := (.ite Q245 Q389 (.c 0))
def Q391 : E := (.ite Q241 Q390 (.c 0))
def Q392 : E := (.ite Q237 Q391 (.c 0))
def Q393 : E := (.ite Q233 Q392 (.c 0))
def Q394 : E := (.nt Q393)
def tree : TT (List E) :=
 (.br (tk (.c 0) (.v 0)) (.loop ⟨1000, [some (0, 1), none], [(.c 1), (.f 14 (.c 0) (.c 0) (.f 14 (.c 0) (.c 0) (.c 1)))], 1027⟩ (.br (.cl 1000 0 1) (.loop ⟨1003, [some (0, 1), some (0, 4611686018427387904), none], [(.c 0), (.c 0), (.v 1001)], 1026⟩ (.br Q1 (.new 1007 Q4 (.new 1008 Q5 (.new 1009 Q6 (.new 1010 Q7 (.new 1011 Q8 (.new 1012 Q9 (.br Q12 (.br Q14 (.back [(.cl 1003 0 1), Q13, (.v 1005)]) (.bad 303)) (.br Q15 (.br Q14 (.back [(.cl 1003 0 1), Q13, (.v 1005)]) (.bad 303)) (.br Q17 (.br Q18 (.br Q20 (.br Q21 (.br Q23 (.br Q24 (.br Q26 (.br Q27 (.br Q28 (.br Q29 (.br (tl (.v 2) (.v 12)) (.br Q35 (.br (tl (.v 0) (.v 10)) (.br (tl (.v 1) (.v 11)) (.br (tl (.v 3) (.v 13)) (.br (tl (.v 4) (.v 14)) (.new 1013 Q53 (.loop ⟨1014, [some (0, 1), some (0, 4611686018427387904), none], [(.cl 1003
 0 1), (.c 0), (.v 1005)], 1025⟩ (.br Q55 (.br Q66 (.br Q68 (.back [(.cl 1014 0 1), Q67, (.v 1016)]) (.bad 303)) (.br Q69 (.br Q70 (.loop ⟨1018, [some (0, 4611686018427387904), none], [(.c 0), Q73], 1022⟩ (.br Q75 (.new 1021 Q65 (.br Q140 (.br Q142 (.br Q143 (.br Q145 (.br Q147 (.back [Q146, Q150]) (.bad 303)) (.bad 200)) (.bad 200)) (.bad 200)) (.br Q142 (.br Q143 (.br Q145 (.br Q147 (.back [Q146, Q224]) (.bad 303)) (.bad 200)) (.bad 200)) (.bad 200)))) (.exit 0)) (.br (.cl 1014 0 1) (.br Q68 (.back [(.c 1), Q67, (.v 1019)]) (.bad 303)) (.new 1024 Q65 (.br Q226 (.br Q227 (.br Q68 (.back [Q394, Q67, (.v 1019)]) (.bad 303)) (.bad 200)) (.bad 200))))) (.bad 200)) (.bad 200))) (.exit 0)) (.br Q14 (.back [(.cl 1014 0 1), Q13, (.v 1016)]) (.bad 303)))) (.bad 200)) (.bad 200)) (.bad 200)) (.bad
 200)) (.bad 200)) (.bad 200)) (.bad 200)) (.bad 200)) (.bad 200)) (.bad 200)) (.bad 200)) (.bad 200)) (.bad 200)) (.bad 200)) (.bad 200)) (.bad 200)))))))))) (.exit 0)) (.back [(.cl 1003 0 1), (.v 1005)])) (.exit 0)) (.leaf [(.v 0), (.v 1001)])) (.loop ⟨1000, [some (0, 1), none], [(.c 1), (.c 0)], 1027⟩ (.br (.cl 1000 0 1) (.loop ⟨1003, [some (0, 1), some (0, 4611686018427387904), none], [(.c 0), (.c 0), (.v 1001)], 1026⟩ (.br Q1 (.new 1007 Q4 (.new 1008 Q5 (.new 1009 Q6 (.new 1010 Q7 (.new 1011 Q8 (.new 1012 Q9 (.br Q12 (.br Q14 (.back [(.cl 1003 0 1), Q13, (.v 1005)]) (.bad 303)) (.br Q15 (.br Q14 (.back [(.cl 1003 0 1), Q13, (.v 1005)]) (.bad 303)) (.br Q17 (.br Q18 (.br Q20 (.br Q21 (.br Q23 (.br Q24 (.br Q26 (.br Q27 (.br Q28 (.br Q29 (.br (tl (.v 2) (.v 12)) (.br Q35 (.br (tl (.v
 0) (.v 10)) (.br (tl (.v 1) (.v 11)) (.br (tl (.v 3) (.v 13)) (.br (tl (.v 4) (.v 14)) (.new 1013 Q53 (.loop ⟨1014, [some (0, 1), some (0, 4611686018427387904), none], [(.cl 1003 0 1), (.c 0), (.v 1005)], 1025⟩ (.br Q55 (.br Q66 (.br Q68 (.back [(.cl 1014 0 1), Q67, (.v 1016)]) (.bad 303)) (.br Q69 (.br Q70 (.loop ⟨1018, [some (0, 4611686018427387904), none], [(.c 0), Q73], 1022⟩ (.br Q75 (.new 1021 Q65 (.br Q140 (.br Q142 (.br Q143 (.br Q145 (.br Q147 (.back [Q146, Q150]) (.bad 303)) (.bad 200)) (.bad 200)) (.bad 200)) (.br Q142 (.br Q143 (.br Q145 (.br Q147 (.back [Q146, Q224]) (.bad 303)) (.bad 200)) (.bad 200)) (.bad 200)))) (.exit 0)) (.br (.cl 1014 0 1) (.br Q68 (.back [(.c 1), Q67, (.v 1019)]) (.bad 303)) (.new 1024 Q65 (.br Q226 (.br Q227 (.br Q68 (.back [Q394, Q67, (.v 1019)])
 (.bad 303)) (.bad 200)) (.bad 200))))) (.bad 200)) (.bad 200))) (.exit 0)) (.br Q14 (.back [(.cl 1014 0 1), Q13, (.v 1016)]) (.bad 303)))) (.bad 200)) (.bad 200)) (.bad 200)) (.bad 200)) (.bad 200)) (.bad 200)) (.bad 200)) (.bad 200)) (.bad 200)) (.bad 200)) (.bad 200)) (.bad 200)) (.bad 200)) (.bad 200)) (.bad 200)) (.bad 200)))))))))) (.exit 0)) (.back [(.cl 1003 0 1), (.v 1005)])) (.exit 0)) (.leaf [(.v 0), (.v 1001)])))
noncomputable def sq0 (y7 y11 y4 y15 : Int) : Int := (W6 (rdZ (iteZ (((Pe y7 36) + (Pe y7 37)) + (Pe y7 38)) (kZ y11 (kZ (y4 + 1) 0)) (iteZ ((Pe y7 39) + (Pe y7 40)) (kZ y11 0) (kZ (y4 + 1) 0))) y15))
noncomputable def sq1 (y7 y8 y9 y10 y11 c h y5 y4 : Int) : Int := (kZ (rdZ (bhcZ y7 y8 (kZ y9 (kZ y10 (kZ y11 (kZ c (kZ h (kZ (rdZ y5 y4) 0))))))) 3) (kZ (rdZ (bhcZ y7 y8 (kZ y9 (kZ y10 (kZ y11 (kZ c (kZ h (kZ (rdZ y5 y4) 0))))))) 4) (kZ (rdZ (bhcZ y7 y8 (kZ y9 (kZ y10 (kZ y11 (kZ c (kZ h (kZ (rdZ y5 y4) 0))))))) 5) (kZ (rdZ (bhcZ y7 y8 (kZ y9 (kZ y10 (kZ y11 (kZ c (kZ h (kZ (rdZ y5 y4) 0))))))) 6) (kZ (rdZ (bhcZ y7 y8 (kZ y9 (kZ y10 (kZ y11 (kZ c (kZ h (kZ (rdZ y5 y4) 0))))))) 7) (kZ (rdZ (bhcZ y7 y8 (kZ y9 (kZ y10 (kZ y11 (kZ c (kZ h (kZ (rdZ y5 y4) 0))))))) 8) (kZ (rdZ (bhcZ y7 y8 (kZ y9 (kZ y10 (kZ y11 (kZ c (kZ h (kZ (rdZ y5 y4) 0))))))) 9) (kZ (rdZ (bhcZ y7 y8 (kZ y9 (kZ y10 (kZ y11 (kZ c (kZ h (kZ (rdZ y5 y4) 0))))))) 10) (kZ (rdZ (bhcZ y7 y8 (kZ y9 (kZ y10 (kZ y11 (kZ c (kZ h (kZ
 (rdZ y5 y4) 0))))))) 11) (kZ (rdZ (bhcZ y7 y8 (kZ y9 (kZ y10 (kZ y11 (kZ c (kZ h (kZ (rdZ y5 y4) 0))))))) 12) (kZ (rdZ (bhcZ y7 y8 (kZ y9 (kZ y10 (kZ y11 (kZ c (kZ h (kZ (rdZ y5 y4) 0))))))) 13) (kZ (rdZ (bhcZ y7 y8 (kZ y9 (kZ y10 (kZ y11 (kZ c (kZ h (kZ (rdZ y5 y4) 0))))))) 14) (kZ (rdZ (bhcZ y7 y8 (kZ y9 (kZ y10 (kZ y11 (kZ c (kZ h (kZ (rdZ y5 y4) 0))))))) 15) (kZ (rdZ (bhcZ y7 y8 (kZ y9 (kZ y10 (kZ y11 (kZ c (kZ h (kZ (rdZ y5 y4) 0))))))) 16) (kZ (rdZ (bhcZ y7 y8 (kZ y9 (kZ y10 (kZ y11 (kZ c (kZ h (kZ (rdZ y5 y4) 0))))))) 17) (kZ (rdZ (bhcZ y7 y8 (kZ y9 (kZ y10 (kZ y11 (kZ c (kZ h (kZ (rdZ y5 y4) 0))))))) 18) (kZ (rdZ (bhcZ y7 y8 (kZ y9 (kZ y10 (kZ y11 (kZ c (kZ h (kZ (rdZ y5 y4) 0))))))) 19) (kZ (rdZ (bhcZ y7 y8 (kZ y9 (kZ y10 (kZ y11 (kZ c (kZ h (kZ (rdZ y5 y4) 0))))))) 20) (kZ (rdZ
 (bhcZ y7 y8 (kZ y9 (kZ y10 (kZ y11 (kZ c (kZ h (kZ (rdZ y5 y4) 0))))))) 21) (kZ (rdZ (bhcZ y7 y8 (kZ y9 (kZ y10 (kZ y11 (kZ c (kZ h (kZ (rdZ y5 y4) 0))))))) 22) (kZ (rdZ (bhcZ y7 y8 (kZ y9 (kZ y10 (kZ y11 (kZ c (kZ h (kZ (rdZ y5 y4) 0))))))) 23) (kZ (rdZ (bhcZ y7 y8 (kZ y9 (kZ y10 (kZ y11 (kZ c (kZ h (kZ (rdZ y5 y4) 0))))))) 24) (kZ (rdZ (bhcZ y7 y8 (kZ y9 (kZ y10 (kZ y11 (kZ c (kZ h (kZ (rdZ y5 y4) 0))))))) 25) (kZ (rdZ (bhcZ y7 y8 (kZ y9 (kZ y10 (kZ y11 (kZ c (kZ h (kZ (rdZ y5 y4) 0))))))) 26) (kZ (rdZ (bhcZ y7 y8 (kZ y9 (kZ y10 (kZ y11 (kZ c (kZ h (kZ (rdZ y5 y4) 0))))))) 27) (kZ (rdZ (bhcZ y7 y8 (kZ y9 (kZ y10 (kZ y11 (kZ c (kZ h (kZ (rdZ y5 y4) 0))))))) 28) (kZ (rdZ (bhcZ y7 y8 (kZ y9 (kZ y10 (kZ y11 (kZ c (kZ h (kZ (rdZ y5 y4) 0))))))) 29) (kZ (rdZ (bhcZ y7 y8 (kZ y9 (kZ y10 (kZ
 y11 (kZ c (kZ h (kZ (rdZ y5 y4) 0))))))) 30) (kZ (rdZ (bhcZ y7 y8 (kZ y9 (kZ y10 (kZ y11 (kZ c (kZ h (kZ (rdZ y5 y4) 0))))))) 31) (kZ (rdZ (bhcZ y7 y8 (kZ y9 (kZ y10 (kZ y11 (kZ c (kZ h (kZ (rdZ y5 y4) 0))))))) 32) 0))))))))))))))))))))))))))))))
noncomputable def sq2 (y19 y24 y16 y7 y11 y4 y15 : Int) : Int := (Pe (iteZ (Pe (Pe (rdZ (rdZ y19 y24) 0) 0) (Pe (rdZ (rdZ y16 (sq0 y7 y11 y4 y15)) 0) 0)) (iteZ (Pe (Pe (rdZ (rdZ y19 y24) 1) 0) (Pe (rdZ (rdZ y16 (sq0 y7 y11 y4 y15)) 1) 0)) (iteZ (Pe (Pe (rdZ (rdZ y19 y24) 2) 0) (Pe (rdZ (rdZ y16 (sq0 y7 y11 y4 y15)) 2) 0)) (iteZ (Pe (Pe (rdZ (rdZ y19 y24) 3) 0) (Pe (rdZ (rdZ y16 (sq0 y7 y11 y4 y15)) 3) 0)) (iteZ (Pe (Pe (rdZ (rdZ y19 y24) 4) 0) (Pe (rdZ (rdZ y16 (sq0 y7 y11 y4 y15)) 4) 0)) (iteZ (Pe (Pe (rdZ (rdZ y19 y24) 5) 0) (Pe (rdZ (rdZ y16 (sq0 y7 y11 y4 y15)) 5) 0)) (iteZ (Pe (Pe (rdZ (rdZ y19 y24) 6) 0) (Pe (rdZ (rdZ y16 (sq0 y7 y11 y4 y15)) 6) 0)) (iteZ (Pe (Pe (rdZ (rdZ y19 y24) 7) 0) (Pe (rdZ (rdZ y16 (sq0 y7 y11 y4 y15)) 7) 0)) (iteZ (Pe (Pe (rdZ (rdZ y19 y24) 8) 0) (Pe (rdZ
 (rdZ y16 (sq0 y7 y11 y4 y15)) 8) 0)) (iteZ (Pe (Pe (rdZ (rdZ y19 y24) 9) 0) (Pe (rdZ (rdZ y16 (sq0 y7 y11 y4 y15)) 9) 0)) (iteZ (Pe (Pe (rdZ (rdZ y19 y24) 10) 0) (Pe (rdZ (rdZ y16 (sq0 y7 y11 y4 y15)) 10) 0)) (iteZ (Pe (Pe (rdZ (rdZ y19 y24) 11) 0) (Pe (rdZ (rdZ y16 (sq0 y7 y11 y4 y15)) 11) 0)) (iteZ (Pe (Pe (rdZ (rdZ y19 y24) 12) 0) (Pe (rdZ (rdZ y16 (sq0 y7 y11 y4 y15)) 12) 0)) (iteZ (Pe (Pe (rdZ (rdZ y19 y24) 13) 0) (Pe (rdZ (rdZ y16 (sq0 y7 y11 y4 y15)) 13) 0)) (iteZ (Pe (Pe (rdZ (rdZ y19 y24) 14) 0) (Pe (rdZ (rdZ y16 (sq0 y7 y11 y4 y15)) 14) 0)) (iteZ (Pe (Pe (rdZ (rdZ y19 y24) 15) 0) (Pe (rdZ (rdZ y16 (sq0 y7 y11 y4 y15)) 15) 0)) (iteZ (Pe (Pe (rdZ (rdZ y19 y24) 16) 0) (Pe (rdZ (rdZ y16 (sq0 y7 y11 y4 y15)) 16) 0)) (iteZ (Pe (Pe (rdZ (rdZ y19 y24) 17) 0) (Pe (rdZ (rdZ y16 (sq0 y7
 y11 y4 y15)) 17) 0)) (iteZ (Pe (Pe (rdZ (rdZ y19 y24) 18) 0) (Pe (rdZ (rdZ y16 (sq0 y7 y11 y4 y15)) 18) 0)) (iteZ (Pe (Pe (rdZ (rdZ y19 y24) 19) 0) (Pe (rdZ (rdZ y16 (sq0 y7 y11 y4 y15)) 19) 0)) (iteZ (Pe (Pe (rdZ (rdZ y19 y24) 20) 0) (Pe (rdZ (rdZ y16 (sq0 y7 y11 y4 y15)) 20) 0)) (iteZ (Pe (Pe (rdZ (rdZ y19 y24) 21) 0) (Pe (rdZ (rdZ y16 (sq0 y7 y11 y4 y15)) 21) 0)) (iteZ (Pe (Pe (rdZ (rdZ y19 y24) 22) 0) (Pe (rdZ (rdZ y16 (sq0 y7 y11 y4 y15)) 22) 0)) (iteZ (Pe (Pe (rdZ (rdZ y19 y24) 23) 0) (Pe (rdZ (rdZ y16 (sq0 y7 y11 y4 y15)) 23) 0)) (iteZ (Pe (Pe (rdZ (rdZ y19 y24) 24) 0) (Pe (rdZ (rdZ y16 (sq0 y7 y11 y4 y15)) 24) 0)) (iteZ (Pe (Pe (rdZ (rdZ y19 y24) 25) 0) (Pe (rdZ (rdZ y16 (sq0 y7 y11 y4 y15)) 25) 0)) (iteZ (Pe (Pe (rdZ (rdZ y19 y24) 26) 0) (Pe (rdZ (rdZ y16 (sq0 y7 y11 y4 y15))
 26) 0)) (iteZ (Pe (Pe (rdZ (rdZ y19 y24) 27) 0) (Pe (rdZ (rdZ y16 (sq0 y7 y11 y4 y15)) 27) 0)) (iteZ (Pe (Pe (rdZ (rdZ y19 y24) 28) 0) (Pe (rdZ (rdZ y16 (sq0 y7 y11 y4 y15)) 28) 0)) (iteZ (Pe (Pe (rdZ (rdZ y19 y24) 29) 0) (Pe (rdZ (rdZ y16 (sq0 y7 y11 y4 y15)) 29) 0)) (iteZ (Pe (Pe (rdZ (rdZ y19 y24) 30) 0) (Pe (rdZ (rdZ y16 (sq0 y7 y11 y4 y15)) 30) 0)) (iteZ (Pe (Pe (rdZ (rdZ y19 y24) 31) 0) (Pe (rdZ (rdZ y16 (sq0 y7 y11 y4 y15)) 31) 0)) (Pe (Pe (rdZ (rdZ y19 y24) 32) 0) (Pe (rdZ (rdZ y16 (sq0 y7 y11 y4 y15)) 32) 0)) 0) 0) 0) 0) 0) 0) 0) 0) 0) 0) 0) 0) 0) 0) 0) 0) 0) 0) 0) 0) 0) 0) 0) 0) 0) 0) 0) 0) 0) 0) 0) 0) 0)
noncomputable def sq3 (y16 y7 y11 y4 y15 : Int) : Int := (kZ (rdZ (rdZ y16 (sq0 y7 y11 y4 y15)) 1) (kZ (rdZ (rdZ y16 (sq0 y7 y11 y4 y15)) 2) (kZ (rdZ (rdZ y16 (sq0 y7 y11 y4 y15)) 3) (kZ (rdZ (rdZ y16 (sq0 y7 y11 y4 y15)) 4) (kZ (rdZ (rdZ y16 (sq0 y7 y11 y4 y15)) 5) (kZ (rdZ (rdZ y16 (sq0 y7 y11 y4 y15)) 6) (kZ (rdZ (rdZ y16 (sq0 y7 y11 y4 y15)) 7) (kZ (rdZ (rdZ y16 (sq0 y7 y11 y4 y15)) 8) (kZ (rdZ (rdZ y16 (sq0 y7 y11 y4 y15)) 9) (kZ (rdZ (rdZ y16 (sq0 y7 y11 y4 y15)) 10) (kZ (rdZ (rdZ y16 (sq0 y7 y11 y4 y15)) 11) (kZ (rdZ (rdZ y16 (sq0 y7 y11 y4 y15)) 12) (kZ (rdZ (rdZ y16 (sq0 y7 y11 y4 y15)) 13) (kZ (rdZ (rdZ y16 (sq0 y7 y11 y4 y15)) 14) (kZ (rdZ (rdZ y16 (sq0 y7 y11 y4 y15)) 15) (kZ (rdZ (rdZ y16 (sq0 y7 y11 y4 y15)) 16) (kZ (rdZ (rdZ y16 (sq0 y7 y11 y4 y15)) 17) (kZ (rdZ (rdZ y16
 (sq0 y7 y11 y4 y15)) 18) (kZ (rdZ (rdZ y16 (sq0 y7 y11 y4 y15)) 19) (kZ (rdZ (rdZ y16 (sq0 y7 y11 y4 y15)) 20) (kZ (rdZ (rdZ y16 (sq0 y7 y11 y4 y15)) 21) (kZ (rdZ (rdZ y16 (sq0 y7 y11 y4 y15)) 22) (kZ (rdZ (rdZ y16 (sq0 y7 y11 y4 y15)) 23) (kZ (rdZ (rdZ y16 (sq0 y7 y11 y4 y15)) 24) (kZ (rdZ (rdZ y16 (sq0 y7 y11 y4 y15)) 25) (kZ (rdZ (rdZ y16 (sq0 y7 y11 y4 y15)) 26) (kZ (rdZ (rdZ y16 (sq0 y7 y11 y4 y15)) 27) (kZ (rdZ (rdZ y16 (sq0 y7 y11 y4 y15)) 28) (kZ (rdZ (rdZ y16 (sq0 y7 y11 y4 y15)) 29) (kZ (rdZ (rdZ y16 (sq0 y7 y11 y4 y15)) 30) (kZ (rdZ (rdZ y16 (sq0 y7 y11 y4 y15)) 31) (kZ (rdZ (rdZ y16 (sq0 y7 y11 y4 y15)) 32) 0))))))))))))))))))))))))))))))))
def sq4 (y0 y1 a f c n k b l d o e p h : Int) (m0 : Nat) (I1000 : Int → Int → Nat → Prop) : Prop := (Pb y0 (∃ I1003 : Int → Int → Int → Nat → Prop, (∃ m, I1003 0 0 y1 m) ∧ ∀ y3 y4 y5 : Int, ∀ m3, ((0 ≤ y3 ∧ y3 ≤ 1) ∧ (0 ≤ y4 ∧ y4 ≤ 4611686018427387904) ∧ True ∧ True) → I1003 y3 y4 y5 m3 → (Pb (Pl y4 a) (Pn (decZ (U3 (rdZ f y4)) 0) (-32768) 65535 fun y7 => Pn (decZ (U3 (rdZ f y4)) 1) (-32768) 65535 fun y8 => Pn (decZ (U3 (rdZ f y4)) 2) (-32768) 65535 fun y9 => Pn (decZ (U3 (rdZ f y4)) 3) (-32768) 65535 fun y10 => Pn (decZ (U3 (rdZ f y4)) 4) (-32768) 65535 fun y11 => Pn (decZ (U3 (rdZ f y4)) 5) (-32768) 65535 fun y12 => (Pb (Pe (rdZ (rdZ y5 y4) 0) 0) (Pm (PL (y4 + 1) 4611686018427387904) (∃ m', m' < m3 ∧ I1003 y3 (y4 + 1) y5 m')) (Pb (Pd y12 0) (Pm (PL (y4 + 1) 4611686018427387904) (∃ m',
 m' < m3 ∧ I1003 y3 (y4 + 1) y5 m')) (Pm (PL 1 y7) (Pm (PL y7 44) (Pm (PL 0 y8) (Pm (PL y8 31) (Pm (PL 0 y9) (Pm (PL y9 31) (Pm (PL 0 y10) (Pm (PL y10 31) (Pm (PL a 16384) (Pm (PL c 2048) (Pm (PL c n) (Pm (((Pd y7 34) + (Pd y9 0)) + (PL 0 y11)) (Pm (PL a k) (Pm (PL b l) (Pm (PL d o) (Pm (PL e p) (Pn (iteZ (((Pe y7 41) + (Pe y7 43)) + ((((Pe y7 34) + (Pe y7 35)) * (Pe y9 0)) * (PL b y11))) 0 (iteZ (((Pe y7 36) + (Pe y7 37)) + (Pe y7 38)) 2 1)) 0 2 fun y13 => ∃ I1014 : Int → Int → Int → Nat → Prop, (∃ m, I1014 y3 0 y5 m) ∧ ∀ y14 y15 y16 : Int, ∀ m14, ((0 ≤ y14 ∧ y14 ≤ 1) ∧ (0 ≤ y15 ∧ y15 ≤ 4611686018427387904) ∧ True ∧ True) → I1014 y14 y15 y16 m14 → (Pb (Pl y15 y13) (Pb (PL a (sq0 y7 y11 y4 y15)) (Pm (PL (y15 + 1) 4611686018427387904) (∃ m', m' < m14 ∧ I1014 y14 (y15 + 1) y16 m')) (Pm (PL
 0 (sq0 y7 y11 y4 y15)) (Pm (Pl (sq0 y7 y11 y4 y15) a) (∃ I1018 : Int → Int → Nat → Prop, (∃ m, I1018 0 (updZ y16 (sq0 y7 y11 y4 y15) (updZ (rdZ y16 (sq0 y7 y11 y4 y15)) 0 1)) m) ∧ ∀ y18 y19 : Int, ∀ m18, ((0 ≤ y18 ∧ y18 ≤ 4611686018427387904) ∧ True ∧ True) → I1018 y18 y19 m18 → (Pb (Pl y18 32) (Pn (sq0 y7 y11 y4 y15) (-9223372036854775808) 9223372036854775807 fun y21 => (Pb (rdZ (sq3 y16 y7 y11 y4 y15) y18) (Pm (PL 0 y21) (Pm (Pl y21 a) (Pm (Pl (1 + y18) 33) (Pm (PL (y18 + 1) 4611686018427387904) (∃ m', m' < m18 ∧ I1018 (y18 + 1) (updZ y19 y21 (updZ (rdZ y19 y21) (1 + y18) 1)) m'))))) (Pm (PL 0 y21) (Pm (Pl y21 a) (Pm (Pl (1 + y18) 33) (Pm (PL (y18 + 1) 4611686018427387904) (∃ m', m' < m18 ∧ I1018 (y18 + 1) (updZ y19 y21 (updZ (rdZ y19 y21) (1 + y18) (rdZ (kZ (rdZ (bhcZ y7 y8 (kZ y9 (kZ
 y10 (kZ y11 (kZ c (kZ h (kZ (rdZ y5 y4) 0))))))) 1) (kZ (rdZ (bhcZ y7 y8 (kZ y9 (kZ y10 (kZ y11 (kZ c (kZ h (kZ (rdZ y5 y4) 0))))))) 2) (sq1 y7 y8 y9 y10 y11 c h y5 y4))) y18))) m'))))))) (Pb y14 (Pm (PL (y15 + 1) 4611686018427387904) (∃ m', m' < m14 ∧ I1014 1 (y15 + 1) y19 m')) (Pn (sq0 y7 y11 y4 y15) (-9223372036854775808) 9223372036854775807 fun y24 => (Pm (PL 0 y24) (Pm (Pl y24 a) (Pm (PL (y15 + 1) 4611686018427387904) (∃ m', m' < m14 ∧ I1014 (sq2 y19 y24 y16 y7 y11 y4 y15) (y15 + 1) y19 m'))))))))))) (Pm (PL (y4 + 1) 4611686018427387904) (∃ m', m' < m3 ∧ I1003 y14 (y4 + 1) y16 m'))))))))))))))))))))))) (∃ m', m' < m0 ∧ I1000 y3 y5 m'))) ((a : Int) = a ∧ qZb [.bool, .bool, .bool, .bool, .bool, .bool, .bool, .bool, .bool, .bool, .bool, .bool, .bool, .bool, .bool, .bool, .bool,
 .bool, .bool, .bool, .bool, .bool, .bool, .bool, .bool, .bool, .bool, .bool, .bool, .bool, .bool, .bool, .bool] y1 (levZ f a (kZ b (kZ h 0))) a ∧ True))
def P (a b c d e f g h i j k l n o p : Int) : Prop :=
 (Pb (Pl 0 a) (∃ I1000 : Int → Int → Nat → Prop, (∃ m, I1000 1 (updZ 0 0 (updZ 0 0 1)) m) ∧ ∀ y0 y1 : Int, ∀ m0, ((0 ≤ y0 ∧ y0 ≤ 1) ∧ True ∧ True) → I1000 y0 y1 m0 → (sq4 y0 y1 a f c n k b l d o e p h m0 I1000)) (∃ I1000 : Int → Int → Nat → Prop, (∃ m, I1000 1 0 m) ∧ ∀ y0 y1 : Int, ∀ m0, ((0 ≤ y0 ∧ y0 ≤ 1) ∧ True ∧ True) → I1000 y0 y1 m0 → (sq4 y0 y1 a f c n k b l d o e p h m0 I1000)))
set_option maxHeartbeats 4000000 in
theorem holds (n0_0 n0_1 n0_2 n0_3 n0_4 c0_0 c0_1 c0_2 c0_3 c0_4 r0_0 r0_1 r0_2 r0_3 r0_4 : Int) (l_n0_0 : 0 ≤ n0_0) (u_n0_0 : n0_0 ≤ 1000000) (l_n0_1 : 0 ≤ n0_1) (u_n0_1 : n0_1 ≤ 1000000) (l_n0_2 : 0 ≤ n0_2) (u_n0_2 : n0_2 ≤ 1000000) (l_n0_3 : 0 ≤ n0_3) (u_n0_3 : n0_3 ≤ 1000000) (l_n0_4 : 0 ≤ n0_4) (u_n0_4 : n0_4 ≤ 1000000) (h_n0_0 : n0_0 ≤ r0_0) (h_n0_1 : n0_1 ≤ r0_1) (h_n0_2 : n0_2 ≤ r0_2) (h_n0_3 : n0_3 ≤ r0_3) (h_n0_4 : n0_4 ≤ r0_4) (h_pre0 : qQz (decide (n0_0  ≤  16384)) ≠ 0) (h_pre1 : qQz (decide (n0_1  ≤  2048)) ≠ 0) (h_pre2 : qQz (n0_2  ==  n0_1) ≠ 0) : P n0_0 n0_1 n0_2 n0_3 n0_4 c0_0 c0_1 c0_2 c0_3 c0_4 r0_0 r0_1 r0_2 r0_3 r0_4 := by
 delta P sq0 sq1 sq2 sq3 sq4 Pb Pm Pn PL Pl Pe Pd W6 U3 kZ
 simp only [c32_def, same33_def]
 simp only [nrm, nro, Int.reduceEq, Int.reduceNeg, reduceIte]
 have hc0 : n0_0 ≤ 16384 := by simpa [qQz] using h_pre0
 have hn2 : n0_2 = n0_1 := by simpa [qQz] using h_pre2
 have hn1 : n0_1 ≤ 2048 := by simpa [qQz] using h_pre1
 clear h_pre0 h_pre1 h_pre2
 subst hn2
 refine ⟨fun hpos => ?_, fun hz => ?_⟩
 ·refine ⟨fun ch q m => Below c0_0 n0_0 n0_2 c0_2 q ∧ bT q 0 0 ∧ (ch = 0 → qZb (List.replicate 33 .bool) q (levZ c0_0 n0_0 (qQq n0_2 (qQq c0_2 0))) n0_0) ∧ m = 2 * (33 * n0_0.toNat - cntP q n0_0.toNat) + ch.toNat,
   ⟨_, below_q0 hpos, (q0_bT (by decide) (by decide)).2 ⟨rfl, rfl⟩, fun h => absurd h (by decide), rfl⟩, ?_⟩
  rintro ch q m ⟨ch0, ch1⟩ ⟨hB, hS, hR, rfl⟩
  refine ⟨fun hch => ?_, fun hch => hR hch⟩
  refine ⟨fun c pc q' m => (0 ≤ pc ∧ pc ≤ n0_0) ∧ SwP c0_0 n0_0 n0_2 c0_2 q q' c pc ∧ m = (n0_0 - pc).toNat, ⟨_, ⟨by omega, by omega⟩, sw_start hB (fun _ => hS), rfl⟩, ?_⟩
  rintro c pc q' m ⟨⟨cl0, cl1⟩, -, -⟩ ⟨⟨p0, p1⟩, hW, rfl⟩
  refine ⟨fun hlt => ?_, fun hge => ?_⟩
  ·rintro op hop - d hd - a ha - b hb - n hn - e he -
   refine ⟨fun hre => ⟨by omega, _, ?_, ⟨by omega, by omega⟩, sw_skip hW (fun g => g.1 hre), rfl⟩, fun hre => ⟨fun hE => ⟨by omega, _, ?_, ⟨by omega, by omega⟩, sw_skip hW (fun g => hE (he.trans g.2)), rfl⟩, fun hE => ?_⟩⟩
   ·omega
   ·omega
   have h5 : decZ (IntKind.wrap .u32 (rdZ c0_0 pc)) 5 = 0 := he.symm.trans hE
   obtain ⟨⟨o0, o1⟩, ⟨d0, d1⟩, ⟨a0, a1⟩, ⟨b0, b1⟩, ⟨n0, n1⟩⟩ := dec_in (rdZ c0_0 pc) h5
   have hn0 := dec_n0 h5
   rw [← hop, ← hn] at hn0
   rw [← hop] at o0 o1
   rw [← hd] at d0 d1
   rw [← ha] at a0 a1
   rw [← hb] at b0 b1
   rw [← hn] at n0 n1
   refine ⟨by omega, by omega, by omega, by omega, by omega, by omega, by omega, by omega, by omega, by omega, by omega, ?_, by omega, by omega, by omega, by omega, ?_⟩
   ·by_cases g : op = 34
    ·have : 0 ≤ n := hn0 (by omega)
     rw [bo2, if_pos this]
     unfold qQz
     (repeat' split) <;> omega
    ·rw [bo2]
     unfold qQz
     (repeat' split) <;> simp_all <;> omega
   rintro nn hnn -
   generalize hRR : (if ¬ qQz (op == 36) + qQz (op == 37) + qQz (op == 38) = 0 then qQq n (qQq (pc + 1) 0) else if ¬ qQz (op == 39) + qQz (op == 40) = 0 then qQq n 0 else qQq (pc + 1) 0) = R
   have hw : IntKind.wrap .i64 (pc + 1) = pc + 1 := w64 (by omega) (by omega)
   obtain ⟨⟨nn0, nn1⟩, hT1, hT2⟩ := nx_list (nr := n0_2) (op := op) (a := a) (n := n) (pc := pc) (R := R) p0 (by omega) n0 n1 hnn (by rw [hw]; exact hRR.symm)
   obtain ⟨T, hT⟩ : ∃ T : Int → Int, ∀ j, IntKind.wrap .i64 (rdZ R j) = T j := ⟨_, fun _ => rfl⟩
   simp only [hT] at hT1 hT2 ⊢
   generalize hBB : bhcZ op d (qQq a (qQq b (qQq n (qQq n0_2 (qQq c0_2 (qQq (rdZ q' pc) 0)))))) = B
   have hbe : ∀ r, 0 ≤ r → r < 32 → (rdZ B (1 + r) ≠ 0 ↔ behS n0_2 c0_2 op d a b n (fun r => bT q' pc (1 + r)) r) := fun r r0 r1 => by rw [← hBB]; exact bh_at r0 r1
   refine ⟨fun c2 j q2 m => (0 ≤ j ∧ j ≤ nn) ∧ SwK c0_0 n0_0 n0_2 c0_2 q q' pc (fun r => rdZ B (1 + r) ≠ 0) T q2 c2 j ∧ m = (nn - j).toNat, ⟨_, ⟨by omega, by omega⟩, sk_start hW, rfl⟩, ?_⟩
   rintro c2 j q2 m ⟨⟨k0, k1⟩, -, -⟩ ⟨⟨j0, j1⟩, hK, rfl⟩
   refine ⟨fun jl => ⟨fun tge => ⟨by omega, _, ?_, ⟨by omega, by omega⟩, sk_skip hK (by omega), rfl⟩, fun tlt => ?_⟩, fun jge => ⟨by omega, _, ?_, ⟨by omega, by omega⟩, ?_, rfl⟩⟩
   ·omega
   ·have hnx := hT1 j j0 jl
    have t0 : 0 ≤ T j := by
     rcases hnx.2 with ⟨h, g | g⟩ | ⟨h, g⟩ | ⟨_, g⟩
     ·rw [g]; exact hn0 (by omega)
     ·omega
     ·rw [g]; exact hn0 (by omega)
     ·omega
    refine ⟨t0, tlt, ?_⟩
    refine ⟨fun r Q m => (0 ≤ r ∧ r ≤ 32) ∧ UpS q2 Q (T j) (fun r => bT q2 (T j) (1 + r) ∨ rdZ B (1 + r) ≠ 0) r ∧ m = (32 - r).toNat, ⟨_, ⟨by decide, by decide⟩, ups_start t0 (by decide), rfl⟩, ?_⟩
    rintro r Q m ⟨-, -⟩ ⟨⟨r0, r1⟩, hU, rfl⟩
    refine ⟨fun rl => ?_, fun rge => ?_⟩
    ·rintro _ rfl -
     rw [c32_at _ r0 rl, c32_at _ r0 rl]
     refine ⟨fun hw => ⟨t0, tlt, by omega, by omega, _, ?_, ⟨by omega, by omega⟩, ups_step hU t0 r0 ⟨fun _ => .inl hw, fun _ => by decide⟩, rfl⟩,
      fun hw => ⟨t0, tlt, by omega, by omega, _, ?_, ⟨by omega, by omega⟩, ups_step hU t0 r0 ⟨fun g => .inr g, fun g => g.elim (fun k => absurd hw k) id⟩, rfl⟩⟩
     ·omega
     ·omega
    ·obtain rfl : r = 32 := by omega
     have hUp : UpQ q2 Q (T j) (fun r => rdZ B (1 + r) ≠ 0) := ups_end hU (fun r _ _ => Iff.rfl)
     have step : ∀ c', (c' = 0 ↔ c2 = 0 ∧ ∀ f, 0 ≤ f → f < 33 → (bT Q (T j) f ↔ bT q2 (T j) f)) → SwK c0_0 n0_0 n0_2 c0_2 q q' pc (fun r => rdZ B (1 + r) ≠ 0) T Q c' (j + 1) := fun c' h =>
      sk_up hK p0 hlt hW.be hre h5 (by rw [← hop, ← ha, ← hn]; exact hnx) t0 tlt hUp (fun r r0 r1 g => by rw [← hop, ← hd, ← ha, ← hb, ← hn]; exact (hbe r r0 r1).1 g) h
     refine ⟨fun hc => ⟨by omega, _, ?_, ⟨by omega, by omega⟩, step 1 ⟨fun k => absurd k (by decide), fun k => absurd k.1 hc⟩, rfl⟩, fun hc => ?_⟩
     ·omega
     ·rintro _ rfl -
      refine ⟨t0, tlt, by omega, _, ?_, ⟨by omega, by omega⟩, step _ ?_, rfl⟩
      ·omega
      ·have hs := same33_ne (rdZ Q (T j)) (rdZ q2 (T j))
       have hb0 : ∀ x : Int, qQz (x == 0) = 0 ↔ x ≠ 0 := fun x => by unfold qQz; by_cases e : x = 0 <;> simp [e]
       rw [hb0, hs]
       exact ⟨fun h => ⟨hc, h⟩, fun h => h.2⟩
   ·omega
   ·obtain rfl : j = nn := by omega
    exact sk_end hK h5 p0 hlt (fun t ht => by rw [← hop, ← ha, ← hn] at ht; exact hT2 t ht) (fun r r0 r1 g => by rw [← hop, ← hd, ← ha, ← hb, ← hn] at g; exact (hbe r r0 r1).2 g)
  ·refine ⟨_, ?_, hW.be, hW.st hpos, fun e => sw_done hW hge (by omega) e, rfl⟩
   have := hW.le
   have := cntP_le q' n0_0.toNat
   by_cases e : c = 0
   ·omega
   ·have := hW.lt e
    omega
 ·refine ⟨fun ch q m => m = ch.toNat, ⟨_, rfl⟩, ?_⟩
  rintro ch q m ⟨ch0, ch1⟩ rfl
  refine ⟨fun hch => ⟨fun c pc _ _ => c = 0 ∧ 0 ≤ pc, ⟨0, rfl, by omega⟩, ?_⟩, fun _ => rowEq_nil _ _ _ hz⟩
  rintro c pc q m - ⟨hc, hp⟩
  exact ⟨fun h => absurd h (by omega), fun h => ⟨_, by omega, rfl⟩⟩
theorem plain (i v ro p) : statR 2 rc tree ⟨i, fN, v, ro, p⟩ = P (i 0) (i 1) (i 2) (i 3) (i 4) (i 5) (i 6) (i 7) (i 8) (i 9) (i 10) (i 11) (i 12) (i 13) (i 14) := by kernel_rfl
theorem ran : ranR us (fun f i => if f = 14 then (match i with | 5 => .tmpl (some mk5) | 8 => .tmpl (some mk8) | 15 => .tmpl (some mk15) | 21 => .tmpl (some mk21) | _ => .auto) else .auto) rc 2 tree = true := by kernel_rfl
theorem fineT : fineR 2 rc tree = true := by kernel_rfl
theorem ok : RcOk (cxOf 2) rc := okR us_ok ran fineT okb fun i v ro p hρ hcap hpre => by rw [plain]; have q := hρ.hi; exact holds _ _ _ _ _ _ _ _ _ _ _ _ _ _ _ (q 0 _ rfl).1 (q 0 _ rfl).2 (q 1 _ rfl).1 (q 1 _ rfl).2 (q 2 _ rfl).1 (q 2 _ rfl).2 (q 3 _ rfl).1 (q 3 _ rfl).2 (q 4 _ rfl).1 (q 4 _ rfl).2 (hcap _ (mg 0 rfl)) (hcap _ (mg 1 rfl)) (hcap _ (mg 2 rfl)) (hcap _ (mg 3 rfl)) (hcap _ (mg 4 rfl)) (hpre _ (mg 0 rfl)) (hpre _ (mg 1 rfl)) (hpre _ (mg 2 rfl))
end CRLevels
end Go.Proofs.YteimodjkllldlaaGreatDoor
