/-
  What functions of the program answer, as numbers of what they are handed: their runs by the engine, the plain statements behind them. No condition.
-/
import Derived.Test.YtfkdlidcogpncaaGreatDoorKd
import Derived.Test.YtfkdlidcogpncaaGreatDoorKe
import Derived.Test.YtfkdlidcogpncaaGreatDoorGab
import Derived.Test.YtfkdlidcogpncaaGreatDoorGmD
set_option linter.unusedVariables false
set_option linter.unusedSimpArgs false
set_option maxRecDepth 100000
namespace Go.Proofs.YtfkdlidcogpncaaGreatDoor
open Go.Eng Go.RowKit
namespace CREach
def rc : Rc := ⟨94, [none, none, none], [.int .i64, .int .i32, .int .i32], [], .one, [.int .i32 (.f 63 (.ite (.b .eq .i64 (.v 0) (.c 0)) (.c 5) (.ite (.b .eq .i64 (.v 0) (.c 1)) (.c 6) (.ite (.b .eq .i64 (.v 0) (.c 2)) (.c 7) (.c 8)))) (.v 1) (.v 2))]⟩
theorem okb : rc.ok = true := by kernel_rfl
def mk3 : qJb := [([0, 19], .wild), ([0, 20], .wild), ([0, 21], .wild), ([0, 22], .wild), ([0, 23], .wild), ([0, 24], .wild), ([0, 25], .wild), ([0, 26], .wild), ([0, 27], .wild), ([0, 28], .wild), ([0, 59], .wild), ([0, 60], .wild), ([0, 61], .wild), ([0, 62], .wild), ([0, 63], .wild), ([0, 64], .wild), ([0, 65], .wild), ([0, 66], .wild), ([0, 67], .wild), ([0, 68], .wild), ([0, 69], .wild), ([0, 70], .wild), ([0, 40], .wild), ([0, 41], .wild), ([0, 42], .wild), ([0, 43], .wild), ([0, 44], .wild), ([0, 45], .wild), ([0, 46], .wild), ([0, 47], .wild), ([0, 48], .wild), ([0, 49], .wild), ([0, 50], .wild), ([0, 51], .wild), ([0, 52], .wild), ([0, 53], .wild), ([0, 54], .wild), ([0, 55], .wild), ([0, 56], .wild), ([0, 57], .wild), ([0, 58], .wild), ([0, 9], .num (-9223372036854775808) (9223372036854775807)), ([0, 14], .wild), ([0, 15], .wild), ([0, 16], .wild), ([0, 17], .wild), ([0, 18], .wild), ([0, 29], .wild), ([0, 30], .wild), ([0, 31], .wild), ([0, 32], .wild), ([0, 33], .wild), ([0, 34], .wild), ([0, 35], .wild), ([0, 36], .wild), ([0, 37], .wild), ([0, 38], .wild), ([0, 39], .wild), ([1, 0, 0], .num (-9223372036854775808) (9223372036854775807)), ([1, 0, 1], .num (-9223372036854775808) (9223372036854775807)), ([1, 0, 2], .num (-9223372036854775808) (9223372036854775807)), ([1, 0, 3], .num (-9223372036854775808) (9223372036854775807)), ([1, 0, 4], .num (-9223372036854775808) (9223372036854775807)), ([1, 0, 5], .num (-9223372036854775808) (9223372036854775807)), ([1, 0, 6], .num (-9223372036854775808) (9223372036854775807)), ([1, 0, 7], .num (-9223372036854775808) (9223372036854775807)), ([1, 0, 8], .num (-9223372036854775808) (9223372036854775807)), ([1, 0, 9], .num (-9223372036854775808) (9223372036854775807)), ([1, 0, 10], .num (-9223372036854775808) (9223372036854775807)), ([1, 0, 11], .num (-9223372036854775808) (9223372036854775807)), ([1, 0, 12], .num (-9223372036854775808) (9223372036854775807)), ([1, 0, 13], .num (-9223372036854775808) (9223372036854775807)), ([1, 0, 14], .num (-9223372036854775808) (9223372036854775807)), ([1, 0, 15], .num (-9223372036854775808) (9223372036854775807)), ([1, 0, 16], .num (-9223372036854775808) (9223372036854775807)), ([1, 0, 17], .num (-9223372036854775808) (9223372036854775807)), ([1, 0, 18], .num (-9223372036854775808) (9223372036854775807)), ([1, 0, 19], .num (-9223372036854775808) (9223372036854775807)), ([1, 0, 20], .num (-9223372036854775808) (9223372036854775807)), ([1, 0, 21], .num (-9223372036854775808) (9223372036854775807)), ([1, 0, 22], .num (-9223372036854775808) (9223372036854775807)), ([1, 0, 23], .num (-9223372036854775808) (9223372036854775807)), ([1, 0, 24], .num (-9223372036854775808) (9223372036854775807)), ([1, 0, 25], .num (-9223372036854775808) (9223372036854775807)), ([1, 0, 26], .num (-9223372036854775808) (9223372036854775807)), ([1, 0, 27], .num (-9223372036854775808) (9223372036854775807)), ([1, 0, 28], .num (-9223372036854775808) (9223372036854775807)), ([1, 0, 29], .num (-9223372036854775808) (9223372036854775807)), ([1, 0, 30], .num (-9223372036854775808) (9223372036854775807)), ([1, 0, 31], .num (-9223372036854775808) (9223372036854775807))]
noncomputable def us : SMs := fun Γ ins n => smH (cxG n Γ ins) [] (smR (cxG n Γ ins) [CRBits.rc, CROf.rc])
theorem us_ok : SMsOk us := fun Γ ins n => qQp (tabsG n Γ ins) (qQa _) (qQn (tabsG n Γ ins) (qQk CRBits.okb (rc_n CRBits.ok) (qQk CROf.okb (rc_n CROf.ok) (qQb _))))
def Q0 : E := (.cl 1000 (-9223372036854775808) 9223372036854775807)
def Q1 : E := (tl (.c 0) Q0)
def Q2 : E := (.cl 1001 (-9223372036854775808) 9223372036854775807)
def Q3 : E := (.cl 1002 (-9223372036854775808) 9223372036854775807)
def Q4 : E := (.cl 1003 (-9223372036854775808) 9223372036854775807)
def Q5 : E := (.cl 1004 (-9223372036854775808) 9223372036854775807)
def Q6 : E := (.cl 1005 (-9223372036854775808) 9223372036854775807)
def Q7 : E := (.cl 1006 (-9223372036854775808) 9223372036854775807)
def Q8 : E := (.cl 1007 (-9223372036854775808) 9223372036854775807)
def Q9 : E := (.cl 1008 (-9223372036854775808) 9223372036854775807)
def Q10 : E := (.cl 1009 (-9223372036854775808) 9223372036854775807)
def Q11 : E := (.cl 1010 (-9223372036854775808) 9223372036854775807)
def Q12 : E := (.cl 1011 (-9223372036854775808) 9223372036854775807)
def Q13 : E := (.cl 1012 (-9223372036854775808) 9223372036854775807)
def Q14 : E := (.cl 1013 (-9223372036854775808) 9223372036854775807)
def Q15 : E := (.cl 1014 (-9223372036854775808) 9223372036854775807)
def Q16 : E := (.cl 1015 (-9223372036854775808) 9223372036854775807)
def Q17 : E := (.cl 1016 (-9223372036854775808) 9223372036854775807)
def Q18 : E := (.cl 1017 (-9223372036854775808) 9223372036854775807)
def Q19 : E := (.cl 1018 (-9223372036854775808) 9223372036854775807)
def Q20 : E := (.cl 1019 (-9223372036854775808) 9223372036854775807)
def Q21 : E := (.cl 1020 (-9223372036854775808) 9223372036854775807)
def Q22 : E := (.cl 1021 (-9223372036854775808) 9223372036854775807)
def Q23 : E := (.cl 1022 (-9223372036854775808) 9223372036854775807)
def Q24 : E := (.cl 1023 (-9223372036854775808) 9223372036854775807)
def Q25 : E := (.cl 1024 (-9223372036854775808) 9223372036854775807)
def Q26 : E := (.cl 1025 (-9223372036854775808) 9223372036854775807)
def Q27 : E := (.cl 1026 (-9223372036854775808) 9223372036854775807)
def Q28 : E := (.cl 1027 (-9223372036854775808) 9223372036854775807)
def Q29 : E := (.cl 1028 (-9223372036854775808) 9223372036854775807)
def Q30 : E := (.cl 1029 (-9223372036854775808) 9223372036854775807)
def Q31 : E := (.cl 1030 (-9223372036854775808) 9223372036854775807)
def Q32 : E := (.cl 1031 (-9223372036854775808) 9223372036854775807)
def Q33 : E := (.cl 1032 (-9223372036854775808) 9223372036854775807)
def Q34 : E := (tC Q33 (.c 0))
def Q35 : E := (tC Q32 Q34)
def Q36 : E := (tC Q31 Q35)
def Q37 : E := (tC Q30 Q36)
def Q38 : E := (tC Q29 Q37)
def Q39 : E := (tC Q28 Q38)
def Q40 : E := (tC Q27 Q39)
def Q41 : E := (tC Q26 Q40)
def Q42 : E := (tC Q25 Q41)
def Q43 : E := (tC Q24 Q42)
def Q44 : E := (tC Q23 Q43)
def Q45 : E := (tC Q22 Q44)
def Q46 : E := (tC Q21 Q45)
def Q47 : E := (tC Q20 Q46)
def Q48 : E := (tC Q19 Q47)
def Q49 : E := (tC Q18 Q48)
def Q50 : E := (tC Q17 Q49)
def Q51 : E := (tC Q16 Q50)
def Q52 : E := (tC Q15 Q51)
def Q53 : E := (tC Q14 Q52)
def Q54 : E := (tC Q13 Q53)
def Q55 : E := (tC Q12 Q54)
def Q56 : E := (tC Q11 Q55)
def Q57 : E := (tC Q10 Q56)
def Q58 : E := (tC Q9 Q57)
def Q59 : E := (tC Q8 Q58)
def Q60 : E := (tC Q7 Q59)
def Q61 : E := (tC Q6 Q60)
def Q62 : E := (tC Q5 Q61)
def Q63 : E := (tC Q4 Q62)
def Q64 : E := (tC Q3 Q63)
def Q65 : E := (tC Q2 Q64)
def Q66 : E := (tR Q65 Q0)
def Q67 : E := (t6 Q66)
def Q68 : E := (.f 2 (.v 2) (.c 0) (.c 0))
def Q69 : E := (.f 2 (.v 2) (.c 1) (.c 0))
def Q70 : E := (.f 2 (.v 2) (.c 2) (.c 0))
def Q71 : E := (.f 2 (.v 2) (.c 3) (.c 0))
def Q72 : E := (.f 2 (.v 2) (.c 4) (.c 0))
def Q73 : E := (.f 2 (.v 2) (.c 5) (.c 0))
def Q74 : E := (.f 2 (.v 2) (.c 6) (.c 0))
def Q75 : E := (.f 2 (.v 2) (.c 7) (.c 0))
def Q76 : E := (.f 2 (.v 2) (.c 8) (.c 0))
def Q77 : E := (.f 2 (.v 2) (.c 9) (.c 0))
def Q78 : E := (.f 2 (.v 2) (.c 10) (.c 0))
def Q79 : E := (.f 2 (.v 2) (.c 11) (.c 0))
def Q80 : E := (.f 2 (.v 2) (.c 12) (.c 0))
def Q81 : E := (.f 2 (.v 2) (.c 13) (.c 0))
def Q82 : E := (.f 2 (.v 2) (.c 14) (.c 0))
def Q83 : E := (.f 2 (.v 2) (.c 15) (.c 0))
def Q84 : E := (.f 2 (.v 2) (.c 16) (.c 0))
def Q85 : E := (.f 2 (.v 2) (.c 17) (.c 0))
def Q86 : E := (.f 2 (.v 2) (.c 18) (.c 0))
def Q87 : E := (.f 2 (.v 2) (.c 19) (.c 0))
def Q88 : E := (.f 2 (.v 2) (.c 20) (.c 0))
def Q89 : E := (.f 2 (.v 2) (.c 21) (.c 0))
def Q90 : E := (.f 2 (.v 2) (.c 22) (.c 0))
def Q91 : E := (.f 2 (.v 2) (.c 23) (.c 0))
def Q92 : E := (.f 2 (.v 2) (.c 24) (.c 0))
def Q93 : E := (.f 2 (.v 2) (.c 25) (.c 0))
def Q94 : E := (.f 2 (.v 2) (.c 26) (.c 0))
def Q95 : E := (.f 2 (.v 2) (.c 27) (.c 0))
def Q96 : E := (.f 2 (.v 2) (.c 28) (.c 0))
def Q97 : E := (.f 2 (.v 2) (.c 29) (.c 0))
def Q98 : E := (.f 2 (.v 2) (.c 30) (.c 0))
def Q99 : E := (.f 2 (.v 2) (.c 31) (.c 0))
def Q100 : E := (tC Q99 (.c 0))
def Q101 : E := (tC Q98 Q100)
def Q102 : E := (tC Q97 Q101)
def Q103 : E := (tC Q96 Q102)
def Q104 : E := (tC Q95 Q103)
def Q105 : E := (tC Q94 Q104)
def Q106 : E := (tC Q93 Q105)
def Q107 : E := (tC Q92 Q106)
def Q108 : E := (tC Q91 Q107)
def Q109 : E := (tC Q90 Q108)
def Q110 : E := (tC Q89 Q109)
def Q111 : E := (tC Q88 Q110)
def Q112 : E := (tC Q87 Q111)
def Q113 : E := (tC Q86 Q112)
def Q114 : E := (tC Q85 Q113)
def Q115 : E := (tC Q84 Q114)
def Q116 : E := (tC Q83 Q115)
def Q117 : E := (tC Q82 Q116)
def Q118 : E := (tC Q81 Q117)
def Q119 : E := (tC Q80 Q118)
def Q120 : E := (tC Q79 Q119)
def Q121 : E := (tC Q78 Q120)
def Q122 : E := (tC Q77 Q121)
def Q123 : E := (tC Q76 Q122)
def Q124 : E := (tC Q75 Q123)
def Q125 : E := (tC Q74 Q124)
def Q126 : E := (tC Q73 Q125)
def Q127 : E := (tC Q72 Q126)
def Q128 : E := (tC Q71 Q127)
def Q129 : E := (tC Q70 Q128)
def Q130 : E := (tC Q69 Q129)
def Q131 : E := (tC Q68 Q130)
def Q132 : E := (tR Q131 Q0)
def Q133 : E := (t6 Q132)
def Q134 : E := (tp Q0 (.c 1))
def Q135 : E := (t6 Q134)
def Q136 : E := (.cl 1034 (-9223372036854775808) 9223372036854775807)
def Q137 : E := (.cl 1035 (-9223372036854775808) 9223372036854775807)
def Q138 : E := (.b .pmul .i64 Q136 Q137)
def Q139 : E := (t6 Q138)
def Q140 : E := (.f 14 Q65 Q0 Q139)
def Q141 : E := (tp Q136 Q137)
def Q142 : E := (t6 Q141)
def Q143 : E := (.cl 1036 (-9223372036854775808) 9223372036854775807)
def Q144 : E := (.f 14 Q65 Q0 Q143)
def Q145 : E := (tR Q144 (.c 0))
def Q146 : E := (t6 Q145)
def Q147 : E := (tR Q144 (.c 1))
def Q148 : E := (t6 Q147)
def Q149 : E := (tR Q144 (.c 2))
def Q150 : E := (t6 Q149)
def Q151 : E := (tR Q144 (.c 3))
def Q152 : E := (t6 Q151)
def Q153 : E := (tR Q144 (.c 4))
def Q154 : E := (t6 Q153)
def Q155 : E := (tR Q144 (.c 5))
def Q156 : E := (t6 Q155)
def Q157 : E := (tR Q144 (.c 6))
def Q158 : E := (t6 Q157)
def Q159 : E := (tR Q144 (.c 7))
def Q160 : E := (t6 Q159)
def Q161 : E := (tR Q144 (.c 8))
def Q162 : E := (t6 Q161)
def Q163 : E := (tR Q144 (.c 9))
def Q164 : E := (t6 Q163)
def Q165 : E := (tR Q144 (.c 10))
def Q166 : E := (t6 Q165)
def Q167 : E := (tR Q144 (.c 11))
def Q168 : E := (t6 Q167)
def Q169 : E := (tR Q144 (.c 12))
def Q170 : E := (t6 Q169)
def Q171 : E := (tR Q144 (.c 13))
def Q172 : E := (t6 Q171)
def Q173 : E := (tR Q144 (.c 14))
def Q174 : E := (t6 Q173)
def Q175 : E := (tR Q144 (.c 15))
def Q176 : E := (t6 Q175)
def Q177 : E := (tR Q144 (.c 16))
def Q178 : E := (t6 Q177)
def Q179 : E := (tR Q144 (.c 17))
def Q180 : E := (t6 Q179)
def Q181 : E := (tR Q144 (.c 18))
def Q182 : E := (t6 Q181)
def Q183 : E := (tR Q144 (.c 19))
def Q184 : E := (t6 Q183)
def Q185 : E := (tR Q144 (.c 20))
def Q186 : E := (t6 Q185)
def Q187 : E := (tR Q144 (.c 21))
def Q188 : E := (t6 Q187)
def Q189 : E := (tR Q144 (.c 22))
def Q190 : E := (t6 Q189)
def Q191 : E := (tR Q144 (.c 23))
def Q192 : E := (t6 Q191)
def Q193 : E := (tR Q144 (.c 24))
def Q194 : E := (t6 Q193)
def Q195 : E := (tR Q144 (.c 25))
def Q196 : E := (t6 Q195)
def Q197 : E := (tR Q144 (.c 26))
def Q198 : E := (t6 Q197)
def Q199 : E := (tR Q144 (.c 27))
def Q200 : E := (t6 Q199)
def Q201 : E := (tR Q144 (.c 28))
def Q202 : E := (t6 Q201)
def Q203 : E := (tR Q144 (.c 29))
def Q204 : E := (t6 Q203)
def Q205 : E := (tR Q144 (.c 30))
def Q206 : E := (t6 Q205)
def Q207 : E := (tR Q144 (.c 31))
def Q208 : E := (t6 Q207)
def Q209 : E := (.f 14 Q65 Q0 (.cl 1036 (-1) 1))
def tree : TT (List E) :=
 (.loop ⟨1000, [some (-9223372036854775808, 9223372036854775807), some (-9223372036854775808, 9223372036854775807), some (-9223372036854775808, 9223372036854775807), some (-9223372036854775808, 9223372036854775807), some (-9223372036854775808, 9223372036854775807), some (-9223372036854775808, 9223372036854775807), some (-9223372036854775808, 9223372036854775807), some (-9223372036854775808, 9223372036854775807), some (-9223372036854775808, 9223372036854775807), some (-9223372036854775808, 9223372036854775807), some (-9223372036854775808, 9223372036854775807), some (-9223372036854775808, 9223372036854775807), some (-9223372036854775808, 9223372036854775807), some (-9223372036854775808, 9223372036854775807), some (-9223372036854775808, 9223372036854775807), some (-9223372036854775808,
 9223372036854775807), some (-9223372036854775808, 9223372036854775807), some (-9223372036854775808, 9223372036854775807), some (-9223372036854775808, 9223372036854775807), some (-9223372036854775808, 9223372036854775807), some (-9223372036854775808, 9223372036854775807), some (-9223372036854775808, 9223372036854775807), some (-9223372036854775808, 9223372036854775807), some (-9223372036854775808, 9223372036854775807), some (-9223372036854775808, 9223372036854775807), some (-9223372036854775808, 9223372036854775807), some (-9223372036854775808, 9223372036854775807), some (-9223372036854775808, 9223372036854775807), some (-9223372036854775808, 9223372036854775807), some (-9223372036854775808, 9223372036854775807), some (-9223372036854775808, 9223372036854775807), some
 (-9223372036854775808, 9223372036854775807), some (-9223372036854775808, 9223372036854775807)], [(.c 0), (.f 2 (.v 1) (.c 0) (.c 0)), (.f 2 (.v 1) (.c 1) (.c 0)), (.f 2 (.v 1) (.c 2) (.c 0)), (.f 2 (.v 1) (.c 3) (.c 0)), (.f 2 (.v 1) (.c 4) (.c 0)), (.f 2 (.v 1) (.c 5) (.c 0)), (.f 2 (.v 1) (.c 6) (.c 0)), (.f 2 (.v 1) (.c 7) (.c 0)), (.f 2 (.v 1) (.c 8) (.c 0)), (.f 2 (.v 1) (.c 9) (.c 0)), (.f 2 (.v 1) (.c 10) (.c 0)), (.f 2 (.v 1) (.c 11) (.c 0)), (.f 2 (.v 1) (.c 12) (.c 0)), (.f 2 (.v 1) (.c 13) (.c 0)), (.f 2 (.v 1) (.c 14) (.c 0)), (.f 2 (.v 1) (.c 15) (.c 0)), (.f 2 (.v 1) (.c 16) (.c 0)), (.f 2 (.v 1) (.c 17) (.c 0)), (.f 2 (.v 1) (.c 18) (.c 0)), (.f 2 (.v 1) (.c 19) (.c 0)), (.f 2 (.v 1) (.c 20) (.c 0)), (.f 2 (.v 1) (.c 21) (.c 0)), (.f 2 (.v 1) (.c 22) (.c 0)), (.f 2 (.v 1)
 (.c 23) (.c 0)), (.f 2 (.v 1) (.c 24) (.c 0)), (.f 2 (.v 1) (.c 25) (.c 0)), (.f 2 (.v 1) (.c 26) (.c 0)), (.f 2 (.v 1) (.c 27) (.c 0)), (.f 2 (.v 1) (.c 28) (.c 0)), (.f 2 (.v 1) (.c 29) (.c 0)), (.f 2 (.v 1) (.c 30) (.c 0)), (.f 2 (.v 1) (.c 31) (.c 0))], 1037⟩ (.br (tk Q0 (.c 32)) (.br (te (.v 0) (.c 0)) (.br Q1 (.new 1034 Q67 (.new 1035 Q133 (.back [Q135, (t6 (tR Q140 (.c 0))), (t6 (tR Q140 (.c 1))), (t6 (tR Q140 (.c 2))), (t6 (tR Q140 (.c 3))), (t6 (tR Q140 (.c 4))), (t6 (tR Q140 (.c 5))), (t6 (tR Q140 (.c 6))), (t6 (tR Q140 (.c 7))), (t6 (tR Q140 (.c 8))), (t6 (tR Q140 (.c 9))), (t6 (tR Q140 (.c 10))), (t6 (tR Q140 (.c 11))), (t6 (tR Q140 (.c 12))), (t6 (tR Q140 (.c 13))), (t6 (tR Q140 (.c 14))), (t6 (tR Q140 (.c 15))), (t6 (tR Q140 (.c 16))), (t6 (tR Q140 (.c 17))), (t6 (tR Q140
 (.c 18))), (t6 (tR Q140 (.c 19))), (t6 (tR Q140 (.c 20))), (t6 (tR Q140 (.c 21))), (t6 (tR Q140 (.c 22))), (t6 (tR Q140 (.c 23))), (t6 (tR Q140 (.c 24))), (t6 (tR Q140 (.c 25))), (t6 (tR Q140 (.c 26))), (t6 (tR Q140 (.c 27))), (t6 (tR Q140 (.c 28))), (t6 (tR Q140 (.c 29))), (t6 (tR Q140 (.c 30))), (t6 (tR Q140 (.c 31)))]))) (.bad 200)) (.br (te (.v 0) (.c 1)) (.br Q1 (.new 1034 Q67 (.new 1035 Q133 (.new 1036 (t6 (.b .psub .i64 Q142 Q139)) (.back [Q135, Q146, Q148, Q150, Q152, Q154, Q156, Q158, Q160, Q162, Q164, Q166, Q168, Q170, Q172, Q174, Q176, Q178, Q180, Q182, Q184, Q186, Q188, Q190, Q192, Q194, Q196, Q198, Q200, Q202, Q204, Q206, Q208])))) (.bad 200)) (.br (te (.v 0) (.c 2)) (.br Q1 (.new 1034 Q67 (.new 1035 Q133 (.new 1036 (.b .rem .i64 Q142 (.c 2)) (.back [Q135, (t6 (tR Q209 (.c
 0))), (t6 (tR Q209 (.c 1))), (t6 (tR Q209 (.c 2))), (t6 (tR Q209 (.c 3))), (t6 (tR Q209 (.c 4))), (t6 (tR Q209 (.c 5))), (t6 (tR Q209 (.c 6))), (t6 (tR Q209 (.c 7))), (t6 (tR Q209 (.c 8))), (t6 (tR Q209 (.c 9))), (t6 (tR Q209 (.c 10))), (t6 (tR Q209 (.c 11))), (t6 (tR Q209 (.c 12))), (t6 (tR Q209 (.c 13))), (t6 (tR Q209 (.c 14))), (t6 (tR Q209 (.c 15))), (t6 (tR Q209 (.c 16))), (t6 (tR Q209 (.c 17))), (t6 (tR Q209 (.c 18))), (t6 (tR Q209 (.c 19))), (t6 (tR Q209 (.c 20))), (t6 (tR Q209 (.c 21))), (t6 (tR Q209 (.c 22))), (t6 (tR Q209 (.c 23))), (t6 (tR Q209 (.c 24))), (t6 (tR Q209 (.c 25))), (t6 (tR Q209 (.c 26))), (t6 (tR Q209 (.c 27))), (t6 (tR Q209 (.c 28))), (t6 (tR Q209 (.c 29))), (t6 (tR Q209 (.c 30))), (t6 (tR Q209 (.c 31)))])))) (.bad 200)) (.br Q1 (.new 1034 Q67 (.new 1035 Q133
 (.new 1036 (t6 (.b .pmul .i64 Q136 (t6 (.b .psub .i64 (.c 1) Q137)))) (.back [Q135, Q146, Q148, Q150, Q152, Q154, Q156, Q158, Q160, Q162, Q164, Q166, Q168, Q170, Q172, Q174, Q176, Q178, Q180, Q182, Q184, Q186, Q188, Q190, Q192, Q194, Q196, Q198, Q200, Q202, Q204, Q206, Q208])))) (.bad 200))))) (.exit 0)) (.new 1039 (.f 77 Q2 Q3 Q63) (.leaf [(.cl 1039 (-2147483648) 2147483647)])))
noncomputable def sq0 (y1 y2 y3 y4 y5 y6 y7 y8 y9 y10 y11 y12 y13 y14 y15 y16 y17 y18 y19 y20 y21 y22 y23 y24 y25 y26 y27 y28 y29 y30 y31 y32 : Int) : Int := (kZ y1 (kZ y2 (kZ y3 (kZ y4 (kZ y5 (kZ y6 (kZ y7 (kZ y8 (kZ y9 (kZ y10 (kZ y11 (kZ y12 (kZ y13 (kZ y14 (kZ y15 (kZ y16 (kZ y17 (kZ y18 (kZ y19 (kZ y20 (kZ y21 (kZ y22 (kZ y23 (kZ y24 (kZ y25 (kZ y26 (kZ y27 (kZ y28 (kZ y29 (kZ y30 (kZ y31 (kZ y32 0))))))))))))))))))))))))))))))))
noncomputable def sq1 (c y0 : Int) : Int := (W6 (rdZ (kZ (bitZ c 0) (kZ (bitZ c 1) (kZ (bitZ c 2) (kZ (bitZ c 3) (kZ (bitZ c 4) (kZ (bitZ c 5) (kZ (bitZ c 6) (kZ (bitZ c 7) (kZ (bitZ c 8) (kZ (bitZ c 9) (kZ (bitZ c 10) (kZ (bitZ c 11) (kZ (bitZ c 12) (kZ (bitZ c 13) (kZ (bitZ c 14) (kZ (bitZ c 15) (kZ (bitZ c 16) (kZ (bitZ c 17) (kZ (bitZ c 18) (kZ (bitZ c 19) (kZ (bitZ c 20) (kZ (bitZ c 21) (kZ (bitZ c 22) (kZ (bitZ c 23) (kZ (bitZ c 24) (kZ (bitZ c 25) (kZ (bitZ c 26) (kZ (bitZ c 27) (kZ (bitZ c 28) (kZ (bitZ c 29) (kZ (bitZ c 30) (kZ (bitZ c 31) 0)))))))))))))))))))))))))))))))) y0))
def P (a b c : Int) : Prop :=
 ∃ I1000 : Int → Int → Int → Int → Int → Int → Int → Int → Int → Int → Int → Int → Int → Int → Int → Int → Int → Int → Int → Int → Int → Int → Int → Int → Int → Int → Int → Int → Int → Int → Int → Int → Int → Nat → Prop, (∃ m, I1000 0 (bitZ b 0) (bitZ b 1) (bitZ b 2) (bitZ b 3) (bitZ b 4) (bitZ b 5) (bitZ b 6) (bitZ b 7) (bitZ b 8) (bitZ b 9) (bitZ b 10) (bitZ b 11) (bitZ b 12) (bitZ b 13) (bitZ b 14) (bitZ b 15) (bitZ b 16) (bitZ b 17) (bitZ b 18) (bitZ b 19) (bitZ b 20) (bitZ b 21) (bitZ b 22) (bitZ b 23) (bitZ b 24) (bitZ b 25) (bitZ b 26) (bitZ b 27) (bitZ b 28) (bitZ b 29) (bitZ b 30) (bitZ b 31) m) ∧ ∀ y0 y1 y2 y3 y4 y5 y6 y7 y8 y9 y10 y11 y12 y13 y14 y15 y16 y17 y18 y19 y20 y21 y22 y23 y24 y25 y26 y27 y28 y29 y30 y31 y32 : Int, ∀ m0, (((-9223372036854775808) ≤ y0 ∧ y0 ≤
 9223372036854775807) ∧ ((-9223372036854775808) ≤ y1 ∧ y1 ≤ 9223372036854775807) ∧ ((-9223372036854775808) ≤ y2 ∧ y2 ≤ 9223372036854775807) ∧ ((-9223372036854775808) ≤ y3 ∧ y3 ≤ 9223372036854775807) ∧ ((-9223372036854775808) ≤ y4 ∧ y4 ≤ 9223372036854775807) ∧ ((-9223372036854775808) ≤ y5 ∧ y5 ≤ 9223372036854775807) ∧ ((-9223372036854775808) ≤ y6 ∧ y6 ≤ 9223372036854775807) ∧ ((-9223372036854775808) ≤ y7 ∧ y7 ≤ 9223372036854775807) ∧ ((-9223372036854775808) ≤ y8 ∧ y8 ≤ 9223372036854775807) ∧ ((-9223372036854775808) ≤ y9 ∧ y9 ≤ 9223372036854775807) ∧ ((-9223372036854775808) ≤ y10 ∧ y10 ≤ 9223372036854775807) ∧ ((-9223372036854775808) ≤ y11 ∧ y11 ≤ 9223372036854775807) ∧ ((-9223372036854775808) ≤ y12 ∧ y12 ≤ 9223372036854775807) ∧ ((-9223372036854775808) ≤ y13 ∧ y13 ≤ 9223372036854775807) ∧
 ((-9223372036854775808) ≤ y14 ∧ y14 ≤ 9223372036854775807) ∧ ((-9223372036854775808) ≤ y15 ∧ y15 ≤ 9223372036854775807) ∧ ((-9223372036854775808) ≤ y16 ∧ y16 ≤ 9223372036854775807) ∧ ((-9223372036854775808) ≤ y17 ∧ y17 ≤ 9223372036854775807) ∧ ((-9223372036854775808) ≤ y18 ∧ y18 ≤ 9223372036854775807) ∧ ((-9223372036854775808) ≤ y19 ∧ y19 ≤ 9223372036854775807) ∧ ((-9223372036854775808) ≤ y20 ∧ y20 ≤ 9223372036854775807) ∧ ((-9223372036854775808) ≤ y21 ∧ y21 ≤ 9223372036854775807) ∧ ((-9223372036854775808) ≤ y22 ∧ y22 ≤ 9223372036854775807) ∧ ((-9223372036854775808) ≤ y23 ∧ y23 ≤ 9223372036854775807) ∧ ((-9223372036854775808) ≤ y24 ∧ y24 ≤ 9223372036854775807) ∧ ((-9223372036854775808) ≤ y25 ∧ y25 ≤ 9223372036854775807) ∧ ((-9223372036854775808) ≤ y26 ∧ y26 ≤ 9223372036854775807) ∧
 ((-9223372036854775808) ≤ y27 ∧ y27 ≤ 9223372036854775807) ∧ ((-9223372036854775808) ≤ y28 ∧ y28 ≤ 9223372036854775807) ∧ ((-9223372036854775808) ≤ y29 ∧ y29 ≤ 9223372036854775807) ∧ ((-9223372036854775808) ≤ y30 ∧ y30 ≤ 9223372036854775807) ∧ ((-9223372036854775808) ≤ y31 ∧ y31 ≤ 9223372036854775807) ∧ ((-9223372036854775808) ≤ y32 ∧ y32 ≤ 9223372036854775807) ∧ True) → I1000 y0 y1 y2 y3 y4 y5 y6 y7 y8 y9 y10 y11 y12 y13 y14 y15 y16 y17 y18 y19 y20 y21 y22 y23 y24 y25 y26 y27 y28 y29 y30 y31 y32 m0 → (Pb (Pl y0 32) (Pb (Pe a 0) (Pm (PL 0 y0) (Pn (W6 (rdZ (sq0 y1 y2 y3 y4 y5 y6 y7 y8 y9 y10 y11 y12 y13 y14 y15 y16 y17 y18 y19 y20 y21 y22 y23 y24 y25 y26 y27 y28 y29 y30 y31 y32) y0)) (-9223372036854775808) 9223372036854775807 fun y34 => Pn (sq1 c y0) (-9223372036854775808)
 9223372036854775807 fun y35 => ∃ m', m' < m0 ∧ I1000 (W6 (y0 + 1)) (W6 (rdZ (updZ (sq0 y1 y2 y3 y4 y5 y6 y7 y8 y9 y10 y11 y12 y13 y14 y15 y16 y17 y18 y19 y20 y21 y22 y23 y24 y25 y26 y27 y28 y29 y30 y31 y32) y0 (W6 (y34 * y35))) 0)) (W6 (rdZ (updZ (sq0 y1 y2 y3 y4 y5 y6 y7 y8 y9 y10 y11 y12 y13 y14 y15 y16 y17 y18 y19 y20 y21 y22 y23 y24 y25 y26 y27 y28 y29 y30 y31 y32) y0 (W6 (y34 * y35))) 1)) (W6 (rdZ (updZ (sq0 y1 y2 y3 y4 y5 y6 y7 y8 y9 y10 y11 y12 y13 y14 y15 y16 y17 y18 y19 y20 y21 y22 y23 y24 y25 y26 y27 y28 y29 y30 y31 y32) y0 (W6 (y34 * y35))) 2)) (W6 (rdZ (updZ (sq0 y1 y2 y3 y4 y5 y6 y7 y8 y9 y10 y11 y12 y13 y14 y15 y16 y17 y18 y19 y20 y21 y22 y23 y24 y25 y26 y27 y28 y29 y30 y31 y32) y0 (W6 (y34 * y35))) 3)) (W6 (rdZ (updZ (sq0 y1 y2 y3 y4 y5 y6 y7 y8 y9 y10 y11 y12 y13 y14 y15
 y16 y17 y18 y19 y20 y21 y22 y23 y24 y25 y26 y27 y28 y29 y30 y31 y32) y0 (W6 (y34 * y35))) 4)) (W6 (rdZ (updZ (sq0 y1 y2 y3 y4 y5 y6 y7 y8 y9 y10 y11 y12 y13 y14 y15 y16 y17 y18 y19 y20 y21 y22 y23 y24 y25 y26 y27 y28 y29 y30 y31 y32) y0 (W6 (y34 * y35))) 5)) (W6 (rdZ (updZ (sq0 y1 y2 y3 y4 y5 y6 y7 y8 y9 y10 y11 y12 y13 y14 y15 y16 y17 y18 y19 y20 y21 y22 y23 y24 y25 y26 y27 y28 y29 y30 y31 y32) y0 (W6 (y34 * y35))) 6)) (W6 (rdZ (updZ (sq0 y1 y2 y3 y4 y5 y6 y7 y8 y9 y10 y11 y12 y13 y14 y15 y16 y17 y18 y19 y20 y21 y22 y23 y24 y25 y26 y27 y28 y29 y30 y31 y32) y0 (W6 (y34 * y35))) 7)) (W6 (rdZ (updZ (sq0 y1 y2 y3 y4 y5 y6 y7 y8 y9 y10 y11 y12 y13 y14 y15 y16 y17 y18 y19 y20 y21 y22 y23 y24 y25 y26 y27 y28 y29 y30 y31 y32) y0 (W6 (y34 * y35))) 8)) (W6 (rdZ (updZ (sq0 y1 y2 y3 y4 y5 y6 y7 y8
 y9 y10 y11 y12 y13 y14 y15 y16 y17 y18 y19 y20 y21 y22 y23 y24 y25 y26 y27 y28 y29 y30 y31 y32) y0 (W6 (y34 * y35))) 9)) (W6 (rdZ (updZ (sq0 y1 y2 y3 y4 y5 y6 y7 y8 y9 y10 y11 y12 y13 y14 y15 y16 y17 y18 y19 y20 y21 y22 y23 y24 y25 y26 y27 y28 y29 y30 y31 y32) y0 (W6 (y34 * y35))) 10)) (W6 (rdZ (updZ (sq0 y1 y2 y3 y4 y5 y6 y7 y8 y9 y10 y11 y12 y13 y14 y15 y16 y17 y18 y19 y20 y21 y22 y23 y24 y25 y26 y27 y28 y29 y30 y31 y32) y0 (W6 (y34 * y35))) 11)) (W6 (rdZ (updZ (sq0 y1 y2 y3 y4 y5 y6 y7 y8 y9 y10 y11 y12 y13 y14 y15 y16 y17 y18 y19 y20 y21 y22 y23 y24 y25 y26 y27 y28 y29 y30 y31 y32) y0 (W6 (y34 * y35))) 12)) (W6 (rdZ (updZ (sq0 y1 y2 y3 y4 y5 y6 y7 y8 y9 y10 y11 y12 y13 y14 y15 y16 y17 y18 y19 y20 y21 y22 y23 y24 y25 y26 y27 y28 y29 y30 y31 y32) y0 (W6 (y34 * y35))) 13)) (W6 (rdZ
 (updZ (sq0 y1 y2 y3 y4 y5 y6 y7 y8 y9 y10 y11 y12 y13 y14 y15 y16 y17 y18 y19 y20 y21 y22 y23 y24 y25 y26 y27 y28 y29 y30 y31 y32) y0 (W6 (y34 * y35))) 14)) (W6 (rdZ (updZ (sq0 y1 y2 y3 y4 y5 y6 y7 y8 y9 y10 y11 y12 y13 y14 y15 y16 y17 y18 y19 y20 y21 y22 y23 y24 y25 y26 y27 y28 y29 y30 y31 y32) y0 (W6 (y34 * y35))) 15)) (W6 (rdZ (updZ (sq0 y1 y2 y3 y4 y5 y6 y7 y8 y9 y10 y11 y12 y13 y14 y15 y16 y17 y18 y19 y20 y21 y22 y23 y24 y25 y26 y27 y28 y29 y30 y31 y32) y0 (W6 (y34 * y35))) 16)) (W6 (rdZ (updZ (sq0 y1 y2 y3 y4 y5 y6 y7 y8 y9 y10 y11 y12 y13 y14 y15 y16 y17 y18 y19 y20 y21 y22 y23 y24 y25 y26 y27 y28 y29 y30 y31 y32) y0 (W6 (y34 * y35))) 17)) (W6 (rdZ (updZ (sq0 y1 y2 y3 y4 y5 y6 y7 y8 y9 y10 y11 y12 y13 y14 y15 y16 y17 y18 y19 y20 y21 y22 y23 y24 y25 y26 y27 y28 y29 y30 y31 y32) y0
 (W6 (y34 * y35))) 18)) (W6 (rdZ (updZ (sq0 y1 y2 y3 y4 y5 y6 y7 y8 y9 y10 y11 y12 y13 y14 y15 y16 y17 y18 y19 y20 y21 y22 y23 y24 y25 y26 y27 y28 y29 y30 y31 y32) y0 (W6 (y34 * y35))) 19)) (W6 (rdZ (updZ (sq0 y1 y2 y3 y4 y5 y6 y7 y8 y9 y10 y11 y12 y13 y14 y15 y16 y17 y18 y19 y20 y21 y22 y23 y24 y25 y26 y27 y28 y29 y30 y31 y32) y0 (W6 (y34 * y35))) 20)) (W6 (rdZ (updZ (sq0 y1 y2 y3 y4 y5 y6 y7 y8 y9 y10 y11 y12 y13 y14 y15 y16 y17 y18 y19 y20 y21 y22 y23 y24 y25 y26 y27 y28 y29 y30 y31 y32) y0 (W6 (y34 * y35))) 21)) (W6 (rdZ (updZ (sq0 y1 y2 y3 y4 y5 y6 y7 y8 y9 y10 y11 y12 y13 y14 y15 y16 y17 y18 y19 y20 y21 y22 y23 y24 y25 y26 y27 y28 y29 y30 y31 y32) y0 (W6 (y34 * y35))) 22)) (W6 (rdZ (updZ (sq0 y1 y2 y3 y4 y5 y6 y7 y8 y9 y10 y11 y12 y13 y14 y15 y16 y17 y18 y19 y20 y21 y22 y23 y24 y25
 y26 y27 y28 y29 y30 y31 y32) y0 (W6 (y34 * y35))) 23)) (W6 (rdZ (updZ (sq0 y1 y2 y3 y4 y5 y6 y7 y8 y9 y10 y11 y12 y13 y14 y15 y16 y17 y18 y19 y20 y21 y22 y23 y24 y25 y26 y27 y28 y29 y30 y31 y32) y0 (W6 (y34 * y35))) 24)) (W6 (rdZ (updZ (sq0 y1 y2 y3 y4 y5 y6 y7 y8 y9 y10 y11 y12 y13 y14 y15 y16 y17 y18 y19 y20 y21 y22 y23 y24 y25 y26 y27 y28 y29 y30 y31 y32) y0 (W6 (y34 * y35))) 25)) (W6 (rdZ (updZ (sq0 y1 y2 y3 y4 y5 y6 y7 y8 y9 y10 y11 y12 y13 y14 y15 y16 y17 y18 y19 y20 y21 y22 y23 y24 y25 y26 y27 y28 y29 y30 y31 y32) y0 (W6 (y34 * y35))) 26)) (W6 (rdZ (updZ (sq0 y1 y2 y3 y4 y5 y6 y7 y8 y9 y10 y11 y12 y13 y14 y15 y16 y17 y18 y19 y20 y21 y22 y23 y24 y25 y26 y27 y28 y29 y30 y31 y32) y0 (W6 (y34 * y35))) 27)) (W6 (rdZ (updZ (sq0 y1 y2 y3 y4 y5 y6 y7 y8 y9 y10 y11 y12 y13 y14 y15 y16 y17
 y18 y19 y20 y21 y22 y23 y24 y25 y26 y27 y28 y29 y30 y31 y32) y0 (W6 (y34 * y35))) 28)) (W6 (rdZ (updZ (sq0 y1 y2 y3 y4 y5 y6 y7 y8 y9 y10 y11 y12 y13 y14 y15 y16 y17 y18 y19 y20 y21 y22 y23 y24 y25 y26 y27 y28 y29 y30 y31 y32) y0 (W6 (y34 * y35))) 29)) (W6 (rdZ (updZ (sq0 y1 y2 y3 y4 y5 y6 y7 y8 y9 y10 y11 y12 y13 y14 y15 y16 y17 y18 y19 y20 y21 y22 y23 y24 y25 y26 y27 y28 y29 y30 y31 y32) y0 (W6 (y34 * y35))) 30)) (W6 (rdZ (updZ (sq0 y1 y2 y3 y4 y5 y6 y7 y8 y9 y10 y11 y12 y13 y14 y15 y16 y17 y18 y19 y20 y21 y22 y23 y24 y25 y26 y27 y28 y29 y30 y31 y32) y0 (W6 (y34 * y35))) 31)) m')) (Pb (Pe a 1) (Pm (PL 0 y0) (Pn (W6 (rdZ (sq0 y1 y2 y3 y4 y5 y6 y7 y8 y9 y10 y11 y12 y13 y14 y15 y16 y17 y18 y19 y20 y21 y22 y23 y24 y25 y26 y27 y28 y29 y30 y31 y32) y0)) (-9223372036854775808)
 9223372036854775807 fun y34 => Pn (sq1 c y0) (-9223372036854775808) 9223372036854775807 fun y35 => Pn (W6 ((W6 (y34 + y35)) - (W6 (y34 * y35)))) (-9223372036854775808) 9223372036854775807 fun y36 => ∃ m', m' < m0 ∧ I1000 (W6 (y0 + 1)) (W6 (rdZ (updZ (sq0 y1 y2 y3 y4 y5 y6 y7 y8 y9 y10 y11 y12 y13 y14 y15 y16 y17 y18 y19 y20 y21 y22 y23 y24 y25 y26 y27 y28 y29 y30 y31 y32) y0 y36) 0)) (W6 (rdZ (updZ (sq0 y1 y2 y3 y4 y5 y6 y7 y8 y9 y10 y11 y12 y13 y14 y15 y16 y17 y18 y19 y20 y21 y22 y23 y24 y25 y26 y27 y28 y29 y30 y31 y32) y0 y36) 1)) (W6 (rdZ (updZ (sq0 y1 y2 y3 y4 y5 y6 y7 y8 y9 y10 y11 y12 y13 y14 y15 y16 y17 y18 y19 y20 y21 y22 y23 y24 y25 y26 y27 y28 y29 y30 y31 y32) y0 y36) 2)) (W6 (rdZ (updZ (sq0 y1 y2 y3 y4 y5 y6 y7 y8 y9 y10 y11 y12 y13 y14 y15 y16 y17 y18 y19 y20 y21 y22 y23 y24
 y25 y26 y27 y28 y29 y30 y31 y32) y0 y36) 3)) (W6 (rdZ (updZ (sq0 y1 y2 y3 y4 y5 y6 y7 y8 y9 y10 y11 y12 y13 y14 y15 y16 y17 y18 y19 y20 y21 y22 y23 y24 y25 y26 y27 y28 y29 y30 y31 y32) y0 y36) 4)) (W6 (rdZ (updZ (sq0 y1 y2 y3 y4 y5 y6 y7 y8 y9 y10 y11 y12 y13 y14 y15 y16 y17 y18 y19 y20 y21 y22 y23 y24 y25 y26 y27 y28 y29 y30 y31 y32) y0 y36) 5)) (W6 (rdZ (updZ (sq0 y1 y2 y3 y4 y5 y6 y7 y8 y9 y10 y11 y12 y13 y14 y15 y16 y17 y18 y19 y20 y21 y22 y23 y24 y25 y26 y27 y28 y29 y30 y31 y32) y0 y36) 6)) (W6 (rdZ (updZ (sq0 y1 y2 y3 y4 y5 y6 y7 y8 y9 y10 y11 y12 y13 y14 y15 y16 y17 y18 y19 y20 y21 y22 y23 y24 y25 y26 y27 y28 y29 y30 y31 y32) y0 y36) 7)) (W6 (rdZ (updZ (sq0 y1 y2 y3 y4 y5 y6 y7 y8 y9 y10 y11 y12 y13 y14 y15 y16 y17 y18 y19 y20 y21 y22 y23 y24 y25 y26 y27 y28 y29 y30 y31 y32) y0
 y36) 8)) (W6 (rdZ (updZ (sq0 y1 y2 y3 y4 y5 y6 y7 y8 y9 y10 y11 y12 y13 y14 y15 y16 y17 y18 y19 y20 y21 y22 y23 y24 y25 y26 y27 y28 y29 y30 y31 y32) y0 y36) 9)) (W6 (rdZ (updZ (sq0 y1 y2 y3 y4 y5 y6 y7 y8 y9 y10 y11 y12 y13 y14 y15 y16 y17 y18 y19 y20 y21 y22 y23 y24 y25 y26 y27 y28 y29 y30 y31 y32) y0 y36) 10)) (W6 (rdZ (updZ (sq0 y1 y2 y3 y4 y5 y6 y7 y8 y9 y10 y11 y12 y13 y14 y15 y16 y17 y18 y19 y20 y21 y22 y23 y24 y25 y26 y27 y28 y29 y30 y31 y32) y0 y36) 11)) (W6 (rdZ (updZ (sq0 y1 y2 y3 y4 y5 y6 y7 y8 y9 y10 y11 y12 y13 y14 y15 y16 y17 y18 y19 y20 y21 y22 y23 y24 y25 y26 y27 y28 y29 y30 y31 y32) y0 y36) 12)) (W6 (rdZ (updZ (sq0 y1 y2 y3 y4 y5 y6 y7 y8 y9 y10 y11 y12 y13 y14 y15 y16 y17 y18 y19 y20 y21 y22 y23 y24 y25 y26 y27 y28 y29 y30 y31 y32) y0 y36) 13)) (W6 (rdZ (updZ (sq0 y1 y2
 y3 y4 y5 y6 y7 y8 y9 y10 y11 y12 y13 y14 y15 y16 y17 y18 y19 y20 y21 y22 y23 y24 y25 y26 y27 y28 y29 y30 y31 y32) y0 y36) 14)) (W6 (rdZ (updZ (sq0 y1 y2 y3 y4 y5 y6 y7 y8 y9 y10 y11 y12 y13 y14 y15 y16 y17 y18 y19 y20 y21 y22 y23 y24 y25 y26 y27 y28 y29 y30 y31 y32) y0 y36) 15)) (W6 (rdZ (updZ (sq0 y1 y2 y3 y4 y5 y6 y7 y8 y9 y10 y11 y12 y13 y14 y15 y16 y17 y18 y19 y20 y21 y22 y23 y24 y25 y26 y27 y28 y29 y30 y31 y32) y0 y36) 16)) (W6 (rdZ (updZ (sq0 y1 y2 y3 y4 y5 y6 y7 y8 y9 y10 y11 y12 y13 y14 y15 y16 y17 y18 y19 y20 y21 y22 y23 y24 y25 y26 y27 y28 y29 y30 y31 y32) y0 y36) 17)) (W6 (rdZ (updZ (sq0 y1 y2 y3 y4 y5 y6 y7 y8 y9 y10 y11 y12 y13 y14 y15 y16 y17 y18 y19 y20 y21 y22 y23 y24 y25 y26 y27 y28 y29 y30 y31 y32) y0 y36) 18)) (W6 (rdZ (updZ (sq0 y1 y2 y3 y4 y5 y6 y7 y8 y9 y10 y11 y12
 y13 y14 y15 y16 y17 y18 y19 y20 y21 y22 y23 y24 y25 y26 y27 y28 y29 y30 y31 y32) y0 y36) 19)) (W6 (rdZ (updZ (sq0 y1 y2 y3 y4 y5 y6 y7 y8 y9 y10 y11 y12 y13 y14 y15 y16 y17 y18 y19 y20 y21 y22 y23 y24 y25 y26 y27 y28 y29 y30 y31 y32) y0 y36) 20)) (W6 (rdZ (updZ (sq0 y1 y2 y3 y4 y5 y6 y7 y8 y9 y10 y11 y12 y13 y14 y15 y16 y17 y18 y19 y20 y21 y22 y23 y24 y25 y26 y27 y28 y29 y30 y31 y32) y0 y36) 21)) (W6 (rdZ (updZ (sq0 y1 y2 y3 y4 y5 y6 y7 y8 y9 y10 y11 y12 y13 y14 y15 y16 y17 y18 y19 y20 y21 y22 y23 y24 y25 y26 y27 y28 y29 y30 y31 y32) y0 y36) 22)) (W6 (rdZ (updZ (sq0 y1 y2 y3 y4 y5 y6 y7 y8 y9 y10 y11 y12 y13 y14 y15 y16 y17 y18 y19 y20 y21 y22 y23 y24 y25 y26 y27 y28 y29 y30 y31 y32) y0 y36) 23)) (W6 (rdZ (updZ (sq0 y1 y2 y3 y4 y5 y6 y7 y8 y9 y10 y11 y12 y13 y14 y15 y16 y17 y18 y19 y20
 y21 y22 y23 y24 y25 y26 y27 y28 y29 y30 y31 y32) y0 y36) 24)) (W6 (rdZ (updZ (sq0 y1 y2 y3 y4 y5 y6 y7 y8 y9 y10 y11 y12 y13 y14 y15 y16 y17 y18 y19 y20 y21 y22 y23 y24 y25 y26 y27 y28 y29 y30 y31 y32) y0 y36) 25)) (W6 (rdZ (updZ (sq0 y1 y2 y3 y4 y5 y6 y7 y8 y9 y10 y11 y12 y13 y14 y15 y16 y17 y18 y19 y20 y21 y22 y23 y24 y25 y26 y27 y28 y29 y30 y31 y32) y0 y36) 26)) (W6 (rdZ (updZ (sq0 y1 y2 y3 y4 y5 y6 y7 y8 y9 y10 y11 y12 y13 y14 y15 y16 y17 y18 y19 y20 y21 y22 y23 y24 y25 y26 y27 y28 y29 y30 y31 y32) y0 y36) 27)) (W6 (rdZ (updZ (sq0 y1 y2 y3 y4 y5 y6 y7 y8 y9 y10 y11 y12 y13 y14 y15 y16 y17 y18 y19 y20 y21 y22 y23 y24 y25 y26 y27 y28 y29 y30 y31 y32) y0 y36) 28)) (W6 (rdZ (updZ (sq0 y1 y2 y3 y4 y5 y6 y7 y8 y9 y10 y11 y12 y13 y14 y15 y16 y17 y18 y19 y20 y21 y22 y23 y24 y25 y26 y27 y28
 y29 y30 y31 y32) y0 y36) 29)) (W6 (rdZ (updZ (sq0 y1 y2 y3 y4 y5 y6 y7 y8 y9 y10 y11 y12 y13 y14 y15 y16 y17 y18 y19 y20 y21 y22 y23 y24 y25 y26 y27 y28 y29 y30 y31 y32) y0 y36) 30)) (W6 (rdZ (updZ (sq0 y1 y2 y3 y4 y5 y6 y7 y8 y9 y10 y11 y12 y13 y14 y15 y16 y17 y18 y19 y20 y21 y22 y23 y24 y25 y26 y27 y28 y29 y30 y31 y32) y0 y36) 31)) m')) (Pb (Pe a 2) (Pm (PL 0 y0) (Pn (W6 (rdZ (sq0 y1 y2 y3 y4 y5 y6 y7 y8 y9 y10 y11 y12 y13 y14 y15 y16 y17 y18 y19 y20 y21 y22 y23 y24 y25 y26 y27 y28 y29 y30 y31 y32) y0)) (-9223372036854775808) 9223372036854775807 fun y34 => Pn (sq1 c y0) (-9223372036854775808) 9223372036854775807 fun y35 => Pn (BO.ev .rem .i64 (W6 (y34 + y35)) 2) (-1) 1 fun y36 => ∃ m', m' < m0 ∧ I1000 (W6 (y0 + 1)) (W6 (rdZ (updZ (sq0 y1 y2 y3 y4 y5 y6 y7 y8 y9 y10 y11 y12 y13 y14 y15
 y16 y17 y18 y19 y20 y21 y22 y23 y24 y25 y26 y27 y28 y29 y30 y31 y32) y0 y36) 0)) (W6 (rdZ (updZ (sq0 y1 y2 y3 y4 y5 y6 y7 y8 y9 y10 y11 y12 y13 y14 y15 y16 y17 y18 y19 y20 y21 y22 y23 y24 y25 y26 y27 y28 y29 y30 y31 y32) y0 y36) 1)) (W6 (rdZ (updZ (sq0 y1 y2 y3 y4 y5 y6 y7 y8 y9 y10 y11 y12 y13 y14 y15 y16 y17 y18 y19 y20 y21 y22 y23 y24 y25 y26 y27 y28 y29 y30 y31 y32) y0 y36) 2)) (W6 (rdZ (updZ (sq0 y1 y2 y3 y4 y5 y6 y7 y8 y9 y10 y11 y12 y13 y14 y15 y16 y17 y18 y19 y20 y21 y22 y23 y24 y25 y26 y27 y28 y29 y30 y31 y32) y0 y36) 3)) (W6 (rdZ (updZ (sq0 y1 y2 y3 y4 y5 y6 y7 y8 y9 y10 y11 y12 y13 y14 y15 y16 y17 y18 y19 y20 y21 y22 y23 y24 y25 y26 y27 y28 y29 y30 y31 y32) y0 y36) 4)) (W6 (rdZ (updZ (sq0 y1 y2 y3 y4 y5 y6 y7 y8 y9 y10 y11 y12 y13 y14 y15 y16 y17 y18 y19 y20 y21 y22 y23 y24
 y25 y26 y27 y28 y29 y30 y31 y32) y0 y36) 5)) (W6 (rdZ (updZ (sq0 y1 y2 y3 y4 y5 y6 y7 y8 y9 y10 y11 y12 y13 y14 y15 y16 y17 y18 y19 y20 y21 y22 y23 y24 y25 y26 y27 y28 y29 y30 y31 y32) y0 y36) 6)) (W6 (rdZ (updZ (sq0 y1 y2 y3 y4 y5 y6 y7 y8 y9 y10 y11 y12 y13 y14 y15 y16 y17 y18 y19 y20 y21 y22 y23 y24 y25 y26 y27 y28 y29 y30 y31 y32) y0 y36) 7)) (W6 (rdZ (updZ (sq0 y1 y2 y3 y4 y5 y6 y7 y8 y9 y10 y11 y12 y13 y14 y15 y16 y17 y18 y19 y20 y21 y22 y23 y24 y25 y26 y27 y28 y29 y30 y31 y32) y0 y36) 8)) (W6 (rdZ (updZ (sq0 y1 y2 y3 y4 y5 y6 y7 y8 y9 y10 y11 y12 y13 y14 y15 y16 y17 y18 y19 y20 y21 y22 y23 y24 y25 y26 y27 y28 y29 y30 y31 y32) y0 y36) 9)) (W6 (rdZ (updZ (sq0 y1 y2 y3 y4 y5 y6 y7 y8 y9 y10 y11 y12 y13 y14 y15 y16 y17 y18 y19 y20 y21 y22 y23 y24 y25 y26 y27 y28 y29 y30 y31 y32) y0
 y36) 10)) (W6 (rdZ (updZ (sq0 y1 y2 y3 y4 y5 y6 y7 y8 y9 y10 y11 y12 y13 y14 y15 y16 y17 y18 y19 y20 y21 y22 y23 y24 y25 y26 y27 y28 y29 y30 y31 y32) y0 y36) 11)) (W6 (rdZ (updZ (sq0 y1 y2 y3 y4 y5 y6 y7 y8 y9 y10 y11 y12 y13 y14 y15 y16 y17 y18 y19 y20 y21 y22 y23 y24 y25 y26 y27 y28 y29 y30 y31 y32) y0 y36) 12)) (W6 (rdZ (updZ (sq0 y1 y2 y3 y4 y5 y6 y7 y8 y9 y10 y11 y12 y13 y14 y15 y16 y17 y18 y19 y20 y21 y22 y23 y24 y25 y26 y27 y28 y29 y30 y31 y32) y0 y36) 13)) (W6 (rdZ (updZ (sq0 y1 y2 y3 y4 y5 y6 y7 y8 y9 y10 y11 y12 y13 y14 y15 y16 y17 y18 y19 y20 y21 y22 y23 y24 y25 y26 y27 y28 y29 y30 y31 y32) y0 y36) 14)) (W6 (rdZ (updZ (sq0 y1 y2 y3 y4 y5 y6 y7 y8 y9 y10 y11 y12 y13 y14 y15 y16 y17 y18 y19 y20 y21 y22 y23 y24 y25 y26 y27 y28 y29 y30 y31 y32) y0 y36) 15)) (W6 (rdZ (updZ (sq0 y1
 y2 y3 y4 y5 y6 y7 y8 y9 y10 y11 y12 y13 y14 y15 y16 y17 y18 y19 y20 y21 y22 y23 y24 y25 y26 y27 y28 y29 y30 y31 y32) y0 y36) 16)) (W6 (rdZ (updZ (sq0 y1 y2 y3 y4 y5 y6 y7 y8 y9 y10 y11 y12 y13 y14 y15 y16 y17 y18 y19 y20 y21 y22 y23 y24 y25 y26 y27 y28 y29 y30 y31 y32) y0 y36) 17)) (W6 (rdZ (updZ (sq0 y1 y2 y3 y4 y5 y6 y7 y8 y9 y10 y11 y12 y13 y14 y15 y16 y17 y18 y19 y20 y21 y22 y23 y24 y25 y26 y27 y28 y29 y30 y31 y32) y0 y36) 18)) (W6 (rdZ (updZ (sq0 y1 y2 y3 y4 y5 y6 y7 y8 y9 y10 y11 y12 y13 y14 y15 y16 y17 y18 y19 y20 y21 y22 y23 y24 y25 y26 y27 y28 y29 y30 y31 y32) y0 y36) 19)) (W6 (rdZ (updZ (sq0 y1 y2 y3 y4 y5 y6 y7 y8 y9 y10 y11 y12 y13 y14 y15 y16 y17 y18 y19 y20 y21 y22 y23 y24 y25 y26 y27 y28 y29 y30 y31 y32) y0 y36) 20)) (W6 (rdZ (updZ (sq0 y1 y2 y3 y4 y5 y6 y7 y8 y9 y10 y11
 y12 y13 y14 y15 y16 y17 y18 y19 y20 y21 y22 y23 y24 y25 y26 y27 y28 y29 y30 y31 y32) y0 y36) 21)) (W6 (rdZ (updZ (sq0 y1 y2 y3 y4 y5 y6 y7 y8 y9 y10 y11 y12 y13 y14 y15 y16 y17 y18 y19 y20 y21 y22 y23 y24 y25 y26 y27 y28 y29 y30 y31 y32) y0 y36) 22)) (W6 (rdZ (updZ (sq0 y1 y2 y3 y4 y5 y6 y7 y8 y9 y10 y11 y12 y13 y14 y15 y16 y17 y18 y19 y20 y21 y22 y23 y24 y25 y26 y27 y28 y29 y30 y31 y32) y0 y36) 23)) (W6 (rdZ (updZ (sq0 y1 y2 y3 y4 y5 y6 y7 y8 y9 y10 y11 y12 y13 y14 y15 y16 y17 y18 y19 y20 y21 y22 y23 y24 y25 y26 y27 y28 y29 y30 y31 y32) y0 y36) 24)) (W6 (rdZ (updZ (sq0 y1 y2 y3 y4 y5 y6 y7 y8 y9 y10 y11 y12 y13 y14 y15 y16 y17 y18 y19 y20 y21 y22 y23 y24 y25 y26 y27 y28 y29 y30 y31 y32) y0 y36) 25)) (W6 (rdZ (updZ (sq0 y1 y2 y3 y4 y5 y6 y7 y8 y9 y10 y11 y12 y13 y14 y15 y16 y17 y18 y19
 y20 y21 y22 y23 y24 y25 y26 y27 y28 y29 y30 y31 y32) y0 y36) 26)) (W6 (rdZ (updZ (sq0 y1 y2 y3 y4 y5 y6 y7 y8 y9 y10 y11 y12 y13 y14 y15 y16 y17 y18 y19 y20 y21 y22 y23 y24 y25 y26 y27 y28 y29 y30 y31 y32) y0 y36) 27)) (W6 (rdZ (updZ (sq0 y1 y2 y3 y4 y5 y6 y7 y8 y9 y10 y11 y12 y13 y14 y15 y16 y17 y18 y19 y20 y21 y22 y23 y24 y25 y26 y27 y28 y29 y30 y31 y32) y0 y36) 28)) (W6 (rdZ (updZ (sq0 y1 y2 y3 y4 y5 y6 y7 y8 y9 y10 y11 y12 y13 y14 y15 y16 y17 y18 y19 y20 y21 y22 y23 y24 y25 y26 y27 y28 y29 y30 y31 y32) y0 y36) 29)) (W6 (rdZ (updZ (sq0 y1 y2 y3 y4 y5 y6 y7 y8 y9 y10 y11 y12 y13 y14 y15 y16 y17 y18 y19 y20 y21 y22 y23 y24 y25 y26 y27 y28 y29 y30 y31 y32) y0 y36) 30)) (W6 (rdZ (updZ (sq0 y1 y2 y3 y4 y5 y6 y7 y8 y9 y10 y11 y12 y13 y14 y15 y16 y17 y18 y19 y20 y21 y22 y23 y24 y25 y26 y27
 y28 y29 y30 y31 y32) y0 y36) 31)) m')) (Pm (PL 0 y0) (Pn (W6 (rdZ (sq0 y1 y2 y3 y4 y5 y6 y7 y8 y9 y10 y11 y12 y13 y14 y15 y16 y17 y18 y19 y20 y21 y22 y23 y24 y25 y26 y27 y28 y29 y30 y31 y32) y0)) (-9223372036854775808) 9223372036854775807 fun y34 => Pn (sq1 c y0) (-9223372036854775808) 9223372036854775807 fun y35 => Pn (W6 (y34 * (W6 (1 - y35)))) (-9223372036854775808) 9223372036854775807 fun y36 => ∃ m', m' < m0 ∧ I1000 (W6 (y0 + 1)) (W6 (rdZ (updZ (sq0 y1 y2 y3 y4 y5 y6 y7 y8 y9 y10 y11 y12 y13 y14 y15 y16 y17 y18 y19 y20 y21 y22 y23 y24 y25 y26 y27 y28 y29 y30 y31 y32) y0 y36) 0)) (W6 (rdZ (updZ (sq0 y1 y2 y3 y4 y5 y6 y7 y8 y9 y10 y11 y12 y13 y14 y15 y16 y17 y18 y19 y20 y21 y22 y23 y24 y25 y26 y27 y28 y29 y30 y31 y32) y0 y36) 1)) (W6 (rdZ (updZ (sq0 y1 y2 y3 y4 y5 y6 y7 y8 y9 y10 y11
 y12 y13 y14 y15 y16 y17 y18 y19 y20 y21 y22 y23 y24 y25 y26 y27 y28 y29 y30 y31 y32) y0 y36) 2)) (W6 (rdZ (updZ (sq0 y1 y2 y3 y4 y5 y6 y7 y8 y9 y10 y11 y12 y13 y14 y15 y16 y17 y18 y19 y20 y21 y22 y23 y24 y25 y26 y27 y28 y29 y30 y31 y32) y0 y36) 3)) (W6 (rdZ (updZ (sq0 y1 y2 y3 y4 y5 y6 y7 y8 y9 y10 y11 y12 y13 y14 y15 y16 y17 y18 y19 y20 y21 y22 y23 y24 y25 y26 y27 y28 y29 y30 y31 y32) y0 y36) 4)) (W6 (rdZ (updZ (sq0 y1 y2 y3 y4 y5 y6 y7 y8 y9 y10 y11 y12 y13 y14 y15 y16 y17 y18 y19 y20 y21 y22 y23 y24 y25 y26 y27 y28 y29 y30 y31 y32) y0 y36) 5)) (W6 (rdZ (updZ (sq0 y1 y2 y3 y4 y5 y6 y7 y8 y9 y10 y11 y12 y13 y14 y15 y16 y17 y18 y19 y20 y21 y22 y23 y24 y25 y26 y27 y28 y29 y30 y31 y32) y0 y36) 6)) (W6 (rdZ (updZ (sq0 y1 y2 y3 y4 y5 y6 y7 y8 y9 y10 y11 y12 y13 y14 y15 y16 y17 y18 y19 y20
 y21 y22 y23 y24 y25 y26 y27 y28 y29 y30 y31 y32) y0 y36) 7)) (W6 (rdZ (updZ (sq0 y1 y2 y3 y4 y5 y6 y7 y8 y9 y10 y11 y12 y13 y14 y15 y16 y17 y18 y19 y20 y21 y22 y23 y24 y25 y26 y27 y28 y29 y30 y31 y32) y0 y36) 8)) (W6 (rdZ (updZ (sq0 y1 y2 y3 y4 y5 y6 y7 y8 y9 y10 y11 y12 y13 y14 y15 y16 y17 y18 y19 y20 y21 y22 y23 y24 y25 y26 y27 y28 y29 y30 y31 y32) y0 y36) 9)) (W6 (rdZ (updZ (sq0 y1 y2 y3 y4 y5 y6 y7 y8 y9 y10 y11 y12 y13 y14 y15 y16 y17 y18 y19 y20 y21 y22 y23 y24 y25 y26 y27 y28 y29 y30 y31 y32) y0 y36) 10)) (W6 (rdZ (updZ (sq0 y1 y2 y3 y4 y5 y6 y7 y8 y9 y10 y11 y12 y13 y14 y15 y16 y17 y18 y19 y20 y21 y22 y23 y24 y25 y26 y27 y28 y29 y30 y31 y32) y0 y36) 11)) (W6 (rdZ (updZ (sq0 y1 y2 y3 y4 y5 y6 y7 y8 y9 y10 y11 y12 y13 y14 y15 y16 y17 y18 y19 y20 y21 y22 y23 y24 y25 y26 y27 y28 y29
 y30 y31 y32) y0 y36) 12)) (W6 (rdZ (updZ (sq0 y1 y2 y3 y4 y5 y6 y7 y8 y9 y10 y11 y12 y13 y14 y15 y16 y17 y18 y19 y20 y21 y22 y23 y24 y25 y26 y27 y28 y29 y30 y31 y32) y0 y36) 13)) (W6 (rdZ (updZ (sq0 y1 y2 y3 y4 y5 y6 y7 y8 y9 y10 y11 y12 y13 y14 y15 y16 y17 y18 y19 y20 y21 y22 y23 y24 y25 y26 y27 y28 y29 y30 y31 y32) y0 y36) 14)) (W6 (rdZ (updZ (sq0 y1 y2 y3 y4 y5 y6 y7 y8 y9 y10 y11 y12 y13 y14 y15 y16 y17 y18 y19 y20 y21 y22 y23 y24 y25 y26 y27 y28 y29 y30 y31 y32) y0 y36) 15)) (W6 (rdZ (updZ (sq0 y1 y2 y3 y4 y5 y6 y7 y8 y9 y10 y11 y12 y13 y14 y15 y16 y17 y18 y19 y20 y21 y22 y23 y24 y25 y26 y27 y28 y29 y30 y31 y32) y0 y36) 16)) (W6 (rdZ (updZ (sq0 y1 y2 y3 y4 y5 y6 y7 y8 y9 y10 y11 y12 y13 y14 y15 y16 y17 y18 y19 y20 y21 y22 y23 y24 y25 y26 y27 y28 y29 y30 y31 y32) y0 y36) 17)) (W6
 (rdZ (updZ (sq0 y1 y2 y3 y4 y5 y6 y7 y8 y9 y10 y11 y12 y13 y14 y15 y16 y17 y18 y19 y20 y21 y22 y23 y24 y25 y26 y27 y28 y29 y30 y31 y32) y0 y36) 18)) (W6 (rdZ (updZ (sq0 y1 y2 y3 y4 y5 y6 y7 y8 y9 y10 y11 y12 y13 y14 y15 y16 y17 y18 y19 y20 y21 y22 y23 y24 y25 y26 y27 y28 y29 y30 y31 y32) y0 y36) 19)) (W6 (rdZ (updZ (sq0 y1 y2 y3 y4 y5 y6 y7 y8 y9 y10 y11 y12 y13 y14 y15 y16 y17 y18 y19 y20 y21 y22 y23 y24 y25 y26 y27 y28 y29 y30 y31 y32) y0 y36) 20)) (W6 (rdZ (updZ (sq0 y1 y2 y3 y4 y5 y6 y7 y8 y9 y10 y11 y12 y13 y14 y15 y16 y17 y18 y19 y20 y21 y22 y23 y24 y25 y26 y27 y28 y29 y30 y31 y32) y0 y36) 21)) (W6 (rdZ (updZ (sq0 y1 y2 y3 y4 y5 y6 y7 y8 y9 y10 y11 y12 y13 y14 y15 y16 y17 y18 y19 y20 y21 y22 y23 y24 y25 y26 y27 y28 y29 y30 y31 y32) y0 y36) 22)) (W6 (rdZ (updZ (sq0 y1 y2 y3 y4 y5 y6
 y7 y8 y9 y10 y11 y12 y13 y14 y15 y16 y17 y18 y19 y20 y21 y22 y23 y24 y25 y26 y27 y28 y29 y30 y31 y32) y0 y36) 23)) (W6 (rdZ (updZ (sq0 y1 y2 y3 y4 y5 y6 y7 y8 y9 y10 y11 y12 y13 y14 y15 y16 y17 y18 y19 y20 y21 y22 y23 y24 y25 y26 y27 y28 y29 y30 y31 y32) y0 y36) 24)) (W6 (rdZ (updZ (sq0 y1 y2 y3 y4 y5 y6 y7 y8 y9 y10 y11 y12 y13 y14 y15 y16 y17 y18 y19 y20 y21 y22 y23 y24 y25 y26 y27 y28 y29 y30 y31 y32) y0 y36) 25)) (W6 (rdZ (updZ (sq0 y1 y2 y3 y4 y5 y6 y7 y8 y9 y10 y11 y12 y13 y14 y15 y16 y17 y18 y19 y20 y21 y22 y23 y24 y25 y26 y27 y28 y29 y30 y31 y32) y0 y36) 26)) (W6 (rdZ (updZ (sq0 y1 y2 y3 y4 y5 y6 y7 y8 y9 y10 y11 y12 y13 y14 y15 y16 y17 y18 y19 y20 y21 y22 y23 y24 y25 y26 y27 y28 y29 y30 y31 y32) y0 y36) 27)) (W6 (rdZ (updZ (sq0 y1 y2 y3 y4 y5 y6 y7 y8 y9 y10 y11 y12 y13 y14 y15
 y16 y17 y18 y19 y20 y21 y22 y23 y24 y25 y26 y27 y28 y29 y30 y31 y32) y0 y36) 28)) (W6 (rdZ (updZ (sq0 y1 y2 y3 y4 y5 y6 y7 y8 y9 y10 y11 y12 y13 y14 y15 y16 y17 y18 y19 y20 y21 y22 y23 y24 y25 y26 y27 y28 y29 y30 y31 y32) y0 y36) 29)) (W6 (rdZ (updZ (sq0 y1 y2 y3 y4 y5 y6 y7 y8 y9 y10 y11 y12 y13 y14 y15 y16 y17 y18 y19 y20 y21 y22 y23 y24 y25 y26 y27 y28 y29 y30 y31 y32) y0 y36) 30)) (W6 (rdZ (updZ (sq0 y1 y2 y3 y4 y5 y6 y7 y8 y9 y10 y11 y12 y13 y14 y15 y16 y17 y18 y19 y20 y21 y22 y23 y24 y25 y26 y27 y28 y29 y30 y31 y32) y0 y36) 31)) m'))))) (Pn (ofZ y1 y2 (kZ y3 (kZ y4 (kZ y5 (kZ y6 (kZ y7 (kZ y8 (kZ y9 (kZ y10 (kZ y11 (kZ y12 (kZ y13 (kZ y14 (kZ y15 (kZ y16 (kZ y17 (kZ y18 (kZ y19 (kZ y20 (kZ y21 (kZ y22 (kZ y23 (kZ y24 (kZ y25 (kZ y26 (kZ y27 (kZ y28 (kZ y29 (kZ y30 (kZ y31 (kZ y32
 0))))))))))))))))))))))))))))))) (-2147483648) 2147483647 fun y39 => ((y39 : Int) = (aluV (iteZ (Pe a 0) 5 (iteZ (Pe a 1) 6 (iteZ (Pe a 2) 7 8))) b c) ∧ True)))
theorem bits_rdE (x : Int) (k : Int) (h0 : 0 ≤ k) (h : k < 32) : rdZ (qQq (bitZ x 0) (qQq (bitZ x 1) (qQq (bitZ x 2) (qQq (bitZ x 3) (qQq (bitZ x 4) (qQq (bitZ x 5) (qQq (bitZ x 6) (qQq (bitZ x 7) (qQq (bitZ x 8) (qQq (bitZ x 9) (qQq (bitZ x 10) (qQq (bitZ x 11) (qQq (bitZ x 12) (qQq (bitZ x 13) (qQq (bitZ x 14) (qQq (bitZ x 15) (qQq (bitZ x 16) (qQq (bitZ x 17) (qQq (bitZ x 18) (qQq (bitZ x 19) (qQq (bitZ x 20) (qQq (bitZ x 21) (qQq (bitZ x 22) (qQq (bitZ x 23) (qQq (bitZ x 24) (qQq (bitZ x 25) (qQq (bitZ x 26) (qQq (bitZ x 27) (qQq (bitZ x 28) (qQq (bitZ x 29) (qQq (bitZ x 30) (qQq (bitZ x 31) 0)))))))))))))))))))))))))))))))) k = bt (b32 x) k.toNat := by
 have e : (qQq (bitZ x 0) (qQq (bitZ x 1) (qQq (bitZ x 2) (qQq (bitZ x 3) (qQq (bitZ x 4) (qQq (bitZ x 5) (qQq (bitZ x 6) (qQq (bitZ x 7) (qQq (bitZ x 8) (qQq (bitZ x 9) (qQq (bitZ x 10) (qQq (bitZ x 11) (qQq (bitZ x 12) (qQq (bitZ x 13) (qQq (bitZ x 14) (qQq (bitZ x 15) (qQq (bitZ x 16) (qQq (bitZ x 17) (qQq (bitZ x 18) (qQq (bitZ x 19) (qQq (bitZ x 20) (qQq (bitZ x 21) (qQq (bitZ x 22) (qQq (bitZ x 23) (qQq (bitZ x 24) (qQq (bitZ x 25) (qQq (bitZ x 26) (qQq (bitZ x 27) (qQq (bitZ x 28) (qQq (bitZ x 29) (qQq (bitZ x 30) (qQq (bitZ x 31) 0)))))))))))))))))))))))))))))))) = chn ((List.range 32).map fun i : Nat => bitZ x i) := rfl
 rw [e, show k = ((k.toNat : Nat) : Int) by omega, qJz]
 have hr : k.toNat < 32 := by omega
 simp only [List.getD_eq_getElem?_getD, List.getElem?_map, List.getElem?_range hr, Option.map_some, Option.getD_some, bitZ_bt, Int.toNat_natCast]
theorem btE_bd (Z : BitVec 32) (i : Nat) : 0 ≤ bt Z i ∧ bt Z i ≤ 1 := by unfold bt; split <;> omega
theorem bt_and (A B : BitVec 32) (i : Nat) : bt A i * bt B i = bt (A &&& B) i := by
 unfold bt; rw [BitVec.getLsbD_and]; cases A.getLsbD i <;> cases B.getLsbD i <;> rfl
theorem bt_or (A B : BitVec 32) (i : Nat) : bt A i + bt B i - bt A i * bt B i = bt (A ||| B) i := by
 unfold bt; rw [BitVec.getLsbD_or]; cases A.getLsbD i <;> cases B.getLsbD i <;> rfl
theorem bt_xor (A B : BitVec 32) (i : Nat) : BO.ev .rem .i64 (bt A i + bt B i) 2 = bt (A ^^^ B) i := by
 unfold bt; rw [BitVec.getLsbD_xor]; cases A.getLsbD i <;> cases B.getLsbD i <;> rfl
theorem bt_bic (A B : BitVec 32) (i : Nat) (h : i < 32) : bt A i * (1 - bt B i) = bt (A &&& ~~~ B) i := by
 unfold bt; rw [BitVec.getLsbD_and, BitVec.getLsbD_not]; simp only [h, decide_true, Bool.true_and]; cases A.getLsbD i <;> cases B.getLsbD i <;> rfl
def GoodL (Z A : BitVec 32) (i : Int) (l : List Int) : Prop := ∀ k : Nat, k < 32 → l.getD k 0 = if (k : Int) < i then bt Z k else bt A k
theorem goodL_step {Z A : BitVec 32} {i x : Int} {l : List Int} (h : GoodL Z A i l) (h0 : 0 ≤ i) (hx : IntKind.wrap .i64 x = bt Z i.toNat) : GoodL Z A (i + 1) ((List.range 32).map fun k : Nat => IntKind.wrap .i64 (rdZ (updZ (chn l) i x) k)) := by
 intro k hk
 simp only [List.getD_eq_getElem?_getD, List.getElem?_map, List.getElem?_range hk, Option.map_some, Option.getD_some]
 rw [qZk, Int.toNat_natCast]
 by_cases e : k = i.toNat
 ·rw [if_pos e, hx, if_pos (by omega), e]
 ·rw [if_neg e, qJz, h k hk]
  have b1 := btE_bd Z k
  have b2 := btE_bd A k
  by_cases g : (k : Int) < i
  ·rw [if_pos g, if_pos (by omega), w64 (by omega) (by omega)]
  ·rw [if_neg g, if_neg (by omega), w64 (by omega) (by omega)]
def zOf (p : Int) (A B : BitVec 32) : BitVec 32 := if p = 0 then A &&& B else if p = 1 then A ||| B else if p = 2 then A ^^^ B else A &&& ~~~ B
set_option maxRecDepth 100000 in
set_option maxHeartbeats 8000000 in
theorem holds (p0 p1 p2 : Int) (l_p0 : -9223372036854775808 ≤ p0) (u_p0 : p0 ≤ 9223372036854775807) (l_p1 : -2147483648 ≤ p1) (u_p1 : p1 ≤ 2147483647) (l_p2 : -2147483648 ≤ p2) (u_p2 : p2 ≤ 2147483647) : P p0 p1 p2 := by
 delta P sq0 sq1 Pb Pm Pn PL Pl Pe W6 kZ
 simp only [nrm, nro, Int.reduceEq, Int.reduceNeg, reduceIte]
 refine ⟨fun i v0 v1 v2 v3 v4 v5 v6 v7 v8 v9 v10 v11 v12 v13 v14 v15 v16 v17 v18 v19 v20 v21 v22 v23 v24 v25 v26 v27 v28 v29 v30 v31 m => 0 ≤ i ∧ i ≤ 32 ∧ GoodL (zOf p0 (b32 p1) (b32 p2)) (b32 p1) i [v0, v1, v2, v3, v4, v5, v6, v7, v8, v9, v10, v11, v12, v13, v14, v15, v16, v17, v18, v19, v20, v21, v22, v23, v24, v25, v26, v27, v28, v29, v30, v31] ∧ m = (32 - i).toNat, ⟨_, by omega, by omega, fun k hk => ?_, rfl⟩, fun i v0 v1 v2 v3 v4 v5 v6 v7 v8 v9 v10 v11 v12 v13 v14 v15 v16 v17 v18 v19 v20 v21 v22 v23 v24 v25 v26 v27 v28 v29 v30 v31 m hb hI => ?_⟩
 ·rw [if_neg (by omega)]
  show ((List.range 32).map fun i : Nat => bitZ p1 i).getD k 0 = _
  simp only [List.getD_eq_getElem?_getD, List.getElem?_map, List.getElem?_range hk, Option.map_some, Option.getD_some, bitZ_bt]
 clear hb
 obtain ⟨i0, i1, hl, rfl⟩ := hI
 have wi : IntKind.wrap .i64 (i + 1) = i + 1 := w64 (by omega) (by omega)
 have hc : (qQq v0 (qQq v1 (qQq v2 (qQq v3 (qQq v4 (qQq v5 (qQq v6 (qQq v7 (qQq v8 (qQq v9 (qQq v10 (qQq v11 (qQq v12 (qQq v13 (qQq v14 (qQq v15 (qQq v16 (qQq v17 (qQq v18 (qQq v19 (qQq v20 (qQq v21 (qQq v22 (qQq v23 (qQq v24 (qQq v25 (qQq v26 (qQq v27 (qQq v28 (qQq v29 (qQq v30 (qQq v31 0)))))))))))))))))))))))))))))))) = chn [v0, v1, v2, v3, v4, v5, v6, v7, v8, v9, v10, v11, v12, v13, v14, v15, v16, v17, v18, v19, v20, v21, v22, v23, v24, v25, v26, v27, v28, v29, v30, v31] := rfl
 simp only [wi, hc]
 refine ⟨fun h1 => ?_, fun h1 => ?_⟩
 ·have hx : rdZ (chn [v0, v1, v2, v3, v4, v5, v6, v7, v8, v9, v10, v11, v12, v13, v14, v15, v16, v17, v18, v19, v20, v21, v22, v23, v24, v25, v26, v27, v28, v29, v30, v31]) i = bt (b32 p1) i.toNat := by
   have := hl i.toNat (by omega)
   rw [show i = ((i.toNat : Nat) : Int) by omega, qJz, this, if_neg (by omega), Int.toNat_natCast]
  have hy := bits_rdE p2 i i0 h1
  rw [hx, hy]
  have bA := btE_bd (b32 p1) i.toNat
  have bB := btE_bd (b32 p2) i.toNat
  have wA : IntKind.wrap .i64 (bt (b32 p1) i.toNat) = bt (b32 p1) i.toNat := w64 (by omega) (by omega)
  have wB : IntKind.wrap .i64 (bt (b32 p2) i.toNat) = bt (b32 p2) i.toNat := w64 (by omega) (by omega)
  have wZ : ∀ Z : BitVec 32, IntKind.wrap .i64 (bt Z i.toNat) = bt Z i.toNat := fun Z => by have := btE_bd Z i.toNat; exact w64 (by omega) (by omega)
  have m1 : IntKind.wrap .i64 (bt (b32 p1) i.toNat * bt (b32 p2) i.toNat) = bt (b32 p1 &&& b32 p2) i.toNat := by rw [bt_and, wZ]
  have m2 : IntKind.wrap .i64 (bt (b32 p1) i.toNat + bt (b32 p2) i.toNat) = bt (b32 p1) i.toNat + bt (b32 p2) i.toNat := w64 (by omega) (by omega)
  have m3 : IntKind.wrap .i64 (1 - bt (b32 p2) i.toNat) = 1 - bt (b32 p2) i.toNat := w64 (by omega) (by omega)
  have m4 := bt_or (b32 p1) (b32 p2) i.toNat
  have m5 := bt_xor (b32 p1) (b32 p2) i.toNat
  have m6 := bt_bic (b32 p1) (b32 p2) i.toNat (by omega)
  rw [bt_and] at m4
  simp only [wA, wB]
  refine ⟨fun k0 => ⟨i0, ?_⟩, fun k0 => ⟨fun k1 => ⟨i0, ?_⟩, fun k1 => ⟨fun k2 => ⟨i0, ?_⟩, fun k2 => ⟨i0, ?_⟩⟩⟩⟩
  ·rintro _ rfl _ _ rfl _
   simp only [m1]
   refine ⟨_, ?_, by omega, by omega, goodL_step hl i0 (x := bt (b32 p1 &&& b32 p2) i.toNat) ?_, rfl⟩
   ·omega
   ·rw [wZ]; unfold zOf; rw [if_pos k0]
  ·rintro _ rfl _ _ rfl _ _ rfl _
   simp only [m1, m2, m4, wZ]
   refine ⟨_, ?_, by omega, by omega, goodL_step hl i0 (x := bt (b32 p1 ||| b32 p2) i.toNat) ?_, rfl⟩
   ·omega
   ·rw [wZ]; unfold zOf; rw [if_neg k0, if_pos k1]
  ·rintro _ rfl _ _ rfl _ _ rfl _
   simp only [m2, m5]
   refine ⟨_, ?_, by omega, by omega, goodL_step hl i0 (x := bt (b32 p1 ^^^ b32 p2) i.toNat) ?_, rfl⟩
   ·omega
   ·rw [wZ]; unfold zOf; rw [if_neg k0, if_neg k1, if_pos k2]
  ·rintro _ rfl _ _ rfl _ _ rfl _
   simp only [m3, m6, wZ]
   refine ⟨_, ?_, by omega, by omega, goodL_step hl i0 (x := bt (b32 p1 &&& ~~~ b32 p2) i.toNat) ?_, rfl⟩
   ·omega
   ·rw [wZ]; unfold zOf; rw [if_neg k0, if_neg k1, if_neg k2]
 ·rintro _ rfl _
  have e : i = 32 := by omega
  subst e
  refine Eq.trans (of_word (zOf p0 (b32 p1) (b32 p2)) (fun k : Nat => ([v0, v1, v2, v3, v4, v5, v6, v7, v8, v9, v10, v11, v12, v13, v14, v15, v16, v17, v18, v19, v20, v21, v22, v23, v24, v25, v26, v27, v28, v29, v30, v31] : List Int).getD k 0) fun k hk => (hl k hk).trans (if_pos (by omega))) ?_
  unfold zOf
  by_cases k0 : p0 = 0
  ·rw [if_pos k0, if_pos k0, alu5 l_p1 u_p1 l_p2 u_p2]
  ·rw [if_neg k0, if_neg k0]
   by_cases k1 : p0 = 1
   ·rw [if_pos k1, if_pos k1, alu6 l_p1 u_p1 l_p2 u_p2]
   ·rw [if_neg k1, if_neg k1]
    by_cases k2 : p0 = 2
    ·rw [if_pos k2, if_pos k2, alu7 l_p1 u_p1 l_p2 u_p2]
    ·rw [if_neg k2, if_neg k2, alu8 l_p1 u_p1 l_p2 u_p2]
theorem plain (i v ro p) : statR 2 rc tree ⟨i, fN, v, ro, p⟩ = P (i 0) (i 1) (i 2) := by kernel_rfl
theorem ran : ranR us (fun f i => if f = 94 then (match i with | 3 => .tmpl (some mk3) | _ => .auto) else .auto) rc 2 tree = true := by kernel_rfl
theorem fineT : fineR 2 rc tree = true := by kernel_rfl
theorem ok : RcOk (cxOf 2) rc := okR us_ok ran fineT okb fun i v ro p hρ hcap hpre => by rw [plain]; have q := hρ.hi; exact holds _ _ _ (q 0 _ rfl).1 (q 0 _ rfl).2 (q 1 _ rfl).1 (q 1 _ rfl).2 (q 2 _ rfl).1 (q 2 _ rfl).2
end CREach
end Go.Proofs.YtfkdlidcogpncaaGreatDoor
