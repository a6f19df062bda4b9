/-
  What functions of the program answer, as numbers of what they are handed: their runs by the engine, the plain statements behind them. No condition.
-/
import Derived.Test.YtemcjakecoceaaaGreatDoorKc
import Derived.Test.YtemcjakecoceaaaGreatDoorGab
import Derived.Test.YtemcjakecoceaaaGreatDoorGmD
set_option linter.unusedVariables false
set_option linter.unusedSimpArgs false
set_option maxRecDepth 100000
namespace Go.Proofs.YtemcjakecoceaaaGreatDoor
open Go.Eng Go.RowKit
namespace CREach
def rc : Rc := ⟨109, [none, none, none], [.int .i64, .int .i32, .int .i32], [], .one, [.int .i32 (.f 63 (.ite (.b .eq .i64 (.v 0) (.c 0)) (.c 5) (.ite (.b .eq .i64 (.v 0) (.c 1)) (.c 6) (.ite (.b .eq .i64 (.v 0) (.c 2)) (.c 7) (.c 8)))) (.v 1) (.v 2))]⟩
theorem okb : rc.ok = true := by kernel_rfl
def mk3 : Marks := [([0, 19], .wild), ([0, 20], .wild), ([0, 21], .wild), ([0, 22], .wild), ([0, 23], .wild), ([0, 24], .wild), ([0, 25], .wild), ([0, 26], .wild), ([0, 27], .wild), ([0, 28], .wild), ([0, 59], .wild), ([0, 60], .wild), ([0, 61], .wild), ([0, 62], .wild), ([0, 63], .wild), ([0, 64], .wild), ([0, 65], .wild), ([0, 66], .wild), ([0, 67], .wild), ([0, 68], .wild), ([0, 69], .wild), ([0, 70], .wild), ([0, 40], .wild), ([0, 41], .wild), ([0, 42], .wild), ([0, 43], .wild), ([0, 44], .wild), ([0, 45], .wild), ([0, 46], .wild), ([0, 47], .wild), ([0, 48], .wild), ([0, 49], .wild), ([0, 50], .wild), ([0, 51], .wild), ([0, 52], .wild), ([0, 53], .wild), ([0, 54], .wild), ([0, 55], .wild), ([0, 56], .wild), ([0, 57], .wild), ([0, 58], .wild), ([0, 9], .num (-9223372036854775808) (9223372036854775807)), ([0, 14], .wild), ([0, 15], .wild), ([0, 16], .wild), ([0, 17], .wild), ([0, 18], .wild), ([0, 29], .wild), ([0, 30], .wild), ([0, 31], .wild), ([0, 32], .wild), ([0, 33], .wild), ([0, 34], .wild), ([0, 35], .wild), ([0, 36], .wild), ([0, 37], .wild), ([0, 38], .wild), ([0, 39], .wild), ([1, 0, 0], .num (-9223372036854775808) (9223372036854775807)), ([1, 0, 1], .num (-9223372036854775808) (9223372036854775807)), ([1, 0, 2], .num (-9223372036854775808) (9223372036854775807)), ([1, 0, 3], .num (-9223372036854775808) (9223372036854775807)), ([1, 0, 4], .num (-9223372036854775808) (9223372036854775807)), ([1, 0, 5], .num (-9223372036854775808) (9223372036854775807)), ([1, 0, 6], .num (-9223372036854775808) (9223372036854775807)), ([1, 0, 7], .num (-9223372036854775808) (9223372036854775807)), ([1, 0, 8], .num (-9223372036854775808) (9223372036854775807)), ([1, 0, 9], .num (-9223372036854775808) (9223372036854775807)), ([1, 0, 10], .num (-9223372036854775808) (9223372036854775807)), ([1, 0, 11], .num (-9223372036854775808) (9223372036854775807)), ([1, 0, 12], .num (-9223372036854775808) (9223372036854775807)), ([1, 0, 13], .num (-9223372036854775808) (9223372036854775807)), ([1, 0, 14], .num (-9223372036854775808) (9223372036854775807)), ([1, 0, 15], .num (-9223372036854775808) (9223372036854775807)), ([1, 0, 16], .num (-9223372036854775808) (9223372036854775807)), ([1, 0, 17], .num (-9223372036854775808) (9223372036854775807)), ([1, 0, 18], .num (-9223372036854775808) (9223372036854775807)), ([1, 0, 19], .num (-9223372036854775808) (9223372036854775807)), ([1, 0, 20], .num (-9223372036854775808) (9223372036854775807)), ([1, 0, 21], .num (-9223372036854775808) (9223372036854775807)), ([1, 0, 22], .num (-9223372036854775808) (9223372036854775807)), ([1, 0, 23], .num (-9223372036854775808) (9223372036854775807)), ([1, 0, 24], .num (-9223372036854775808) (9223372036854775807)), ([1, 0, 25], .num (-9223372036854775808) (9223372036854775807)), ([1, 0, 26], .num (-9223372036854775808) (9223372036854775807)), ([1, 0, 27], .num (-9223372036854775808) (9223372036854775807)), ([1, 0, 28], .num (-9223372036854775808) (9223372036854775807)), ([1, 0, 29], .num (-9223372036854775808) (9223372036854775807)), ([1, 0, 30], .num (-9223372036854775808) (9223372036854775807)), ([1, 0, 31], .num (-9223372036854775808) (9223372036854775807))]
noncomputable def us : SMs := fun Γ ins n => smH (cxG n Γ ins) [] (smR (cxG n Γ ins) [CRBits.rc, CROf.rc])
theorem us_ok : SMsOk us := fun Γ ins n => smH_ok (tabsG n Γ ins) (rhs_nil _) (smR_ok (tabsG n Γ ins) (rcs_cons CRBits.okb (rc_n CRBits.ok) (rcs_cons CROf.okb (rc_n CROf.ok) (rcs_nil _))))
def Q0 : E := (.cl 1000 (-9223372036854775808) 9223372036854775807)
def Q1 : E := (tl (.c 0) Q0)
def Q2 : E := (.cl 1001 (-9223372036854775808) 9223372036854775807)
def Q3 : E := (.cl 1002 (-9223372036854775808) 9223372036854775807)
def Q4 : E := (.cl 1003 (-9223372036854775808) 9223372036854775807)
def Q5 : E := (.cl 1004 (-9223372036854775808) 9223372036854775807)
def Q6 : E := (.cl 1005 (-9223372036854775808) 9223372036854775807)
def Q7 : E := (.cl 1006 (-9223372036854775808) 9223372036854775807)
def Q8 : E := (.cl 1007 (-9223372036854775808) 9223372036854775807)
def Q9 : E := (.cl 1008 (-9223372036854775808) 9223372036854775807)
def Q10 : E := (.cl 1009 (-9223372036854775808) 9223372036854775807)
def Q11 : E := (.cl 1010 (-9223372036854775808) 9223372036854775807)
def Q12 : E := (.cl 1011 (-9223372036854775808) 9223372036854775807)
def Q13 : E := (.cl 1012 (-9223372036854775808) 9223372036854775807)
def Q14 : E := (.cl 1013 (-9223372036854775808) 9223372036854775807)
def Q15 : E := (.cl 1014 (-9223372036854775808) 9223372036854775807)
def Q16 : E := (.cl 1015 (-9223372036854775808) 9223372036854775807)
def Q17 : E := (.cl 1016 (-9223372036854775808) 9223372036854775807)
def Q18 : E := (.cl 1017 (-9223372036854775808) 9223372036854775807)
def Q19 : E := (.cl 1018 (-9223372036854775808) 9223372036854775807)
def Q20 : E := (.cl 1019 (-9223372036854775808) 9223372036854775807)
def Q21 : E := (.cl 1020 (-9223372036854775808) 9223372036854775807)
def Q22 : E := (.cl 1021 (-9223372036854775808) 9223372036854775807)
def Q23 : E := (.cl 1022 (-9223372036854775808) 9223372036854775807)
def Q24 : E := (.cl 1023 (-9223372036854775808) 9223372036854775807)
def Q25 : E := (.cl 1024 (-9223372036854775808) 9223372036854775807)
def Q26 : E := (.cl 1025 (-9223372036854775808) 9223372036854775807)
def Q27 : E := (.cl 1026 (-9223372036854775808) 9223372036854775807)
def Q28 : E := (.cl 1027 (-9223372036854775808) 9223372036854775807)
def Q29 : E := (.cl 1028 (-9223372036854775808) 9223372036854775807)
def Q30 : E := (.cl 1029 (-9223372036854775808) 9223372036854775807)
def Q31 : E := (.cl 1030 (-9223372036854775808) 9223372036854775807)
def Q32 : E := (.cl 1031 (-9223372036854775808) 9223372036854775807)
def Q33 : E := (.cl 1032 (-9223372036854775808) 9223372036854775807)
def Q34 : E := (tC Q33 (.c 0))
def Q35 : E := (tC Q32 Q34)
def Q36 : E := (tC Q31 Q35)
def Q37 : E := (tC Q30 Q36)
def Q38 : E := (tC Q29 Q37)
def Q39 : E := (tC Q28 Q38)
def Q40 : E := (tC Q27 Q39)
def Q41 : E := (tC Q26 Q40)
def Q42 : E := (tC Q25 Q41)
def Q43 : E := (tC Q24 Q42)
def Q44 : E := (tC Q23 Q43)
def Q45 : E := (tC Q22 Q44)
def Q46 : E := (tC Q21 Q45)
def Q47 : E := (tC Q20 Q46)
def Q48 : E := (tC Q19 Q47)
def Q49 : E := (tC Q18 Q48)
def Q50 : E := (tC Q17 Q49)
def Q51 : E := (tC Q16 Q50)
def Q52 : E := (tC Q15 Q51)
def Q53 : E := (tC Q14 Q52)
def Q54 : E := (tC Q13 Q53)
def Q55 : E := (tC Q12 Q54)
def Q56 : E := (tC Q11 Q55)
def Q57 : E := (tC Q10 Q56)
def Q58 : E := (tC Q9 Q57)
def Q59 : E := (tC Q8 Q58)
def Q60 : E := (tC Q7 Q59)
def Q61 : E := (tC Q6 Q60)
def Q62 : E := (tC Q5 Q61)
def Q63 : E := (tC Q4 Q62)
def Q64 : E := (tC Q3 Q63)
def Q65 : E := (tC Q2 Q64)
def Q66 : E := (tR Q65 Q0)
def Q67 : E := (t6 Q66)
def Q68 : E := (.f 2 (.v 2) (.c 0) (.c 0))
def Q69 : E := (.f 2 (.v 2) (.c 1) (.c 0))
def Q70 : E := (.f 2 (.v 2) (.c 2) (.c 0))
def Q71 : E := (.f 2 (.v 2) (.c 3) (.c 0))
def Q72 : E := (.f 2 (.v 2) (.c 4) (.c 0))
def Q73 : E := (.f 2 (.v 2) (.c 5) (.c 0))
def Q74 : E := (.f 2 (.v 2) (.c 6) (.c 0))
def Q75 : E := (.f 2 (.v 2) (.c 7) (.c 0))
def Q76 : E := (.f 2 (.v 2) (.c 8) (.c 0))
def Q77 : E := (.f 2 (.v 2) (.c 9) (.c 0))
def Q78 : E := (.f 2 (.v 2) (.c 10) (.c 0))
def Q79 : E := (.f 2 (.v 2) (.c 11) (.c 0))
def Q80 : E := (.f 2 (.v 2) (.c 12) (.c 0))
def Q81 : E := (.f 2 (.v 2) (.c 13) (.c 0))
def Q82 : E := (.f 2 (.v 2) (.c 14) (.c 0))
def Q83 : E := (.f 2 (.v 2) (.c 15) (.c 0))
def Q84 : E := (.f 2 (.v 2) (.c 16) (.c 0))
def Q85 : E := (.f 2 (.v 2) (.c 17) (.c 0))
def Q86 : E := (.f 2 (.v 2) (.c 18) (.c 0))
def Q87 : E := (.f 2 (.v 2) (.c 19) (.c 0))
def Q88 : E := (.f 2 (.v 2) (.c 20) (.c 0))
def Q89 : E := (.f 2 (.v 2) (.c 21) (.c 0))
def Q90 : E := (.f 2 (.v 2) (.c 22) (.c 0))
def Q91 : E := (.f 2 (.v 2) (.c 23) (.c 0))
def Q92 : E := (.f 2 (.v 2) (.c 24) (.c 0))
def Q93 : E := (.f 2 (.v 2) (.c 25) (.c 0))
def Q94 : E := (.f 2 (.v 2) (.c 26) (.c 0))
def Q95 : E := (.f 2 (.v 2) (.c 27) (.c 0))
def Q96 : E := (.f 2 (.v 2) (.c 28) (.c 0))
def Q97 : E := (.f 2 (.v 2) (.c 29) (.c 0))
def Q98 : E := (.f 2 (.v 2) (.c 30) (.c 0))
def Q99 : E := (.f 2 (.v 2) (.c 31) (.c 0))
def Q100 : E := (tC Q99 (.c 0))
def Q101 : E := (tC Q98 Q100)
def Q102 : E := (tC Q97 Q101)
def Q103 : E := (tC Q96 Q102)
def Q104 : E := (tC Q95 Q103)
def Q105 : E := (tC Q94 Q104)
def Q106 : E := (tC Q93 Q105)
def Q107 : E := (tC Q92 Q106)
def Q108 : E := (tC Q91 Q107)
def Q109 : E := (tC Q90 Q108)
def Q110 : E := (tC Q89 Q109)
def Q111 : E := (tC Q88 Q110)
def Q112 : E := (tC Q87 Q111)
def Q113 : E := (tC Q86 Q112)
def Q114 : E := (tC Q85 Q113)
def Q115 : E := (tC Q84 Q114)
def Q116 : E := (tC Q83 Q115)
def Q117 : E := (tC Q82 Q116)
def Q118 : E := (tC Q81 Q117)
def Q119 : E := (tC Q80 Q118)
def Q120 : E := (tC Q79 Q119)
def Q121 : E := (tC Q78 Q120)
def Q122 : E := (tC Q77 Q121)
def Q123 : E := (tC Q76 Q122)
def Q124 : E := (tC Q75 Q123)
def Q125 : E := (tC Q74 Q124)
def Q126 : E := (tC Q73 Q125)
def Q127 : E := (tC Q72 Q126)
def Q128 : E := (tC Q71 Q127)
def Q129 : E := (tC Q70 Q128)
def Q130 : E := (tC Q69 Q129)
def Q131 : E := (tC Q68 Q130)
def Q132 : E := (tR Q131 Q0)
def Q133 : E := (t6 Q132)
def Q134 : E := (tp Q0 (.c 1))
def Q135 : E := (t6 Q134)
def Q136 : E := (.cl 1034 (-9223372036854775808) 9223372036854775807)
def Q137 : E := (.cl 1035 (-9223372036854775808) 9223372036854775807)
def Q138 : E := (.b .pmul .i64 Q136 Q137)
def Q139 : E := (t6 Q138)
def Q140 : E := (.f 14 Q65 Q0 Q139)
def Q141 : E := (tp Q136 Q137)
def Q142 : E := (t6 Q141)
def Q143 : E := (.cl 1036 (-9223372036854775808) 9223372036854775807)
def Q144 : E := (.f 14 Q65 Q0 Q143)
def Q145 : E := (tR Q144 (.c 0))
def Q146 : E := (t6 Q145)
def Q147 : E := (tR Q144 (.c 1))
def Q148 : E := (t6 Q147)
def Q149 : E := (tR Q144 (.c 2))
def Q150 : E := (t6 Q149)
def Q151 : E := (tR Q144 (.c 3))
def Q152 : E := (t6 Q151)
def Q153 : E := (tR Q144 (.c 4))
def Q154 : E := (t6 Q153)
def Q155 : E := (tR Q144 (.c 5))
def Q156 : E := (t6 Q155)
def Q157 : E := (tR Q144 (.c 6))
def Q158 : E := (t6 Q157)
def Q159 : E := (tR Q144 (.c 7))
def Q160 : E := (t6 Q159)
def Q161 : E := (tR Q144 (.c 8))
def Q162 : E := (t6 Q161)
def Q163 : E := (tR Q144 (.c 9))
def Q164 : E := (t6 Q163)
def Q165 : E := (tR Q144 (.c 10))
def Q166 : E := (t6 Q165)
def Q167 : E := (tR Q144 (.c 11))
def Q168 : E := (t6 Q167)
def Q169 : E := (tR Q144 (.c 12))
def Q170 : E := (t6 Q169)
def Q171 : E := (tR Q144 (.c 13))
def Q172 : E := (t6 Q171)
def Q173 : E := (tR Q144 (.c 14))
def Q174 : E := (t6 Q173)
def Q175 : E := (tR Q144 (.c 15))
def Q176 : E := (t6 Q175)
def Q177 : E := (tR Q144 (.c 16))
def Q178 : E := (t6 Q177)
def Q179 : E := (tR Q144 (.c 17))
def Q180 : E := (t6 Q179)
def Q181 : E := (tR Q144 (.c 18))
def Q182 : E := (t6 Q181)
def Q183 : E := (tR Q144 (.c 19))
def Q184 : E := (t6 Q183)
def Q185 : E := (tR Q144 (.c 20))
def Q186 : E := (t6 Q185)
def Q187 : E := (tR Q144 (.c 21))
def Q188 : E := (t6 Q187)
def Q189 : E := (tR Q144 (.c 22))
def Q190 : E := (t6 Q189)
def Q191 : E := (tR Q144 (.c 23))
def Q192 : E := (t6 Q191)
def Q193 : E := (tR Q144 (.c 24))
def Q194 : E := (t6 Q193)
def Q195 : E := (tR Q144 (.c 25))
def Q196 : E := (t6 Q195)
def Q197 : E := (tR Q144 (.c 26))
def Q198 : E := (t6 Q197)
def Q199 : E := (tR Q144 (.c 27))
def Q200 : E := (t6 Q199)
def Q201 : E := (tR Q144 (.c 28))
def Q202 : E := (t6 Q201)
def Q203 : E := (tR Q144 (.c 29))
def Q204 : E := (t6 Q203)
def Q205 : E := (tR Q144 (.c 30))
def Q206 : E := (t6 Q205)
def Q207 : E := (tR Q144 (.c 31))
def Q208 : E := (t6 Q207)
def Q209 : E := (.f 14 Q65 Q0 (.cl 1036 (-1) 1))
def tree : TT (List E) :=
 (.loop ⟨1000, [some (-9223372036854775808, 9223372036854775807), some (-9223372036854775808, 9223372036854775807), some (-9223372036854775808, 9223372036854775807), some (-9223372036854775808, 9223372036854775807), some (-9223372036854775808, 9223372036854775807), some (-9223372036854775808, 9223372036854775807), some (-9223372036854775808, 9223372036854775807), some (-9223372036854775808, 9223372036854775807), some (-9223372036854775808, 9223372036854775807), some (-9223372036854775808, 9223372036854775807), some (-9223372036854775808, 9223372036854775807), some (-9223372036854775808, 9223372036854775807), some (-9223372036854775808, 9223372036854775807), some (-9223372036854775808, 9223372036854775807), some (-9223372036854775808, 9223372036854775807), some (-9223372036854775808,
 9223372036854775807), some (-9223372036854775808, 9223372036854775807), some (-9223372036854775808, 9223372036854775807), some (-9223372036854775808, 9223372036854775807), some (-9223372036854775808, 9223372036854775807), some (-9223372036854775808, 9223372036854775807), some (-9223372036854775808, 9223372036854775807), some (-9223372036854775808, 9223372036854775807), some (-9223372036854775808, 9223372036854775807), some (-9223372036854775808, 9223372036854775807), some (-9223372036854775808, 9223372036854775807), some (-9223372036854775808, 9223372036854775807), some (-9223372036854775808, 9223372036854775807), some (-9223372036854775808, 9223372036854775807), some (-9223372036854775808, 9223372036854775807), some (-9223372036854775808, 9223372036854775807), some
 (-9223372036854775808, 9223372036854775807), some (-9223372036854775808, 9223372036854775807)], [(.c 0), (.f 2 (.v 1) (.c 0) (.c 0)), (.f 2 (.v 1) (.c 1) (.c 0)), (.f 2 (.v 1) (.c 2) (.c 0)), (.f 2 (.v 1) (.c 3) (.c 0)), (.f 2 (.v 1) (.c 4) (.c 0)), (.f 2 (.v 1) (.c 5) (.c 0)), (.f 2 (.v 1) (.c 6) (.c 0)), (.f 2 (.v 1) (.c 7) (.c 0)), (.f 2 (.v 1) (.c 8) (.c 0)), (.f 2 (.v 1) (.c 9) (.c 0)), (.f 2 (.v 1) (.c 10) (.c 0)), (.f 2 (.v 1) (.c 11) (.c 0)), (.f 2 (.v 1) (.c 12) (.c 0)), (.f 2 (.v 1) (.c 13) (.c 0)), (.f 2 (.v 1) (.c 14) (.c 0)), (.f 2 (.v 1) (.c 15) (.c 0)), (.f 2 (.v 1) (.c 16) (.c 0)), (.f 2 (.v 1) (.c 17) (.c 0)), (.f 2 (.v 1) (.c 18) (.c 0)), (.f 2 (.v 1) (.c 19) (.c 0)), (.f 2 (.v 1) (.c 20) (.c 0)), (.f 2 (.v 1) (.c 21) (.c 0)), (.f 2 (.v 1) (.c 22) (.c 0)), (.f 2 (.v 1)
 (.c 23) (.c 0)), (.f 2 (.v 1) (.c 24) (.c 0)), (.f 2 (.v 1) (.c 25) (.c 0)), (.f 2 (.v 1) (.c 26) (.c 0)), (.f 2 (.v 1) (.c 27) (.c 0)), (.f 2 (.v 1) (.c 28) (.c 0)), (.f 2 (.v 1) (.c 29) (.c 0)), (.f 2 (.v 1) (.c 30) (.c 0)), (.f 2 (.v 1) (.c 31) (.c 0))], 1037⟩ (.br (tk Q0 (.c 32)) (.br (te (.v 0) (.c 0)) (.br Q1 (.new 1034 Q67 (.new 1035 Q133 (.back [Q135, (t6 (tR Q140 (.c 0))), (t6 (tR Q140 (.c 1))), (t6 (tR Q140 (.c 2))), (t6 (tR Q140 (.c 3))), (t6 (tR Q140 (.c 4))), (t6 (tR Q140 (.c 5))), (t6 (tR Q140 (.c 6))), (t6 (tR Q140 (.c 7))), (t6 (tR Q140 (.c 8))), (t6 (tR Q140 (.c 9))), (t6 (tR Q140 (.c 10))), (t6 (tR Q140 (.c 11))), (t6 (tR Q140 (.c 12))), (t6 (tR Q140 (.c 13))), (t6 (tR Q140 (.c 14))), (t6 (tR Q140 (.c 15))), (t6 (tR Q140 (.c 16))), (t6 (tR Q140 (.c 17))), (t6 (tR Q140
 (.c 18))), (t6 (tR Q140 (.c 19))), (t6 (tR Q140 (.c 20))), (t6 (tR Q140 (.c 21))), (t6 (tR Q140 (.c 22))), (t6 (tR Q140 (.c 23))), (t6 (tR Q140 (.c 24))), (t6 (tR Q140 (.c 25))), (t6 (tR Q140 (.c 26))), (t6 (tR Q140 (.c 27))), (t6 (tR Q140 (.c 28))), (t6 (tR Q140 (.c 29))), (t6 (tR Q140 (.c 30))), (t6 (tR Q140 (.c 31)))]))) (.bad 200)) (.br (te (.v 0) (.c 1)) (.br Q1 (.new 1034 Q67 (.new 1035 Q133 (.new 1036 (t6 (.b .psub .i64 Q142 Q139)) (.back [Q135, Q146, Q148, Q150, Q152, Q154, Q156, Q158, Q160, Q162, Q164, Q166, Q168, Q170, Q172, Q174, Q176, Q178, Q180, Q182, Q184, Q186, Q188, Q190, Q192, Q194, Q196, Q198, Q200, Q202, Q204, Q206, Q208])))) (.bad 200)) (.br (te (.v 0) (.c 2)) (.br Q1 (.new 1034 Q67 (.new 1035 Q133 (.new 1036 (.b .rem .i64 Q142 (.c 2)) (.back [Q135, (t6 (tR Q209 (.c
 0))), (t6 (tR Q209 (.c 1))), (t6 (tR Q209 (.c 2))), (t6 (tR Q209 (.c 3))), (t6 (tR Q209 (.c 4))), (t6 (tR Q209 (.c 5))), (t6 (tR Q209 (.c 6))), (t6 (tR Q209 (.c 7))), (t6 (tR Q209 (.c 8))), (t6 (tR Q209 (.c 9))), (t6 (tR Q209 (.c 10))), (t6 (tR Q209 (.c 11))), (t6 (tR Q209 (.c 12))), (t6 (tR Q209 (.c 13))), (t6 (tR Q209 (.c 14))), (t6 (tR Q209 (.c 15))), (t6 (tR Q209 (.c 16))), (t6 (tR Q209 (.c 17))), (t6 (tR Q209 (.c 18))), (t6 (tR Q209 (.c 19))), (t6 (tR Q209 (.c 20))), (t6 (tR Q209 (.c 21))), (t6 (tR Q209 (.c 22))), (t6 (tR Q209 (.c 23))), (t6 (tR Q209 (.c 24))), (t6 (tR Q209 (.c 25))), (t6 (tR Q209 (.c 26))), (t6 (tR Q209 (.c 27))), (t6 (tR Q209 (.c 28))), (t6 (tR Q209 (.c 29))), (t6 (tR Q209 (.c 30))), (t6 (tR Q209 (.c 31)))])))) (.bad 200)) (.br Q1 (.new 1034 Q67 (.new 1035 Q133
 (.new 1036 (t6 (.b .pmul .i64 Q136 (t6 (.b .psub .i64 (.c 1) Q137)))) (.back [Q135, Q146, Q148, Q150, Q152, Q154, Q156, Q158, Q160, Q162, Q164, Q166, Q168, Q170, Q172, Q174, Q176, Q178, Q180, Q182, Q184, Q186, Q188, Q190, Q192, Q194, Q196, Q198, Q200, Q202, Q204, Q206, Q208])))) (.bad 200))))) (.exit 0)) (.new 1039 (.f 77 Q2 Q3 Q63) (.leaf [(.cl 1039 (-2147483648) 2147483647)])))
noncomputable def sq0 (y1 y2 y3 y4 y5 y6 y7 y8 y9 y10 y11 y12 y13 y14 y15 y16 y17 y18 y19 y20 y21 y22 y23 y24 y25 y26 y27 y28 y29 y30 y31 y32 : Int) : Int := (kZ y1 (kZ y2 (kZ y3 (kZ y4 (kZ y5 (kZ y6 (kZ y7 (kZ y8 (kZ y9 (kZ y10 (kZ y11 (kZ y12 (kZ y13 (kZ y14 (kZ y15 (kZ y16 (kZ y17 (kZ y18 (kZ y19 (kZ y20 (kZ y21 (kZ y22 (kZ y23 (kZ y24 (kZ y25 (kZ y26 (kZ y27 (kZ y28 (kZ y29 (kZ y30 (kZ y31 (kZ y32 0))))))))))))))))))))))))))))))))
noncomputable def sq1 (c y0 : Int) : Int := (W6 (rdZ (kZ (bitZ c 0) (kZ (bitZ c 1) (kZ (bitZ c 2) (kZ (bitZ c 3) (kZ (bitZ c 4) (kZ (bitZ c 5) (kZ (bitZ c 6) (kZ (bitZ c 7) (kZ (bitZ c 8) (kZ (bitZ c 9) (kZ (bitZ c 10) (kZ (bitZ c 11) (kZ (bitZ c 12) (kZ (bitZ c 13) (kZ (bitZ c 14) (kZ (bitZ c 15) (kZ (bitZ c 16) (kZ (bitZ c 17) (kZ (bitZ c 18) (kZ (bitZ c 19) (kZ (bitZ c 20) (kZ (bitZ c 21) (kZ (bitZ c 22) (kZ (bitZ c 23) (kZ (bitZ c 24) (kZ (bitZ c 25) (kZ (bitZ c 26) (kZ (bitZ c 27) (kZ (bitZ c 28) (kZ (bitZ c 29) (kZ (bitZ c 30) (kZ (bitZ c 31) 0)))))))))))))))))))))))))))))))) y0))
def P (a b c : Int) : Prop :=
 ∃ I1000 : Int → Int → Int → Int → Int → Int → Int → Int → Int → Int → Int → Int → Int → Int → Int → Int → Int → Int → Int → Int → Int → Int → Int → Int → Int → Int → Int → Int → Int → Int → Int → Int → Int → Nat → Prop, (∃ m, I1000 0 (bitZ b 0) (bitZ b 1) (bitZ b 2) (bitZ b 3) (bitZ b 4) (bitZ b 5) (bitZ b 6) (bitZ b 7) (bitZ b 8) (bitZ b 9) (bitZ b 10) (bitZ b 11) (bitZ b 12) (bitZ b 13) (bitZ b 14) (bitZ b 15) (bitZ b 16) (bitZ b 17) (bitZ b 18) (bitZ b 19) (bitZ b 20) (bitZ b 21) (bitZ b 22) (bitZ b 23) (bitZ b 24) (bitZ b 25) (bitZ b 26) (bitZ b 27) (bitZ b 28) (bitZ b 29) (bitZ b 30) (bitZ b 31) m) ∧ ∀ y0 y1 y2 y3 y4 y5 y6 y7 y8 y9 y10 y11 y12 y13 y14 y15 y16 y17 y18 y19 y20 y21 y22 y23 y24 y25 y26 y27 y28 y29 y30 y31 y32 : Int, ∀ m0, (((-9223372036854775808) ≤ y0 ∧ y0 ≤
 9223372036854775807) ∧ ((-9223372036854775808) ≤ y1 ∧ y1 ≤ 9223372036854775807) ∧ ((-9223372036854775808) ≤ y2 ∧ y2 ≤ 9223372036854775807) ∧ ((-9223372036854775808) ≤ y3 ∧ y3 ≤ 9223372036854775807) ∧ ((-9223372036854775808) ≤ y4 ∧ y4 ≤ 9223372036854775807) ∧ ((-9223372036854775808) ≤ y5 ∧ y5 ≤ 9223372036854775807) ∧ ((-9223372036854775808) ≤ y6 ∧ y6 ≤ 9223372036854775807) ∧ ((-9223372036854775808) ≤ y7 ∧ y7 ≤ 9223372036854775807) ∧ ((-9223372036854775808) ≤ y8 ∧ y8 ≤ 9223372036854775807) ∧ ((-9223372036854775808) ≤ y9 ∧ y9 ≤ 9223372036854775807) ∧ ((-9223372036854775808) ≤ y10 ∧ y10 ≤ 9223372036854775807) ∧ ((-9223372036854775808) ≤ y11 ∧ y11 ≤ 9223372036854775807) ∧ ((-9223372036854775808) ≤ y12 ∧ y12 ≤ 9223372036854775807) ∧ ((-9223372036854775808) ≤ y13 ∧ y13 ≤ 9223372036854775807) ∧
 ((-9223372036854775808) ≤ y14 ∧ y14 ≤ 9223372036854775807) ∧ ((-9223372036854775808) ≤ y15 ∧ y15 ≤ 9223372036854775807) ∧ ((-9223372036854775808) ≤ y16 ∧ y16 ≤ 9223372036854775807) ∧ ((-9223372036854775808) ≤ y17 ∧ y17 ≤ 9223372036854775807) ∧ ((-9223372036854775808) ≤ y18 ∧ y18 ≤ 9223372036854775807) ∧ ((-9223372036854775808) ≤ y19 ∧ y19 ≤ 9223372036854775807) ∧ ((-9223372036854775808) ≤ y20 ∧ y20 ≤ 9223372036854775807) ∧ ((-9223372036854775808) ≤ y21 ∧ y21 ≤ 9223372036854775807) ∧ ((-9223372036854775808) ≤ y22 ∧ y22 ≤ 9223372036854775807) ∧ ((-9223372036854775808) ≤ y23 ∧ y23 ≤ 9223372036854775807) ∧ ((-9223372036854775808) ≤ y24 ∧ y24 ≤ 9223372036854775807) ∧ ((-9223372036854775808) ≤ y25 ∧ y25 ≤ 9223372036854775807) ∧ ((-9223372036854775808) ≤ y26 ∧ y26 ≤ 9223372036854775807) ∧
 ((-9223372036854775808) ≤ y27 ∧ y27 ≤ 9223372036854775807) ∧ ((-9223372036854775808) ≤ y28 ∧ y28 ≤ 9223372036854775807) ∧ ((-9223372036854775808) ≤ y29 ∧ y29 ≤ 9223372036854775807) ∧ ((-9223372036854775808) ≤ y30 ∧ y30 ≤ 9223372036854775807) ∧ ((-9223372036854775808) ≤ y31 ∧ y31 ≤ 9223372036854775807) ∧ ((-9223372036854775808) ≤ y32 ∧ y32 ≤ 9223372036854775807) ∧ True) → I1000 y0 y1 y2 y3 y4 y5 y6 y7 y8 y9 y10 y11 y12 y13 y14 y15 y16 y17 y18 y19 y20 y21 y22 y23 y24 y25 y26 y27 y28 y29 y30 y31 y32 m0 → (Pb (Pl y0 32) (Pb (Pe a 0) (Pm (PL 0 y0) (Pn (W6 (rdZ (sq0 y1 y2 y3 y4 y5 y6 y7 y8 y9 y10 y11 y12 y13 y14 y15 y16 y17 y18 y19 y20 y21 y22 y23 y24 y25 y26 y27 y28 y29 y30 y31 y32) y0)) (-9223372036854775808) 9223372036854775807 fun y34 => Pn (sq1 c y0) (-9223372036854775808)
 9223372036854775807 fun y35 => ∃ m', m' < m0 ∧ I1000 (W6 (y0 + 1)) (W6 (rdZ (updZ (sq0 y1 y2 y3 y4 y5 y6 y7 y8 y9 y10 y11 y12 y13 y14 y15 y16 y17 y18 y19 y20 y21 y22 y23 y24 y25 y26 y27 y28 y29 y30 y31 y32) y0 (W6 (y34 * y35))) 0)) (W6 (rdZ (updZ (sq0 y1 y2 y3 y4 y5 y6 y7 y8 y9 y10 y11 y12 y13 y14 y15 y16 y17 y18 y19 y20 y21 y22 y23 y24 y25 y26 y27 y28 y29 y30 y31 y32) y0 (W6 (y34 * y35))) 1)) (W6 (rdZ (updZ (sq0 y1 y2 y3 y4 y5 y6 y7 y8 y9 y10 y11 y12 y13 y14 y15 y16 y17 y18 y19 y20 y21 y22 y23 y24 y25 y26 y27 y28 y29 y30 y31 y32) y0 (W6 (y34 * y35))) 2)) (W6 (rdZ (updZ (sq0 y1 y2 y3 y4 y5 y6 y7 y8 y9 y10 y11 y12 y13 y14 y15 y16 y17 y18 y19 y20 y21 y22 y23 y24 y25 y26 y27 y28 y29 y30 y31 y32) y0 (W6 (y34 * y35))) 3)) (W6 (rdZ (updZ (sq0 y1 y2 y3 y4 y5 y6 y7 y8 y9 y10 y11 y12 y13 y14 y15
 y16 y17 y18 y19 y20 y21 y22 y23 y24 y25 y26 y27 y28 y29 y30 y31 y32) y0 (W6 (y34 * y35))) 4)) (W6 (rdZ (updZ (sq0 y1 y2 y3 y4 y5 y6 y7 y8 y9 y10 y11 y12 y13 y14 y15 y16 y17 y18 y19 y20 y21 y22 y23 y24 y25 y26 y27 y28 y29 y30 y31 y32) y0 (W6 (y34 * y35))) 5)) (W6 (rdZ (updZ (sq0 y1 y2 y3 y4 y5 y6 y7 y8 y9 y10 y11 y12 y13 y14 y15 y16 y17 y18 y19 y20 y21 y22 y23 y24 y25 y26 y27 y28 y29 y30 y31 y32) y0 (W6 (y34 * y35))) 6)) (W6 (rdZ (updZ (sq0 y1 y2 y3 y4 y5 y6 y7 y8 y9 y10 y11 y12 y13 y14 y15 y16 y17 y18 y19 y20 y21 y22 y23 y24 y25 y26 y27 y28 y29 y30 y31 y32) y0 (W6 (y34 * y35))) 7)) (W6 (rdZ (updZ (sq0 y1 y2 y3 y4 y5 y6 y7 y8 y9 y10 y11 y12 y13 y14 y15 y16 y17 y18 y19 y20 y21 y22 y23 y24 y25 y26 y27 y28 y29 y30 y31 y32) y0 (W6 (y34 * y35))) 8)) (W6 (rdZ (updZ (sq0 y1 y2 y3 y4 y5 y6 y7 y8
 y9 y10 y11 y12 y13 y14 y15 y16 y17 y18 y19 y20 y21 y22 y23 y24 y25 y26 y27 y28 y29 y30 y31 y32) y0 (W6 (y34 * y35))) 9)) (W6 (rdZ (updZ (sq0 y1 y2 y3 y4 y5 y6 y7 y8 y9 y10 y11 y12 y13 y14 y15 y16 y17 y18 y19 y20 y21 y22 y23 y24 y25 y26 y27 y28 y29 y30 y31 y32) y0 (W6 (y34 * y35))) 10)) (W6 (rdZ (updZ (sq0 y1 y2 y3 y4 y5 y6 y7 y8 y9 y10 y11 y12 y13 y14 y15 y16 y17 y18 y19 y20 y21 y22 y23 y24 y25 y26 y27 y28 y29 y30 y31 y32) y0 (W6 (y34 * y35))) 11)) (W6 (rdZ (updZ (sq0 y1 y2 y3 y4 y5 y6 y7 y8 y9 y10 y11 y12 y13 y14 y15 y16 y17 y18 y19 y20 y21 y22 y23 y24 y25 y26 y27 y28 y29 y30 y31 y32) y0 (W6 (y34 * y35))) 12)) (W6 (rdZ (updZ (sq0 y1 y2 y3 y4 y5 y6 y7 y8 y9 y10 y11 y12 y13 y14 y15 y16 y17 y18 y19 y20 y21 y22 y23 y24 y25 y26 y27 y28 y29 y30 y31 y32) y0 (W6 (y34 * y35))) 13)) (W6 (rdZ
 (updZ (sq0 y1 y2 y3 y4 y5 y6 y7 y8 y9 y10 y11 y12 y13 y14 y15 y16 y17 y18 y19 y20 y21 y22 y23 y24 y25 y26 y27 y28 y29 y30 y31 y32) y0 (W6 (y34 * y35))) 14)) (W6 (rdZ (updZ (sq0 y1 y2 y3 y4 y5 y6 y7 y8 y9 y10 y11 y12 y13 y14 y15 y16 y17 y18 y19 y20 y21 y22 y23 y24 y25 y26 y27 y28 y29 y30 y31 y32) y0 (W6 (y34 * y35))) 15)) (W6 (rdZ (updZ (sq0 y1 y2 y3 y4 y5 y6 y7 y8 y9 y10 y11 y12 y13 y14 y15 y16 y17 y18 y19 y20 y21 y22 y23 y24 y25 y26 y27 y28 y29 y30 y31 y32) y0 (W6 (y34 * y35))) 16)) (W6 (rdZ (updZ (sq0 y1 y2 y3 y4 y5 y6 y7 y8 y9 y10 y11 y12 y13 y14 y15 y16 y17 y18 y19 y20 y21 y22 y23 y24 y25 y26 y27 y28 y29 y30 y31 y32) y0 (W6 (y34 * y35))) 17)) (W6 (rdZ (updZ (sq0 y1 y2 y3 y4 y5 y6 y7 y8 y9 y10 y11 y12 y13 y14 y15 y16 y17 y18 y19 y20 y21 y22 y23 y24 y25 y26 y27 y28 y29 y30 y31 y32) y0
 (W6 (y34 * y35))) 18)) (W6 (rdZ (updZ (sq0 y1 y2 y3 y4 y5 y6 y7 y8 y9 y10 y11 y12 y13 y14 y15 y16 y17 y18 y19 y20 y21 y22 y23 y24 y25 y26 y27 y28 y29 y30 y31 y32) y0 (W6 (y34 * y35))) 19)) (W6 (rdZ (updZ (sq0 y1 y2 y3 y4 y5 y6 y7 y8 y9 y10 y11 y12 y13 y14 y15 y16 y17 y18 y19 y20 y21 y22 y23 y24 y25 y26 y27 y28 y29 y30 y31 y32) y0 (W6 (y34 * y35))) 20)) (W6 (rdZ (updZ (sq0 y1 y2 y3 y4 y5 y6 y7 y8 y9 y10 y11 y12 y13 y14 y15 y16 y17 y18 y19 y20 y21 y22 y23 y24 y25 y26 y27 y28 y29 y30 y31 y32) y0 (W6 (y34 * y35))) 21)) (W6 (rdZ (updZ (sq0 y1 y2 y3 y4 y5 y6 y7 y8 y9 y10 y11 y12 y13 y14 y15 y16 y17 y18 y19 y20 y21 y22 y23 y24 y25 y26 y27 y28 y29 y30 y31 y32) y0 (W6 (y34 * y35))) 22)) (W6 (rdZ (updZ (sq0 y1 y2 y3 y4 y5 y6 y7 y8 y9 y10 y11 y12 y13 y14 y15 y16 y17 y18 y19 y20 y21 y22 y23 y24 y25
 y26 y27 y28 y29 y30 y31 y32) y0 (W6 (y34 * y35))) 23)) (W6 (rdZ (updZ (sq0 y1 y2 y3 y4 y5 y6 y7 y8 y9 y10 y11 y12 y13 y14 y15 y16 y17 y18 y19 y20 y21 y22 y23 y24 y25 y26 y27 y28 y29 y30 y31 y32) y0 (W6 (y34 * y35))) 24)) (W6 (rdZ (updZ (sq0 y1 y2 y3 y4 y5 y6 y7 y8 y9 y10 y11 y12 y13 y14 y15 y16 y17 y18 y19 y20 y21 y22 y23 y24 y25 y26 y27 y28 y29 y30 y31 y32) y0 (W6 (y34 * y35))) 25)) (W6 (rdZ (updZ (sq0 y1 y2 y3 y4 y5 y6 y7 y8 y9 y10 y11 y12 y13 y14 y15 y16 y17 y18 y19 y20 y21 y22 y23 y24 y25 y26 y27 y28 y29 y30 y31 y32) y0 (W6 (y34 * y35))) 26)) (W6 (rdZ (updZ (sq0 y1 y2 y3 y4 y5 y6 y7 y8 y9 y10 y11 y12 y13 y14 y15 y16 y17 y18 y19 y20 y21 y22 y23 y24 y25 y26 y27 y28 y29 y30 y31 y32) y0 (W6 (y34 * y35))) 27)) (W6 (rdZ (updZ (sq0 y1 y2 y3 y4 y5 y6 y7 y8 y9 y10 y11 y12 y13 y14 y15 y16 y17
 y18 y19 y20 y21 y22 y23 y24 y25 y26 y27 y28 y29 y30 y31 y32) y0 (W6 (y34 * y35))) 28)) (W6 (rdZ (updZ (sq0 y1 y2 y3 y4 y5 y6 y7 y8 y9 y10 y11 y12 y13 y14 y15 y16 y17 y18 y19 y20 y21 y22 y23 y24 y25 y26 y27 y28 y29 y30 y31 y32) y0 (W6 (y34 * y35))) 29)) (W6 (rdZ (updZ (sq0 y1 y2 y3 y4 y5 y6 y7 y8 y9 y10 y11 y12 y13 y14 y15 y16 y17 y18 y19 y20 y21 y22 y23 y24 y25 y26 y27 y28 y29 y30 y31 y32) y0 (W6 (y34 * y35))) 30)) (W6 (rdZ (updZ (sq0 y1 y2 y3 y4 y5 y6 y7 y8 y9 y10 y11 y12 y13 y14 y15 y16 y17 y18 y19 y20 y21 y22 y23 y24 y25 y26 y27 y28 y29 y30 y31 y32) y0 (W6 (y34 * y35))) 31)) m')) (Pb (Pe a 1) (Pm (PL 0 y0) (Pn (W6 (rdZ (sq0 y1 y2 y3 y4 y5 y6 y7 y8 y9 y10 y11 y12 y13 y14 y15 y16 y17 y18 y19 y20 y21 y22 y23 y24 y25 y26 y27 y28 y29 y30 y31 y32) y0)) (-9223372036854775808)
 9223372036854775807 fun y34 => Pn (sq1 c y0) (-9223372036854775808) 9223372036854775807 fun y35 => Pn (W6 ((W6 (y34 + y35)) - (W6 (y34 * y35)))) (-9223372036854775808) 9223372036854775807 fun y36 => ∃ m', m' < m0 ∧ I1000 (W6 (y0 + 1)) (W6 (rdZ (updZ (sq0 y1 y2 y3 y4 y5 y6 y7 y8 y9 y10 y11 y12 y13 y14 y15 y16 y17 y18 y19 y20 y21 y22 y23 y24 y25 y26 y27 y28 y29 y30 y31 y32) y0 y36) 0)) (W6 (rdZ (updZ (sq0 y1 y2 y3 y4 y5 y6 y7 y8 y9 y10 y11 y12 y13 y14 y15 y16 y17 y18 y19 y20 y21 y22 y23 y24 y25 y26 y27 y28 y29 y30 y31 y32) y0 y36) 1)) (W6 (rdZ (updZ (sq0 y1 y2 y3 y4 y5 y6 y7 y8 y9 y10 y11 y12 y13 y14 y15 y16 y17 y18 y19 y20 y21 y22 y23 y24 y25 y26 y27 y28 y29 y30 y31 y32) y0 y36) 2)) (W6 (rdZ (updZ (sq0 y1 y2 y3 y4 y5 y6 y7 y8 y9 y10 y11 y12 y13 y14 y15 y16 y17 y18 y19 y20 y21 y22 y23 y24
 y25 y26 y27 y28 y29 y30 y31 y32) y0 y36) 3)) (W6 (rdZ (updZ (sq0 y1 y2 y3 y4 y5 y6 y7 y8 y9 y10 y11 y12 y13 y14 y15 y16 y17 y18 y19 y20 y21 y22 y23 y24 y25 y26 y27 y28 y29 y30 y31 y32) y0 y36) 4)) (W6 (rdZ (updZ (sq0 y1 y2 y3 y4 y5 y6 y7 y8 y9 y10 y11 y12 y13 y14 y15 y16 y17 y18 y19 y20 y21 y22 y23 y24 y25 y26 y27 y28 y29 y30 y31 y32) y0 y36) 5)) (W6 (rdZ (updZ (sq0 y1 y2 y3 y4 y5 y6 y7 y8 y9 y10 y11 y12 y13 y14 y15 y16 y17 y18 y19 y20 y21 y22 y23 y24 y25 y26 y27 y28 y29 y30 y31 y32) y0 y36) 6)) (W6 (rdZ (updZ (sq0 y1 y2 y3 y4 y5 y6 y7 y8 y9 y10 y11 y12 y13 y14 y15 y16 y17 y18 y19 y20 y21 y22 y23 y24 y25 y26 y27 y28 y29 y30 y31 y32) y0 y36) 7)) (W6 (rdZ (updZ (sq0 y1 y2 y3 y4 y5 y6 y7 y8 y9 y10 y11 y12 y13 y14 y15 y16 y17 y18 y19 y20 y21 y22 y23 y24 y25 y26 y27 y28 y29 y30 y31 y32) y0
 y36) 8)) (W6 (rdZ (updZ (sq0 y1 y2 y3 y4 y5 y6 y7 y8 y9 y10 y11 y12 y13 y14 y15 y16 y17 y18 y19 y20 y21 y22 y23 y24 y25 y26 y27 y28 y29 y30 y31 y32) y0 y36) 9)) (W6 (rdZ (updZ (sq0 y1 y2 y3 y4 y5 y6 y7 y8 y9 y10 y11 y12 y13 y14 y15 y16 y17 y18 y19 y20 y21 y22 y23 y24 y25 y26 y27 y28 y29 y30 y31 y32) y0 y36) 10)) (W6 (rdZ (updZ (sq0 y1 y2 y3 y4 y5 y6 y7 y8 y9 y10 y11 y12 y13 y14 y15 y16 y17 y18 y19 y20 y21 y22 y23 y24 y25 y26 y27 y28 y29 y30 y31 y32) y0 y36) 11)) (W6 (rdZ (updZ (sq0 y1 y2 y3 y4 y5 y6 y7 y8 y9 y10 y11 y12 y13 y14 y15 y16 y17 y18 y19 y20 y21 y22 y23 y24 y25 y26 y27 y28 y29 y30 y31 y32) y0 y36) 12)) (W6 (rdZ (updZ (sq0 y1 y2 y3 y4 y5 y6 y7 y8 y9 y10 y11 y12 y13 y14 y15 y16 y17 y18 y19 y20 y21 y22 y23 y24 y25 y26 y27 y28 y29 y30 y31 y32) y0 y36) 13)) (W6 (rdZ (updZ (sq0 y1 y2
 y3 y4 y5 y6 y7 y8 y9 y10 y11 y12 y13 y14 y15 y16 y17 y18 y19 y20 y21 y22 y23 y24 y25 y26 y27 y28 y29 y30 y31 y32) y0 y36) 14)) (W6 (rdZ (updZ (sq0 y1 y2 y3 y4 y5 y6 y7 y8 y9 y10 y11 y12 y13 y14 y15 y16 y17 y18 y19 y20 y21 y22 y23 y24 y25 y26 y27 y28 y29 y30 y31 y32) y0 y36) 15)) (W6 (rdZ (updZ (sq0 y1 y2 y3 y4 y5 y6 y7 y8 y9 y10 y11 y12 y13 y14 y15 y16 y17 y18 y19 y20 y21 y22 y23 y24 y25 y26 y27 y28 y29 y30 y31 y32) y0 y36) 16)) (W6 (rdZ (updZ (sq0 y1 y2 y3 y4 y5 y6 y7 y8 y9 y10 y11 y12 y13 y14 y15 y16 y17 y18 y19 y20 y21 y22 y23 y24 y25 y26 y27 y28 y29 y30 y31 y32) y0 y36) 17)) (W6 (rdZ (updZ (sq0 y1 y2 y3 y4 y5 y6 y7 y8 y9 y10 y11 y12 y13 y14 y15 y16 y17 y18 y19 y20 y21 y22 y23 y24 y25 y26 y27 y28 y29 y30 y31 y32) y0 y36) 18)) (W6 (rdZ (updZ (sq0 y1 y2 y3 y4 y5 y6 y7 y8 y9 y10 y11 y12
 y13 y14 y15 y16 y17 y18 y19 y20 y21 y22 y23 y24 y25 y26 y27 y28 y29 y30 y31 y32) y0 y36) 19)) (W6 (rdZ (updZ (sq0 y1 y2 y3 y4 y5 y6 y7 y8 y9 y10 y11 y12 y13 y14 y15 y16 y17 y18 y19 y20 y21 y22 y23 y24 y25 y26 y27 y28 y29 y30 y31 y32) y0 y36) 20)) (W6 (rdZ (updZ (sq0 y1 y2 y3 y4 y5 y6 y7 y8 y9 y10 y11 y12 y13 y14 y15 y16 y17 y18 y19 y20 y21 y22 y23 y24 y25 y26 y27 y28 y29 y30 y31 y32) y0 y36) 21)) (W6 (rdZ (updZ (sq0 y1 y2 y3 y4 y5 y6 y7 y8 y9 y10 y11 y12 y13 y14 y15 y16 y17 y18 y19 y20 y21 y22 y23 y24 y25 y26 y27 y28 y29 y30 y31 y32) y0 y36) 22)) (W6 (rdZ (updZ (sq0 y1 y2 y3 y4 y5 y6 y7 y8 y9 y10 y11 y12 y13 y14 y15 y16 y17 y18 y19 y20 y21 y22 y23 y24 y25 y26 y27 y28 y29 y30 y31 y32) y0 y36) 23)) (W6 (rdZ (updZ (sq0 y1 y2 y3 y4 y5 y6 y7 y8 y9 y10 y11 y12 y13 y14 y15 y16 y17 y18 y19 y20
 y21 y22 y23 y24 y25 y26 y27 y28 y29 y30 y31 y32) y0 y36) 24)) (W6 (rdZ (updZ (sq0 y1 y2 y3 y4 y5 y6 y7 y8 y9 y10 y11 y12 y13 y14 y15 y16 y17 y18 y19 y20 y21 y22 y23 y24 y25 y26 y27 y28 y29 y30 y31 y32) y0 y36) 25)) (W6 (rdZ (updZ (sq0 y1 y2 y3 y4 y5 y6 y7 y8 y9 y10 y11 y12 y13 y14 y15 y16 y17 y18 y19 y20 y21 y22 y23 y24 y25 y26 y27 y28 y29 y30 y31 y32) y0 y36) 26)) (W6 (rdZ (updZ (sq0 y1 y2 y3 y4 y5 y6 y7 y8 y9 y10 y11 y12 y13 y14 y15 y16 y17 y18 y19 y20 y21 y22 y23 y24 y25 y26 y27 y28 y29 y30 y31 y32) y0 y36) 27)) (W6 (rdZ (updZ (sq0 y1 y2 y3 y4 y5 y6 y7 y8 y9 y10 y11 y12 y13 y14 y15 y16 y17 y18 y19 y20 y21 y22 y23 y24 y25 y26 y27 y28 y29 y30 y31 y32) y0 y36) 28)) (W6 (rdZ (updZ (sq0 y1 y2 y3 y4 y5 y6 y7 y8 y9 y10 y11 y12 y13 y14 y15 y16 y17 y18 y19 y20 y21 y22 y23 y24 y25 y26 y27 y28
 y29 y30 y31 y32) y0 y36) 29)) (W6 (rdZ (updZ (sq0 y1 y2 y3 y4 y5 y6 y7 y8 y9 y10 y11 y12 y13 y14 y15 y16 y17 y18 y19 y20 y21 y22 y23 y24 y25 y26 y27 y28 y29 y30 y31 y32) y0 y36) 30)) (W6 (rdZ (updZ (sq0 y1 y2 y3 y4 y5 y6 y7 y8 y9 y10 y11 y12 y13 y14 y15 y16 y17 y18 y19 y20 y21 y22 y23 y24 y25 y26 y27 y28 y29 y30 y31 y32) y0 y36) 31)) m')) (Pb (Pe a 2) (Pm (PL 0 y0) (Pn (W6 (rdZ (sq0 y1 y2 y3 y4 y5 y6 y7 y8 y9 y10 y11 y12 y13 y14 y15 y16 y17 y18 y19 y20 y21 y22 y23 y24 y25 y26 y27 y28 y29 y30 y31 y32) y0)) (-9223372036854775808) 9223372036854775807 fun y34 => Pn (sq1 c y0) (-9223372036854775808) 9223372036854775807 fun y35 => Pn (BO.ev .rem .i64 (W6 (y34 + y35)) 2) (-1) 1 fun y36 => ∃ m', m' < m0 ∧ I1000 (W6 (y0 + 1)) (W6 (rdZ (updZ (sq0 y1 y2 y3 y4 y5 y6 y7 y8 y9 y10 y11 y12 y13 y14 y15
 y16 y17 y18 y19 y20 y21 y22 y23 y24 y25 y26 y27 y28 y29 y30 y31 y32) y0 y36) 0)) (W6 (rdZ (updZ (sq0 y1 y2 y3 y4 y5 y6 y7 y8 y9 y10 y11 y12 y13 y14 y15 y16 y17 y18 y19 y20 y21 y22 y23 y24 y25 y26 y27 y28 y29 y30 y31 y32) y0 y36) 1)) (W6 (rdZ (updZ (sq0 y1 y2 y3 y4 y5 y6 y7 y8 y9 y10 y11 y12 y13 y14 y15 y16 y17 y18 y19 y20 y21 y22 y23 y24 y25 y26 y27 y28 y29 y30 y31 y32) y0 y36) 2)) (W6 (rdZ (updZ (sq0 y1 y2 y3 y4 y5 y6 y7 y8 y9 y10 y11 y12 y13 y14 y15 y16 y17 y18 y19 y20 y21 y22 y23 y24 y25 y26 y27 y28 y29 y30 y31 y32) y0 y36) 3)) (W6 (rdZ (updZ (sq0 y1 y2 y3 y4 y5 y6 y7 y8 y9 y10 y11 y12 y13 y14 y15 y16 y17 y18 y19 y20 y21 y22 y23 y24 y25 y26 y27 y28 y29 y30 y31 y32) y0 y36) 4)) (W6 (rdZ (updZ (sq0 y1 y2 y3 y4 y5 y6 y7 y8 y9 y10 y11 y12 y13 y14 y15 y16 y17 y18 y19 y20 y21 y22 y23 y24
 y25 y26 y27 y28 y29 y30 y31 y32) y0 y36) 5)) (W6 (rdZ (updZ (sq0 y1 y2 y3 y4 y5 y6 y7 y8 y9 y10 y11 y12 y13 y14 y15 y16 y17 y18 y19 y20 y21 y22 y23 y24 y25 y26 y27 y28 y29 y30 y31 y32) y0 y36) 6)) (W6 (rdZ (updZ (sq0 y1 y2 y3 y4 y5 y6 y7 y8 y9 y10 y11 y12 y13 y14 y15 y16 y17 y18 y19 y20 y21 y22 y23 y24 y25 y26 y27 y28 y29 y30 y31 y32) y0 y36) 7)) (W6 (rdZ (updZ (sq0 y1 y2 y3 y4 y5 y6 y7 y8 y9 y10 y11 y12 y13 y14 y15 y16 y17 y18 y19 y20 y21 y22 y23 y24 y25 y26 y27 y28 y29 y30 y31 y32) y0 y36) 8)) (W6 (rdZ (updZ (sq0 y1 y2 y3 y4 y5 y6 y7 y8 y9 y10 y11 y12 y13 y14 y15 y16 y17 y18 y19 y20 y21 y22 y23 y24 y25 y26 y27 y28 y29 y30 y31 y32) y0 y36) 9)) (W6 (rdZ (updZ (sq0 y1 y2 y3 y4 y5 y6 y7 y8 y9 y10 y11 y12 y13 y14 y15 y16 y17 y18 y19 y20 y21 y22 y23 y24 y25 y26 y27 y28 y29 y30 y31 y32) y0
 y36) 10)) (W6 (rdZ (updZ (sq0 y1 y2 y3 y4 y5 y6 y7 y8 y9 y10 y11 y12 y13 y14 y15 y16 y17 y18 y19 y20 y21 y22 y23 y24 y25 y26 y27 y28 y29 y30 y31 y32) y0 y36) 11)) (W6 (rdZ (updZ (sq0 y1 y2 y3 y4 y5 y6 y7 y8 y9 y10 y11 y12 y13 y14 y15 y16 y17 y18 y19 y20 y21 y22 y23 y24 y25 y26 y27 y28 y29 y30 y31 y32) y0 y36) 12)) (W6 (rdZ (updZ (sq0 y1 y2 y3 y4 y5 y6 y7 y8 y9 y10 y11 y12 y13 y14 y15 y16 y17 y18 y19 y20 y21 y22 y23 y24 y25 y26 y27 y28 y29 y30 y31 y32) y0 y36) 13)) (W6 (rdZ (updZ (sq0 y1 y2 y3 y4 y5 y6 y7 y8 y9 y10 y11 y12 y13 y14 y15 y16 y17 y18 y19 y20 y21 y22 y23 y24 y25 y26 y27 y28 y29 y30 y31 y32) y0 y36) 14)) (W6 (rdZ (updZ (sq0 y1 y2 y3 y4 y5 y6 y7 y8 y9 y10 y11 y12 y13 y14 y15 y16 y17 y18 y19 y20 y21 y22 y23 y24 y25 y26 y27 y28 y29 y30 y31 y32) y0 y36) 15)) (W6 (rdZ (updZ (sq0 y1
 y2 y3 y4 y5 y6 y7 y8 y9 y10 y11 y12 y13 y14 y15 y16 y17 y18 y19 y20 y21 y22 y23 y24 y25 y26 y27 y28 y29 y30 y31 y32) y0 y36) 16)) (W6 (rdZ (updZ (sq0 y1 y2 y3 y4 y5 y6 y7 y8 y9 y10 y11 y12 y13 y14 y15 y16 y17 y18 y19 y20 y21 y22 y23 y24 y25 y26 y27 y28 y29 y30 y31 y32) y0 y36) 17)) (W6 (rdZ (updZ (sq0 y1 y2 y3 y4 y5 y6 y7 y8 y9 y10 y11 y12 y13 y14 y15 y16 y17 y18 y19 y20 y21 y22 y23 y24 y25 y26 y27 y28 y29 y30 y31 y32) y0 y36) 18)) (W6 (rdZ (updZ (sq0 y1 y2 y3 y4 y5 y6 y7 y8 y9 y10 y11 y12 y13 y14 y15 y16 y17 y18 y19 y20 y21 y22 y23 y24 y25 y26 y27 y28 y29 y30 y31 y32) y0 y36) 19)) (W6 (rdZ (updZ (sq0 y1 y2 y3 y4 y5 y6 y7 y8 y9 y10 y11 y12 y13 y14 y15 y16 y17 y18 y19 y20 y21 y22 y23 y24 y25 y26 y27 y28 y29 y30 y31 y32) y0 y36) 20)) (W6 (rdZ (updZ (sq0 y1 y2 y3 y4 y5 y6 y7 y8 y9 y10 y11
 y12 y13 y14 y15 y16 y17 y18 y19 y20 y21 y22 y23 y24 y25 y26 y27 y28 y29 y30 y31 y32) y0 y36) 21)) (W6 (rdZ (updZ (sq0 y1 y2 y3 y4 y5 y6 y7 y8 y9 y10 y11 y12 y13 y14 y15 y16 y17 y18 y19 y20 y21 y22 y23 y24 y25 y26 y27 y28 y29 y30 y31 y32) y0 y36) 22)) (W6 (rdZ (updZ (sq0 y1 y2 y3 y4 y5 y6 y7 y8 y9 y10 y11 y12 y13 y14 y15 y16 y17 y18 y19 y20 y21 y22 y23 y24 y25 y26 y27 y28 y29 y30 y31 y32) y0 y36) 23)) (W6 (rdZ (updZ (sq0 y1 y2 y3 y4 y5 y6 y7 y8 y9 y10 y11 y12 y13 y14 y15 y16 y17 y18 y19 y20 y21 y22 y23 y24 y25 y26 y27 y28 y29 y30 y31 y32) y0 y36) 24)) (W6 (rdZ (updZ (sq0 y1 y2 y3 y4 y5 y6 y7 y8 y9 y10 y11 y12 y13 y14 y15 y16 y17 y18 y19 y20 y21 y22 y23 y24 y25 y26 y27 y28 y29 y30 y31 y32) y0 y36) 25)) (W6 (rdZ (updZ (sq0 y1 y2 y3 y4 y5 y6 y7 y8 y9 y10 y11 y12 y13 y14 y15 y16 y17 y18 y19
 y20 y21 y22 y23 y24 y25 y26 y27 y28 y29 y30 y31 y32) y0 y36) 26)) (W6 (rdZ (updZ (sq0 y1 y2 y3 y4 y5 y6 y7 y8 y9 y10 y11 y12 y13 y14 y15 y16 y17 y18 y19 y20 y21 y22 y23 y24 y25 y26 y27 y28 y29 y30 y31 y32) y0 y36) 27)) (W6 (rdZ (updZ (sq0 y1 y2 y3 y4 y5 y6 y7 y8 y9 y10 y11 y12 y13 y14 y15 y16 y17 y18 y19 y20 y21 y22 y23 y24 y25 y26 y27 y28 y29 y30 y31 y32) y0 y36) 28)) (W6 (rdZ (updZ (sq0 y1 y2 y3 y4 y5 y6 y7 y8 y9 y10 y11 y12 y13 y14 y15 y16 y17 y18 y19 y20 y21 y22 y23 y24 y25 y26 y27 y28 y29 y30 y31 y32) y0 y36) 29)) (W6 (rdZ (updZ (sq0 y1 y2 y3 y4 y5 y6 y7 y8 y9 y10 y11 y12 y13 y14 y15 y16 y17 y18 y19 y20 y21 y22 y23 y24 y25 y26 y27 y28 y29 y30 y31 y32) y0 y36) 30)) (W6 (rdZ (updZ (sq0 y1 y2 y3 y4 y5 y6 y7 y8 y9 y10 y11 y12 y13 y14 y15 y16 y17 y18 y19 y20 y21 y22 y23 y24 y25 y26 y27
 y28 y29 y30 y31 y32) y0 y36) 31)) m')) (Pm (PL 0 y0) (Pn (W6 (rdZ (sq0 y1 y2 y3 y4 y5 y6 y7 y8 y9 y10 y11 y12 y13 y14 y15 y16 y17 y18 y19 y20 y21 y22 y23 y24 y25 y26 y27 y28 y29 y30 y31 y32) y0)) (-9223372036854775808) 9223372036854775807 fun y34 => Pn (sq1 c y0) (-9223372036854775808) 9223372036854775807 fun y35 => Pn (W6 (y34 * (W6 (1 - y35)))) (-9223372036854775808) 9223372036854775807 fun y36 => ∃ m', m' < m0 ∧ I1000 (W6 (y0 + 1)) (W6 (rdZ (updZ (sq0 y1 y2 y3 y4 y5 y6 y7 y8 y9 y10 y11 y12 y13 y14 y15 y16 y17 y18 y19 y20 y21 y22 y23 y24 y25 y26 y27 y28 y29 y30 y31 y32) y0 y36) 0)) (W6 (rdZ (updZ (sq0 y1 y2 y3 y4 y5 y6 y7 y8 y9 y10 y11 y12 y13 y14 y15 y16 y17 y18 y19 y20 y21 y22 y23 y24 y25 y26 y27 y28 y29 y30 y31 y32) y0 y36) 1)) (W6 (rdZ (updZ (sq0 y1 y2 y3 y4 y5 y6 y7 y8 y9 y10 y11
 y12 y13 y14 y15 y16 y17 y18 y19 y20 y21 y22 y23 y24 y25 y26 y27 y28 y29 y30 y31 y32) y0 y36) 2)) (W6 (rdZ (updZ (sq0 y1 y2 y3 y4 y5 y6 y7 y8 y9 y10 y11 y12 y13 y14 y15 y16 y17 y18 y19 y20 y21 y22 y23 y24 y25 y26 y27 y28 y29 y30 y31 y32) y0 y36) 3)) (W6 (rdZ (updZ (sq0 y1 y2 y3 y4 y5 y6 y7 y8 y9 y10 y11 y12 y13 y14 y15 y16 y17 y18 y19 y20 y21 y22 y23 y24 y25 y26 y27 y28 y29 y30 y31 y32) y0 y36) 4)) (W6 (rdZ (updZ (sq0 y1 y2 y3 y4 y5 y6 y7 y8 y9 y10 y11 y12 y13 y14 y15 y16 y17 y18 y19 y20 y21 y22 y23 y24 y25 y26 y27 y28 y29 y30 y31 y32) y0 y36) 5)) (W6 (rdZ (updZ (sq0 y1 y2 y3 y4 y5 y6 y7 y8 y9 y10 y11 y12 y13 y14 y15 y16 y17 y18 y19 y20 y21 y22 y23 y24 y25 y26 y27 y28 y29 y30 y31 y32) y0 y36) 6)) (W6 (rdZ (updZ (sq0 y1 y2 y3 y4 y5 y6 y7 y8 y9 y10 y11 y12 y13 y14 y15 y16 y17 y18 y19 y20
 y21 y22 y23 y24 y25 y26 y27 y28 y29 y30 y31 y32) y0 y36) 7)) (W6 (rdZ (updZ (sq0 y1 y2 y3 y4 y5 y6 y7 y8 y9 y10 y11 y12 y13 y14 y15 y16 y17 y18 y19 y20 y21 y22 y23 y24 y25 y26 y27 y28 y29 y30 y31 y32) y0 y36) 8)) (W6 (rdZ (updZ (sq0 y1 y2 y3 y4 y5 y6 y7 y8 y9 y10 y11 y12 y13 y14 y15 y16 y17 y18 y19 y20 y21 y22 y23 y24 y25 y26 y27 y28 y29 y30 y31 y32) y0 y36) 9)) (W6 (rdZ (updZ (sq0 y1 y2 y3 y4 y5 y6 y7 y8 y9 y10 y11 y12 y13 y14 y15 y16 y17 y18 y19 y20 y21 y22 y23 y24 y25 y26 y27 y28 y29 y30 y31 y32) y0 y36) 10)) (W6 (rdZ (updZ (sq0 y1 y2 y3 y4 y5 y6 y7 y8 y9 y10 y11 y12 y13 y14 y15 y16 y17 y18 y19 y20 y21 y22 y23 y24 y25 y26 y27 y28 y29 y30 y31 y32) y0 y36) 11)) (W6 (rdZ (updZ (sq0 y1 y2 y3 y4 y5 y6 y7 y8 y9 y10 y11 y12 y13 y14 y15 y16 y17 y18 y19 y20 y21 y22 y23 y24 y25 y26 y27 y28 y29
 y30 y31 y32) y0 y36) 12)) (W6 (rdZ (updZ (sq0 y1 y2 y3 y4 y5 y6 y7 y8 y9 y10 y11 y12 y13 y14 y15 y16 y17 y18 y19 y20 y21 y22 y23 y24 y25 y26 y27 y28 y29 y30 y31 y32) y0 y36) 13)) (W6 (rdZ (updZ (sq0 y1 y2 y3 y4 y5 y6 y7 y8 y9 y10 y11 y12 y13 y14 y15 y16 y17 y18 y19 y20 y21 y22 y23 y24 y25 y26 y27 y28 y29 y30 y31 y32) y0 y36) 14)) (W6 (rdZ (updZ (sq0 y1 y2 y3 y4 y5 y6 y7 y8 y9 y10 y11 y12 y13 y14 y15 y16 y17 y18 y19 y20 y21 y22 y23 y24 y25 y26 y27 y28 y29 y30 y31 y32) y0 y36) 15)) (W6 (rdZ (updZ (sq0 y1 y2 y3 y4 y5 y6 y7 y8 y9 y10 y11 y12 y13 y14 y15 y16 y17 y18 y19 y20 y21 y22 y23 y24 y25 y26 y27 y28 y29 y30 y31 y32) y0 y36) 16)) (W6 (rdZ (updZ (sq0 y1 y2 y3 y4 y5 y6 y7 y8 y9 y10 y11 y12 y13 y14 y15 y16 y17 y18 y19 y20 y21 y22 y23 y24 y25 y26 y27 y28 y29 y30 y31 y32) y0 y36) 17)) (W6
 (rdZ (updZ (sq0 y1 y2 y3 y4 y5 y6 y7 y8 y9 y10 y11 y12 y13 y14 y15 y16 y17 y18 y19 y20 y21 y22 y23 y24 y25 y26 y27 y28 y29 y30 y31 y32) y0 y36) 18)) (W6 (rdZ (updZ (sq0 y1 y2 y3 y4 y5 y6 y7 y8 y9 y10 y11 y12 y13 y14 y15 y16 y17 y18 y19 y20 y21 y22 y23 y24 y25 y26 y27 y28 y29 y30 y31 y32) y0 y36) 19)) (W6 (rdZ (updZ (sq0 y1 y2 y3 y4 y5 y6 y7 y8 y9 y10 y11 y12 y13 y14 y15 y16 y17 y18 y19 y20 y21 y22 y23 y24 y25 y26 y27 y28 y29 y30 y31 y32) y0 y36) 20)) (W6 (rdZ (updZ (sq0 y1 y2 y3 y4 y5 y6 y7 y8 y9 y10 y11 y12 y13 y14 y15 y16 y17 y18 y19 y20 y21 y22 y23 y24 y25 y26 y27 y28 y29 y30 y31 y32) y0 y36) 21)) (W6 (rdZ (updZ (sq0 y1 y2 y3 y4 y5 y6 y7 y8 y9 y10 y11 y12 y13 y14 y15 y16 y17 y18 y19 y20 y21 y22 y23 y24 y25 y26 y27 y28 y29 y30 y31 y32) y0 y36) 22)) (W6 (rdZ (updZ (sq0 y1 y2 y3 y4 y5 y6
 y7 y8 y9 y10 y11 y12 y13 y14 y15 y16 y17 y18 y19 y20 y21 y22 y23 y24 y25 y26 y27 y28 y29 y30 y31 y32) y0 y36) 23)) (W6 (rdZ (updZ (sq0 y1 y2 y3 y4 y5 y6 y7 y8 y9 y10 y11 y12 y13 y14 y15 y16 y17 y18 y19 y20 y21 y22 y23 y24 y25 y26 y27 y28 y29 y30 y31 y32) y0 y36) 24)) (W6 (rdZ (updZ (sq0 y1 y2 y3 y4 y5 y6 y7 y8 y9 y10 y11 y12 y13 y14 y15 y16 y17 y18 y19 y20 y21 y22 y23 y24 y25 y26 y27 y28 y29 y30 y31 y32) y0 y36) 25)) (W6 (rdZ (updZ (sq0 y1 y2 y3 y4 y5 y6 y7 y8 y9 y10 y11 y12 y13 y14 y15 y16 y17 y18 y19 y20 y21 y22 y23 y24 y25 y26 y27 y28 y29 y30 y31 y32) y0 y36) 26)) (W6 (rdZ (updZ (sq0 y1 y2 y3 y4 y5 y6 y7 y8 y9 y10 y11 y12 y13 y14 y15 y16 y17 y18 y19 y20 y21 y22 y23 y24 y25 y26 y27 y28 y29 y30 y31 y32) y0 y36) 27)) (W6 (rdZ (updZ (sq0 y1 y2 y3 y4 y5 y6 y7 y8 y9 y10 y11 y12 y13 y14 y15
 y16 y17 y18 y19 y20 y21 y22 y23 y24 y25 y26 y27 y28 y29 y30 y31 y32) y0 y36) 28)) (W6 (rdZ (updZ (sq0 y1 y2 y3 y4 y5 y6 y7 y8 y9 y10 y11 y12 y13 y14 y15 y16 y17 y18 y19 y20 y21 y22 y23 y24 y25 y26 y27 y28 y29 y30 y31 y32) y0 y36) 29)) (W6 (rdZ (updZ (sq0 y1 y2 y3 y4 y5 y6 y7 y8 y9 y10 y11 y12 y13 y14 y15 y16 y17 y18 y19 y20 y21 y22 y23 y24 y25 y26 y27 y28 y29 y30 y31 y32) y0 y36) 30)) (W6 (rdZ (updZ (sq0 y1 y2 y3 y4 y5 y6 y7 y8 y9 y10 y11 y12 y13 y14 y15 y16 y17 y18 y19 y20 y21 y22 y23 y24 y25 y26 y27 y28 y29 y30 y31 y32) y0 y36) 31)) m'))))) (Pn (ofZ y1 y2 (kZ y3 (kZ y4 (kZ y5 (kZ y6 (kZ y7 (kZ y8 (kZ y9 (kZ y10 (kZ y11 (kZ y12 (kZ y13 (kZ y14 (kZ y15 (kZ y16 (kZ y17 (kZ y18 (kZ y19 (kZ y20 (kZ y21 (kZ y22 (kZ y23 (kZ y24 (kZ y25 (kZ y26 (kZ y27 (kZ y28 (kZ y29 (kZ y30 (kZ y31 (kZ y32
 0))))))))))))))))))))))))))))))) (-2147483648) 2147483647 fun y39 => ((y39 : Int) = (aluV (iteZ (Pe a 0) 5 (iteZ (Pe a 1) 6 (iteZ (Pe a 2) 7 8))) b c) ∧ True)))
theorem bits_rdE (x : Int) (k : Int) (h0 : 0 ≤ k) (h : k < 32) : rdZ (consZ (bitZ x 0) (consZ (bitZ x 1) (consZ (bitZ x 2) (consZ (bitZ x 3) (consZ (bitZ x 4) (consZ (bitZ x 5) (consZ (bitZ x 6) (consZ (bitZ x 7) (consZ (bitZ x 8) (consZ (bitZ x 9) (consZ (bitZ x 10) (consZ (bitZ x 11) (consZ (bitZ x 12) (consZ (bitZ x 13) (consZ (bitZ x 14) (consZ (bitZ x 15) (consZ (bitZ x 16) (consZ (bitZ x 17) (consZ (bitZ x 18) (consZ (bitZ x 19) (consZ (bitZ x 20) (consZ (bitZ x 21) (consZ (bitZ x 22) (consZ (bitZ x 23) (consZ (bitZ x 24) (consZ (bitZ x 25) (consZ (bitZ x 26) (consZ (bitZ x 27) (consZ (bitZ x 28) (consZ (bitZ x 29) (consZ (bitZ x 30) (consZ (bitZ x 31) 0)))))))))))))))))))))))))))))))) k = bt (b32 x) k.toNat := by
 have e : (consZ (bitZ x 0) (consZ (bitZ x 1) (consZ (bitZ x 2) (consZ (bitZ x 3) (consZ (bitZ x 4) (consZ (bitZ x 5) (consZ (bitZ x 6) (consZ (bitZ x 7) (consZ (bitZ x 8) (consZ (bitZ x 9) (consZ (bitZ x 10) (consZ (bitZ x 11) (consZ (bitZ x 12) (consZ (bitZ x 13) (consZ (bitZ x 14) (consZ (bitZ x 15) (consZ (bitZ x 16) (consZ (bitZ x 17) (consZ (bitZ x 18) (consZ (bitZ x 19) (consZ (bitZ x 20) (consZ (bitZ x 21) (consZ (bitZ x 22) (consZ (bitZ x 23) (consZ (bitZ x 24) (consZ (bitZ x 25) (consZ (bitZ x 26) (consZ (bitZ x 27) (consZ (bitZ x 28) (consZ (bitZ x 29) (consZ (bitZ x 30) (consZ (bitZ x 31) 0)))))))))))))))))))))))))))))))) = chn ((List.range 32).map fun i : Nat => bitZ x i) := rfl
 rw [e, show k = ((k.toNat : Nat) : Int) by omega, rd_chn]
 have hr : k.toNat < 32 := by omega
 simp only [List.getD_eq_getElem?_getD, List.getElem?_map, List.getElem?_range hr, Option.map_some, Option.getD_some, bitZ_bt, Int.toNat_natCast]
theorem btE_bd (Z : BitVec 32) (i : Nat) : 0 ≤ bt Z i ∧ bt Z i ≤ 1 := by unfold bt; split <;> omega
theorem bt_and (A B : BitVec 32) (i : Nat) : bt A i * bt B i = bt (A &&& B) i := by
 unfold bt; rw [BitVec.getLsbD_and]; cases A.getLsbD i <;> cases B.getLsbD i <;> rfl
theorem bt_or (A B : BitVec 32) (i : Nat) : bt A i + bt B i - bt A i * bt B i = bt (A ||| B) i := by
 unfold bt; rw [BitVec.getLsbD_or]; cases A.getLsbD i <;> cases B.getLsbD i <;> rfl
theorem bt_xor (A B : BitVec 32) (i : Nat) : BO.ev .rem .i64 (bt A i + bt B i) 2 = bt (A ^^^ B) i := by
 unfold bt; rw [BitVec.getLsbD_xor]; cases A.getLsbD i <;> cases B.getLsbD i <;> rfl
theorem bt_bic (A B : BitVec 32) (i : Nat) (h : i < 32) : bt A i * (1 - bt B i) = bt (A &&& ~~~ B) i := by
 unfold bt; rw [BitVec.getLsbD_and, BitVec.getLsbD_not]; simp only [h, decide_true, Bool.true_and]; cases A.getLsbD i <;> cases B.getLsbD i <;> rfl
def GoodL (Z A : BitVec 32) (i : Int) (l : List Int) : Prop := ∀ k : Nat, k < 32 → l.getD k 0 = if (k : Int) < i then bt Z k else bt A k
theorem goodL_step {Z A : BitVec 32} {i x : Int} {l : List Int} (h : GoodL Z A i l) (h0 : 0 ≤ i) (hx : IntKind.wrap .i64 x = bt Z i.toNat) : GoodL Z A (i + 1) ((List.range 32).map fun k : Nat => IntKind.wrap .i64 (rdZ (updZ (chn l) i x) k)) := by
 intro k hk
 simp only [List.getD_eq_getElem?_getD, List.getElem?_map, List.getElem?_range hk, Option.map_some, Option.getD_some]
 rw [rdZ_upd, Int.toNat_natCast]
 by_cases e : k = i.toNat
 ·rw [if_pos e, hx, if_pos (by omega), e]
 ·rw [if_neg e, rd_chn, h k hk]
  have b1 := btE_bd Z k
  have b2 := btE_bd A k
  by_cases g : (k : Int) < i
  ·rw [if_pos g, if_pos (by omega), w64 (by omega) (by omega)]
  ·rw [if_neg g, if_neg (by omega), w64 (by omega) (by omega)]
def zOf (p : Int) (A B : BitVec 32) : BitVec 32 := if p = 0 then A &&& B else if p = 1 then A ||| B else if p = 2 then A ^^^ B else A &&& ~~~ B
set_option maxRecDepth 100000 in
set_option maxHeartbeats 8000000 in
theorem holds (p0 p1 p2 : Int) (l_p0 : -9223372036854775808 ≤ p0) (u_p0 : p0 ≤ 9223372036854775807) (l_p1 : -2147483648 ≤ p1) (u_p1 : p1 ≤ 2147483647) (l_p2 : -2147483648 ≤ p2) (u_p2 : p2 ≤ 2147483647) : P p0 p1 p2 := by
 delta P sq0 sq1 Pb Pm Pn PL Pl Pe W6 kZ
 simp only [nrm, nro, Int.reduceEq, Int.reduceNeg, reduceIte]
 refine ⟨fun i v0 v1 v2 v3 v4 v5 v6 v7 v8 v9 v10 v11 v12 v13 v14 v15 v16 v17 v18 v19 v20 v21 v22 v23 v24 v25 v26 v27 v28 v29 v30 v31 m => 0 ≤ i ∧ i ≤ 32 ∧ GoodL (zOf p0 (b32 p1) (b32 p2)) (b32 p1) i [v0, v1, v2, v3, v4, v5, v6, v7, v8, v9, v10, v11, v12, v13, v14, v15, v16, v17, v18, v19, v20, v21, v22, v23, v24, v25, v26, v27, v28, v29, v30, v31] ∧ m = (32 - i).toNat, ⟨_, by omega, by omega, fun k hk => ?_, rfl⟩, fun i v0 v1 v2 v3 v4 v5 v6 v7 v8 v9 v10 v11 v12 v13 v14 v15 v16 v17 v18 v19 v20 v21 v22 v23 v24 v25 v26 v27 v28 v29 v30 v31 m hb hI => ?_⟩
 ·rw [if_neg (by omega)]
  show ((List.range 32).map fun i : Nat => bitZ p1 i).getD k 0 = _
  simp only [List.getD_eq_getElem?_getD, List.getElem?_map, List.getElem?_range hk, Option.map_some, Option.getD_some, bitZ_bt]
 clear hb
 obtain ⟨i0, i1, hl, rfl⟩ := hI
 have wi : IntKind.wrap .i64 (i + 1) = i + 1 := w64 (by omega) (by omega)
 have hc : (consZ v0 (consZ v1 (consZ v2 (consZ v3 (consZ v4 (consZ v5 (consZ v6 (consZ v7 (consZ v8 (consZ v9 (consZ v10 (consZ v11 (consZ v12 (consZ v13 (consZ v14 (consZ v15 (consZ v16 (consZ v17 (consZ v18 (consZ v19 (consZ v20 (consZ v21 (consZ v22 (consZ v23 (consZ v24 (consZ v25 (consZ v26 (consZ v27 (consZ v28 (consZ v29 (consZ v30 (consZ v31 0)))))))))))))))))))))))))))))))) = chn [v0, v1, v2, v3, v4, v5, v6, v7, v8, v9, v10, v11, v12, v13, v14, v15, v16, v17, v18, v19, v20, v21, v22, v23, v24, v25, v26, v27, v28, v29, v30, v31] := rfl
 simp only [wi, hc]
 refine ⟨fun h1 => ?_, fun h1 => ?_⟩
 ·have hx : rdZ (chn [v0, v1, v2, v3, v4, v5, v6, v7, v8, v9, v10, v11, v12, v13, v14, v15, v16, v17, v18, v19, v20, v21, v22, v23, v24, v25, v26, v27, v28, v29, v30, v31]) i = bt (b32 p1) i.toNat := by
   have := hl i.toNat (by omega)
   rw [show i = ((i.toNat : Nat) : Int) by omega, rd_chn, this, if_neg (by omega), Int.toNat_natCast]
  have hy := bits_rdE p2 i i0 h1
  rw [hx, hy]
  have bA := btE_bd (b32 p1) i.toNat
  have bB := btE_bd (b32 p2) i.toNat
  have wA : IntKind.wrap .i64 (bt (b32 p1) i.toNat) = bt (b32 p1) i.toNat := w64 (by omega) (by omega)
  have wB : IntKind.wrap .i64 (bt (b32 p2) i.toNat) = bt (b32 p2) i.toNat := w64 (by omega) (by omega)
  have wZ : ∀ Z : BitVec 32, IntKind.wrap .i64 (bt Z i.toNat) = bt Z i.toNat := fun Z => by have := btE_bd Z i.toNat; exact w64 (by omega) (by omega)
  have m1 : IntKind.wrap .i64 (bt (b32 p1) i.toNat * bt (b32 p2) i.toNat) = bt (b32 p1 &&& b32 p2) i.toNat := by rw [bt_and, wZ]
  have m2 : IntKind.wrap .i64 (bt (b32 p1) i.toNat + bt (b32 p2) i.toNat) = bt (b32 p1) i.toNat + bt (b32 p2) i.toNat := w64 (by omega) (by omega)
  have m3 : IntKind.wrap .i64 (1 - bt (b32 p2) i.toNat) = 1 - bt (b32 p2) i.toNat := w64 (by omega) (by omega)
  have m4 := bt_or (b32 p1) (b32 p2) i.toNat
  have m5 := bt_xor (b32 p1) (b32 p2) i.toNat
  have m6 := bt_bic (b32 p1) (b32 p2) i.toNat (by omega)
  rw [bt_and] at m4
  simp only [wA, wB]
  refine ⟨fun k0 => ⟨i0, ?_⟩, fun k0 => ⟨fun k1 => ⟨i0, ?_⟩, fun k1 => ⟨fun k2 => ⟨i0, ?_⟩, fun k2 => ⟨i0, ?_⟩⟩⟩⟩
  ·rintro _ rfl _ _ rfl _
   simp only [m1]
   refine ⟨_, ?_, by omega, by omega, goodL_step hl i0 (x := bt (b32 p1 &&& b32 p2) i.toNat) ?_, rfl⟩
   ·omega
   ·rw [wZ]; unfold zOf; rw [if_pos k0]
  ·rintro _ rfl _ _ rfl _ _ rfl _
   simp only [m1, m2, m4, wZ]
   refine ⟨_, ?_, by omega, by omega, goodL_step hl i0 (x := bt (b32 p1 ||| b32 p2) i.toNat) ?_, rfl⟩
   ·omega
   ·rw [wZ]; unfold zOf; rw [if_neg k0, if_pos k1]
  ·rintro _ rfl _ _ rfl _ _ rfl _
   simp only [m2, m5]
   refine ⟨_, ?_, by omega, by omega, goodL_step hl i0 (x := bt (b32 p1 ^^^ b32 p2) i.toNat) ?_, rfl⟩
   ·omega
   ·rw [wZ]; unfold zOf; rw [if_neg k0, if_neg k1, if_pos k2]
  ·rintro _ rfl _ _ rfl _ _ rfl _
   simp only [m3, m6, wZ]
   refine ⟨_, ?_, by omega, by omega, goodL_step hl i0 (x := bt (b32 p1 &&& ~~~ b32 p2) i.toNat) ?_, rfl⟩
   ·omega
   ·rw [wZ]; unfold zOf; rw [if_neg k0, if_neg k1, if_neg k2]
 ·rintro _ rfl _
  have e : i = 32 := by omega
  subst e
  refine Eq.trans (of_word (zOf p0 (b32 p1) (b32 p2)) (fun k : Nat => ([v0, v1, v2, v3, v4, v5, v6, v7, v8, v9, v10, v11, v12, v13, v14, v15, v16, v17, v18, v19, v20, v21, v22, v23, v24, v25, v26, v27, v28, v29, v30, v31] : List Int).getD k 0) fun k hk => (hl k hk).trans (if_pos (by omega))) ?_
  unfold zOf
  by_cases k0 : p0 = 0
  ·rw [if_pos k0, if_pos k0, alu5 l_p1 u_p1 l_p2 u_p2]
  ·rw [if_neg k0, if_neg k0]
   by_cases k1 : p0 = 1
   ·rw [if_pos k1, if_pos k1, alu6 l_p1 u_p1 l_p2 u_p2]
   ·rw [if_neg k1, if_neg k1]
    by_cases k2 : p0 = 2
    ·rw [if_pos k2, if_pos k2, alu7 l_p1 u_p1 l_p2 u_p2]
    ·rw [if_neg k2, if_neg k2, alu8 l_p1 u_p1 l_p2 u_p2]
theorem plain (i v ro p) : statR 2 rc tree ⟨i, fN, v, ro, p⟩ = P (i 0) (i 1) (i 2) := by kernel_rfl
theorem ran : ranR us (fun f i => if f = 109 then (match i with | 3 => .tmpl (some mk3) | _ => .auto) else .auto) rc 2 tree = true := by kernel_rfl
theorem fineT : fineR 2 rc tree = true := by kernel_rfl
theorem ok : RcOk (cxOf 2) rc := okR us_ok ran fineT okb fun i v ro p hρ hcap hpre => by rw [plain]; have q := hρ.hi; exact holds (i 0) (i 1) (i 2) (q 0 _ rfl).1 (q 0 _ rfl).2 (q 1 _ rfl).1 (q 1 _ rfl).2 (q 2 _ rfl).1 (q 2 _ rfl).2
end CREach
namespace CRMulq
def rc : Rc := ⟨120, [none, none], [.int .i32, .int .i32], [], .one, [.int .i32 (.f 63 (.c 20) (.v 0) (.v 1))]⟩
theorem okb : rc.ok = true := by kernel_rfl
noncomputable def us : SMs := fun Γ ins n => smH (cxG n Γ ins) [] (smR (cxG n Γ ins) [])
theorem us_ok : SMsOk us := fun Γ ins n => smH_ok (tabsG n Γ ins) (rhs_nil _) (smR_ok (tabsG n Γ ins) (rcs_nil _))
def Q0 : E := (.b .pmul .i64 (.v 0) (.v 1))
def Q1 : E := (.b .rem .i64 Q0 (.c 1073741824))
def Q2 : E := (tp Q1 (.c 1073741824))
def Q3 : E := (.b .psub .i64 Q0 Q2)
def Q4 : E := (.b .quo .i64 Q3 (.c 1073741824))
def Q5 : E := (tp Q4 (.c 1))
def Q6 : E := (t6 Q5)
def Q7 : E := (.b .psub .i64 Q0 Q1)
def Q8 : E := (.b .quo .i64 Q7 (.c 1073741824))
def Q9 : E := (tp Q8 (.c 1))
def Q10 : E := (t6 Q9)
def tree : TT (List E) :=
 (.br (tk Q1 (.c 0)) (.br (tl (.c 536870912) Q2) (.br (tk Q6 (.c (-2147483648))) (.leaf [(.c (-2147483648))]) (.br (tk (.c 2147483647) Q6) (.leaf [(.c 2147483647)]) (.leaf [(t3 Q5)]))) (.br (tk Q4 (.c (-2147483648))) (.leaf [(.c (-2147483648))]) (.br (tk (.c 2147483647) Q4) (.leaf [(.c 2147483647)]) (.leaf [(t3 Q4)])))) (.br (tl (.c 536870912) Q1) (.br (tk Q10 (.c (-2147483648))) (.leaf [(.c (-2147483648))]) (.br (tk (.c 2147483647) Q10) (.leaf [(.c 2147483647)]) (.leaf [(t3 Q9)]))) (.br (tk Q8 (.c (-2147483648))) (.leaf [(.c (-2147483648))]) (.br (tk (.c 2147483647) Q8) (.leaf [(.c 2147483647)]) (.leaf [(t3 Q8)])))))
noncomputable def sq0 (a b : Int) : Int := (BO.ev .quo .i64 ((a * b) - ((BO.ev .rem .i64 (a * b) 1073741824) + 1073741824)) 1073741824)
noncomputable def sq1 (a b : Int) : Int := (BO.ev .quo .i64 ((a * b) - (BO.ev .rem .i64 (a * b) 1073741824)) 1073741824)
def sL0 (a b z0 : Int) : Prop := (z0 : Int) = (aluV 20 a b) ∧ True
def P (a b : Int) : Prop :=
 (Pb (Pl (BO.ev .rem .i64 (a * b) 1073741824) 0) (Pb (PL 536870912 ((BO.ev .rem .i64 (a * b) 1073741824) + 1073741824)) (Pb (Pl (W6 ((sq0 a b) + 1)) (-2147483648)) (((-2147483648) : Int) = (aluV 20 a b) ∧ True) (Pb (Pl 2147483647 (W6 ((sq0 a b) + 1))) ((2147483647 : Int) = (aluV 20 a b) ∧ True) (sL0 a b (W3 ((sq0 a b) + 1))))) (Pb (Pl (sq0 a b) (-2147483648)) (((-2147483648) : Int) = (aluV 20 a b) ∧ True) (Pb (Pl 2147483647 (sq0 a b)) ((2147483647 : Int) = (aluV 20 a b) ∧ True) (sL0 a b (W3 (sq0 a b)))))) (Pb (PL 536870912 (BO.ev .rem .i64 (a * b) 1073741824)) (Pb (Pl (W6 ((sq1 a b) + 1)) (-2147483648)) (((-2147483648) : Int) = (aluV 20 a b) ∧ True) (Pb (Pl 2147483647 (W6 ((sq1 a b) + 1))) ((2147483647 : Int) = (aluV 20 a b) ∧ True) (sL0 a b (W3 ((sq1 a b) + 1))))) (Pb (Pl (sq1 a b)
 (-2147483648)) (((-2147483648) : Int) = (aluV 20 a b) ∧ True) (Pb (Pl 2147483647 (sq1 a b)) ((2147483647 : Int) = (aluV 20 a b) ∧ True) (((W3 (sq1 a b)) : Int) = (aluV 20 a b) ∧ True)))))
theorem sat_form (m : Int) : BO.ev .min .i64 (BO.ev .max .i64 m (-2147483648)) 2147483647 = if m < -2147483648 then -2147483648 else if 2147483647 < m then 2147483647 else m := by
 simp only [BO.ev]
 repeat' split
 all_goals omega
theorem andOne (x : Int) : BO.ev .and .i64 x 1 = x % 2 := by
 show IntKind.wrap .i64 ((BitVec.ofInt 64 x &&& BitVec.ofInt 64 1).toNat : Int) = _
 have e2 : (BitVec.ofInt 64 1).toNat = 2 ^ 1 - 1 := by decide
 rw [BitVec.toNat_and, e2, Nat.and_two_pow_sub_one_eq_mod]
 have e1 : ((BitVec.ofInt 64 x).toNat : Int) = x % 18446744073709551616 := by
  rw [BitVec.toNat_ofInt]
  have h : (((2 ^ 64 : Nat)) : Int) = 18446744073709551616 := by decide
  rw [h]; omega
 have e3 : (((BitVec.ofInt 64 x).toNat % 2 ^ 1 : Nat) : Int) = x % 2 := by omega
 rw [e3]
 exact w64 (by omega) (by omega)
theorem tmM (x : Int) : BO.ev .rem .i64 x 1073741824 = if 0 ≤ x then x % 1073741824 else -((-x) % 1073741824) := by
 show x.tmod 1073741824 = _
 split
 ·exact Int.tmod_eq_emod_of_nonneg (by assumption)
 ·rename_i h
  rw [← Int.neg_neg x, Int.neg_tmod, Int.tmod_eq_emod_of_nonneg (by omega), Int.neg_neg]
theorem tdM {x : Int} (h1 : -9223372036854775808 ≤ x) (h2 : x ≤ 9223372036854775807) : BO.ev .quo .i64 x 1073741824 = if 0 ≤ x then x / 1073741824 else -((-x) / 1073741824) := by
 show IntKind.wrap .i64 (x.tdiv 1073741824) = _
 have e : x.tdiv 1073741824 = if 0 ≤ x then x / 1073741824 else -((-x) / 1073741824) := by
  split
  ·exact Int.tdiv_eq_ediv_of_nonneg (by assumption)
  ·rename_i h
   rw [← Int.neg_neg x, Int.neg_tdiv, Int.tdiv_eq_ediv_of_nonneg (by omega), Int.neg_neg]
 rw [e, w64 (by split <;> omega) (by split <;> omega)]
theorem aluM {x n : Int} (x1 : -2147483648 ≤ x) (x2 : x ≤ 2147483647) (n1 : -2147483648 ≤ n) (n2 : n ≤ 2147483647) : aluV 20 x n = (let m := x * n / 1073741824 + x * n / 536870912 % 2; if m < -2147483648 then -2147483648 else if 2147483647 < m then 2147483647 else m) := by
 rw [aluV_of (aluP_9 (by decide) (by decide) (by decide) (by decide)) x1 x2 n1 n2]
 unfold aluX
 simp only [Int.reduceEq, if_false, if_true]
 rw [sat_form, andOne, shr_ev, shr_ev]; rfl
theorem holds (p0 p1 : Int) (l_p0 : -2147483648 ≤ p0) (u_p0 : p0 ≤ 2147483647) (l_p1 : -2147483648 ≤ p1) (u_p1 : p1 ≤ 2147483647) : P p0 p1 := by
 delta P sq0 sq1 sL0 Pb PL Pl W6 W3
 have hm := mul_in l_p0 u_p0 l_p1 u_p1
 rw [aluM l_p0 u_p0 l_p1 u_p1]
 generalize p0 * p1 = q at *
 have r0 := tmM q
 have d1 : BO.ev .rem .i64 q 1073741824 < 0 → BO.ev .quo .i64 (q - (BO.ev .rem .i64 q 1073741824 + 1073741824)) 1073741824 = q / 1073741824 := fun h => by rw [tdM (by rw [r0] at h ⊢; split at h <;> omega) (by rw [r0] at h ⊢; split at h <;> omega), r0]; rw [r0] at h; split at h <;> split <;> omega
 have d2 : 0 ≤ BO.ev .rem .i64 q 1073741824 → BO.ev .quo .i64 (q - BO.ev .rem .i64 q 1073741824) 1073741824 = q / 1073741824 := fun h => by rw [tdM (by rw [r0] at h ⊢; split at h <;> omega) (by rw [r0] at h ⊢; split at h <;> omega), r0]; rw [r0] at h; split at h <;> split <;> omega
 have r1 : BO.ev .rem .i64 q 1073741824 < 0 → BO.ev .rem .i64 q 1073741824 + 1073741824 = q % 1073741824 := fun h => by rw [r0] at h ⊢; split at h <;> omega
 have r2 : 0 ≤ BO.ev .rem .i64 q 1073741824 → BO.ev .rem .i64 q 1073741824 = q % 1073741824 := fun h => by rw [r0] at h ⊢; split at h <;> omega
 have w1 : IntKind.wrap .i64 (q / 1073741824 + 1) = q / 1073741824 + 1 := w64 (by omega) (by omega)
 have w2 : ∀ x : Int, ¬ x < -2147483648 → ¬ 2147483647 < x → IntKind.wrap .i32 x = x := fun x h1 h2 => wi32 (by omega) (by omega)
 simp only [nrm, Int.reduceEq, Int.reduceNeg, reduceIte]
 generalize BO.ev .rem .i64 q 1073741824 = r at *
 refine ⟨fun h => ?_, fun h => ?_⟩
 ·rw [d1 h, r1 h, w1]
  refine ⟨fun h2 => ⟨fun h3 => ?_, fun h3 => ⟨fun h4 => ?_, fun h4 => ?_⟩⟩, fun h2 => ⟨fun h3 => ?_, fun h3 => ⟨fun h4 => ?_, fun h4 => ?_⟩⟩⟩
  all_goals first | (rw [w2 _ (by omega) (by omega)]; repeat' split) | (repeat' split)
  all_goals omega
 ·rw [d2 h, r2 h, w1]
  refine ⟨fun h2 => ⟨fun h3 => ?_, fun h3 => ⟨fun h4 => ?_, fun h4 => ?_⟩⟩, fun h2 => ⟨fun h3 => ?_, fun h3 => ⟨fun h4 => ?_, fun h4 => ?_⟩⟩⟩
  all_goals first | (rw [w2 _ (by omega) (by omega)]; repeat' split) | (repeat' split)
  all_goals omega
theorem plain (i v ro p) : statR 2 rc tree ⟨i, fN, v, ro, p⟩ = P (i 0) (i 1) := by kernel_rfl
theorem ran : ranR us (fun f _ => if [152].contains f then .unroll 400 else .auto) rc 2 tree = true := by kernel_rfl
theorem fineT : fineR 2 rc tree = true := by kernel_rfl
theorem ok : RcOk (cxOf 2) rc := okR us_ok ran fineT okb fun i v ro p hρ hcap hpre => by rw [plain]; have q := hρ.hi; exact holds (i 0) (i 1) (q 0 _ rfl).1 (q 0 _ rfl).2 (q 1 _ rfl).1 (q 1 _ rfl).2
end CRMulq
namespace CRMulr
def rc : Rc := ⟨121, [none, none], [.int .i32, .int .i32], [], .one, [.int .i32 (.f 63 (.c 21) (.v 0) (.v 1))]⟩
theorem okb : rc.ok = true := by kernel_rfl
noncomputable def us : SMs := fun Γ ins n => smH (cxG n Γ ins) [] (smR (cxG n Γ ins) [])
theorem us_ok : SMsOk us := fun Γ ins n => smH_ok (tabsG n Γ ins) (rhs_nil _) (smR_ok (tabsG n Γ ins) (rcs_nil _))
def Q0 : E := (.b .pmul .i64 (.v 0) (.v 1))
def Q1 : E := (.b .rem .i64 Q0 (.c 65536))
def Q2 : E := (tp Q1 (.c 65536))
def Q3 : E := (.b .psub .i64 Q0 Q2)
def Q4 : E := (.b .quo .i64 Q3 (.c 65536))
def Q5 : E := (tp Q4 (.c 1))
def Q6 : E := (t6 Q5)
def Q7 : E := (.b .psub .i64 Q0 Q1)
def Q8 : E := (.b .quo .i64 Q7 (.c 65536))
def Q9 : E := (tp Q8 (.c 1))
def Q10 : E := (t6 Q9)
def tree : TT (List E) :=
 (.br (tk Q1 (.c 0)) (.br (tl (.c 32768) Q2) (.br (tk Q6 (.c (-2147483648))) (.leaf [(.c (-2147483648))]) (.br (tk (.c 2147483647) Q6) (.leaf [(.c 2147483647)]) (.leaf [(t3 Q5)]))) (.br (tk Q4 (.c (-2147483648))) (.leaf [(.c (-2147483648))]) (.br (tk (.c 2147483647) Q4) (.leaf [(.c 2147483647)]) (.leaf [(t3 Q4)])))) (.br (tl (.c 32768) Q1) (.br (tk Q10 (.c (-2147483648))) (.leaf [(.c (-2147483648))]) (.br (tk (.c 2147483647) Q10) (.leaf [(.c 2147483647)]) (.leaf [(t3 Q9)]))) (.br (tk Q8 (.c (-2147483648))) (.leaf [(.c (-2147483648))]) (.br (tk (.c 2147483647) Q8) (.leaf [(.c 2147483647)]) (.leaf [(t3 Q8)])))))
noncomputable def sq0 (a b : Int) : Int := (BO.ev .quo .i64 ((a * b) - ((BO.ev .rem .i64 (a * b) 65536) + 65536)) 65536)
noncomputable def sq1 (a b : Int) : Int := (BO.ev .quo .i64 ((a * b) - (BO.ev .rem .i64 (a * b) 65536)) 65536)
def P (a b : Int) : Prop :=
 (Pb (Pl (BO.ev .rem .i64 (a * b) 65536) 0) (Pb (PL 32768 ((BO.ev .rem .i64 (a * b) 65536) + 65536)) (Pb (Pl (W6 ((sq0 a b) + 1)) (-2147483648)) (((-2147483648) : Int) = (aluV 21 a b) ∧ True) (Pb (Pl 2147483647 (W6 ((sq0 a b) + 1))) ((2147483647 : Int) = (aluV 21 a b) ∧ True) (((W3 ((sq0 a b) + 1)) : Int) = (aluV 21 a b) ∧ True))) (Pb (Pl (sq0 a b) (-2147483648)) (((-2147483648) : Int) = (aluV 21 a b) ∧ True) (Pb (Pl 2147483647 (sq0 a b)) ((2147483647 : Int) = (aluV 21 a b) ∧ True) (((W3 (sq0 a b)) : Int) = (aluV 21 a b) ∧ True)))) (Pb (PL 32768 (BO.ev .rem .i64 (a * b) 65536)) (Pb (Pl (W6 ((sq1 a b) + 1)) (-2147483648)) (((-2147483648) : Int) = (aluV 21 a b) ∧ True) (Pb (Pl 2147483647 (W6 ((sq1 a b) + 1))) ((2147483647 : Int) = (aluV 21 a b) ∧ True) (((W3 ((sq1 a b) + 1)) : Int) = (aluV
 21 a b) ∧ True))) (Pb (Pl (sq1 a b) (-2147483648)) (((-2147483648) : Int) = (aluV 21 a b) ∧ True) (Pb (Pl 2147483647 (sq1 a b)) ((2147483647 : Int) = (aluV 21 a b) ∧ True) (((W3 (sq1 a b)) : Int) = (aluV 21 a b) ∧ True)))))
theorem sat_form (m : Int) : BO.ev .min .i64 (BO.ev .max .i64 m (-2147483648)) 2147483647 = if m < -2147483648 then -2147483648 else if 2147483647 < m then 2147483647 else m := by
 simp only [BO.ev]
 repeat' split
 all_goals omega
theorem andOne (x : Int) : BO.ev .and .i64 x 1 = x % 2 := by
 show IntKind.wrap .i64 ((BitVec.ofInt 64 x &&& BitVec.ofInt 64 1).toNat : Int) = _
 have e2 : (BitVec.ofInt 64 1).toNat = 2 ^ 1 - 1 := by decide
 rw [BitVec.toNat_and, e2, Nat.and_two_pow_sub_one_eq_mod]
 have e1 : ((BitVec.ofInt 64 x).toNat : Int) = x % 18446744073709551616 := by
  rw [BitVec.toNat_ofInt]
  have h : (((2 ^ 64 : Nat)) : Int) = 18446744073709551616 := by decide
  rw [h]; omega
 have e3 : (((BitVec.ofInt 64 x).toNat % 2 ^ 1 : Nat) : Int) = x % 2 := by omega
 rw [e3]
 exact w64 (by omega) (by omega)
theorem tmM (x : Int) : BO.ev .rem .i64 x 65536 = if 0 ≤ x then x % 65536 else -((-x) % 65536) := by
 show x.tmod 65536 = _
 split
 ·exact Int.tmod_eq_emod_of_nonneg (by assumption)
 ·rename_i h
  rw [← Int.neg_neg x, Int.neg_tmod, Int.tmod_eq_emod_of_nonneg (by omega), Int.neg_neg]
theorem tdM {x : Int} (h1 : -9223372036854775808 ≤ x) (h2 : x ≤ 9223372036854775807) : BO.ev .quo .i64 x 65536 = if 0 ≤ x then x / 65536 else -((-x) / 65536) := by
 show IntKind.wrap .i64 (x.tdiv 65536) = _
 have e : x.tdiv 65536 = if 0 ≤ x then x / 65536 else -((-x) / 65536) := by
  split
  ·exact Int.tdiv_eq_ediv_of_nonneg (by assumption)
  ·rename_i h
   rw [← Int.neg_neg x, Int.neg_tdiv, Int.tdiv_eq_ediv_of_nonneg (by omega), Int.neg_neg]
 rw [e, w64 (by split <;> omega) (by split <;> omega)]
theorem aluM {x n : Int} (x1 : -2147483648 ≤ x) (x2 : x ≤ 2147483647) (n1 : -2147483648 ≤ n) (n2 : n ≤ 2147483647) : aluV 21 x n = (let m := x * n / 65536 + x * n / 32768 % 2; if m < -2147483648 then -2147483648 else if 2147483647 < m then 2147483647 else m) := by
 rw [aluV_of (aluP_9 (by decide) (by decide) (by decide) (by decide)) x1 x2 n1 n2]
 unfold aluX
 simp only [Int.reduceEq, if_false, if_true]
 rw [sat_form, andOne, shr_ev, shr_ev]; rfl
theorem holds (p0 p1 : Int) (l_p0 : -2147483648 ≤ p0) (u_p0 : p0 ≤ 2147483647) (l_p1 : -2147483648 ≤ p1) (u_p1 : p1 ≤ 2147483647) : P p0 p1 := by
 delta P sq0 sq1 Pb PL Pl W6 W3
 have hm := mul_in l_p0 u_p0 l_p1 u_p1
 rw [aluM l_p0 u_p0 l_p1 u_p1]
 generalize p0 * p1 = q at *
 have r0 := tmM q
 have d1 : BO.ev .rem .i64 q 65536 < 0 → BO.ev .quo .i64 (q - (BO.ev .rem .i64 q 65536 + 65536)) 65536 = q / 65536 := fun h => by rw [tdM (by rw [r0] at h ⊢; split at h <;> omega) (by rw [r0] at h ⊢; split at h <;> omega), r0]; rw [r0] at h; split at h <;> split <;> omega
 have d2 : 0 ≤ BO.ev .rem .i64 q 65536 → BO.ev .quo .i64 (q - BO.ev .rem .i64 q 65536) 65536 = q / 65536 := fun h => by rw [tdM (by rw [r0] at h ⊢; split at h <;> omega) (by rw [r0] at h ⊢; split at h <;> omega), r0]; rw [r0] at h; split at h <;> split <;> omega
 have r1 : BO.ev .rem .i64 q 65536 < 0 → BO.ev .rem .i64 q 65536 + 65536 = q % 65536 := fun h => by rw [r0] at h ⊢; split at h <;> omega
 have r2 : 0 ≤ BO.ev .rem .i64 q 65536 → BO.ev .rem .i64 q 65536 = q % 65536 := fun h => by rw [r0] at h ⊢; split at h <;> omega
 have w1 : IntKind.wrap .i64 (q / 65536 + 1) = q / 65536 + 1 := w64 (by omega) (by omega)
 have w2 : ∀ x : Int, ¬ x < -2147483648 → ¬ 2147483647 < x → IntKind.wrap .i32 x = x := fun x h1 h2 => wi32 (by omega) (by omega)
 simp only [nrm, Int.reduceEq, Int.reduceNeg, reduceIte]
 generalize BO.ev .rem .i64 q 65536 = r at *
 refine ⟨fun h => ?_, fun h => ?_⟩
 ·rw [d1 h, r1 h, w1]
  refine ⟨fun h2 => ⟨fun h3 => ?_, fun h3 => ⟨fun h4 => ?_, fun h4 => ?_⟩⟩, fun h2 => ⟨fun h3 => ?_, fun h3 => ⟨fun h4 => ?_, fun h4 => ?_⟩⟩⟩
  all_goals first | (rw [w2 _ (by omega) (by omega)]; repeat' split) | (repeat' split)
  all_goals omega
 ·rw [d2 h, r2 h, w1]
  refine ⟨fun h2 => ⟨fun h3 => ?_, fun h3 => ⟨fun h4 => ?_, fun h4 => ?_⟩⟩, fun h2 => ⟨fun h3 => ?_, fun h3 => ⟨fun h4 => ?_, fun h4 => ?_⟩⟩⟩
  all_goals first | (rw [w2 _ (by omega) (by omega)]; repeat' split) | (repeat' split)
  all_goals omega
theorem plain (i v ro p) : statR 2 rc tree ⟨i, fN, v, ro, p⟩ = P (i 0) (i 1) := by kernel_rfl
theorem ran : ranR us (fun f _ => if [152].contains f then .unroll 400 else .auto) rc 2 tree = true := by kernel_rfl
theorem fineT : fineR 2 rc tree = true := by kernel_rfl
theorem ok : RcOk (cxOf 2) rc := okR us_ok ran fineT okb fun i v ro p hρ hcap hpre => by rw [plain]; have q := hρ.hi; exact holds (i 0) (i 1) (q 0 _ rfl).1 (q 0 _ rfl).2 (q 1 _ rfl).1 (q 1 _ rfl).2
end CRMulr
namespace CRQuot
def rc : Rc := ⟨122, [none, none, none], [.int .i32, .int .i32, .bool], [(.v 1)], .one, [.int .i32 (.f 63 (.ite (.b .eq .i64 (.v 2) (.c 0)) (.c 22) (.c 23)) (.v 0) (.v 1))]⟩
theorem okb : rc.ok = true := by kernel_rfl
noncomputable def us : SMs := fun Γ ins n => smH (cxG n Γ ins) [] (smR (cxG n Γ ins) [CRLow.rc])
theorem us_ok : SMsOk us := fun Γ ins n => smH_ok (tabsG n Γ ins) (rhs_nil _) (smR_ok (tabsG n Γ ins) (rcs_cons CRLow.okb (rc_n CRLow.ok) (rcs_nil _)))
def Q0 : E := (tk (.v 0) (.c 0))
def Q1 : E := (tk (.v 1) (.c 0))
def Q2 : E := (.b .psub .i64 (.c 0) (.v 1))
def Q3 : E := (te Q2 (.c 0))
def Q4 : E := (.nt Q0)
def Q5 : E := (.nt Q1)
def Q6 : E := (tn Q4 Q5)
def Q7 : E := (.b .psub .i64 (.c 0) (.v 0))
def Q8 : E := (.b .quo .i64 Q7 Q2)
def Q9 : E := (.b .psub .i64 (.c 0) Q8)
def Q10 : E := (t6 Q9)
def Q11 : E := (.cl 1000 (-9223372036854775808) 9223372036854775807)
def Q12 : E := (t3 Q11)
def Q13 : E := (.cl 1000 (-2147483648) 2147483647)
def Q14 : E := (.b .quo .i64 Q7 (.v 1))
def Q15 : E := (.b .psub .i64 (.c 0) Q14)
def Q16 : E := (t6 Q15)
def Q17 : E := (.b .quo .i64 (.v 0) Q2)
def Q18 : E := (.b .psub .i64 (.c 0) Q17)
def Q19 : E := (t6 Q18)
def Q20 : E := (.b .quo .i64 (.v 0) (.v 1))
def Q21 : E := (.b .psub .i64 (.c 0) Q20)
def Q22 : E := (t6 Q21)
def tree : TT (List E) :=
 (.br Q0 (.br Q1 (.br Q3 (.bad 3) (.br Q6 (.br (.v 2) (.new 1000 (t6 (.b .psub .i64 (.v 0) (t6 (.b .pmul .i64 Q10 (.v 1))))) (.leaf [Q12])) (.new 1000 Q10 (.leaf [Q12]))) (.br (.v 2) (.new 1000 (t6 (.b .psub .i64 (.v 0) (t6 (.b .pmul .i64 Q8 (.v 1))))) (.leaf [Q12])) (.new 1000 (t3 Q8) (.leaf [Q13]))))) (.br (te (.v 1) (.c 0)) (.bad 3) (.br Q6 (.br (.v 2) (.new 1000 (t6 (.b .psub .i64 (.v 0) (t6 (.b .pmul .i64 Q16 (.v 1))))) (.leaf [Q12])) (.new 1000 Q16 (.leaf [Q12]))) (.br (.v 2) (.new 1000 (t6 (.b .psub .i64 (.v 0) (t6 (.b .pmul .i64 Q14 (.v 1))))) (.leaf [Q12])) (.new 1000 (t3 Q14) (.leaf [Q13])))))) (.br Q1 (.br Q3 (.bad 3) (.br Q6 (.br (.v 2) (.new 1000 (t6 (.b .psub .i64 (.v 0) (t6 (.b .pmul .i64 Q19 (.v 1))))) (.leaf [Q12])) (.new 1000 Q19 (.leaf [Q12]))) (.br (.v 2) (.new 1000
 (t6 (.b .psub .i64 (.v 0) (t6 (.b .pmul .i64 Q17 (.v 1))))) (.leaf [Q12])) (.new 1000 (t3 Q17) (.leaf [Q13]))))) (.br (te (.v 1) (.c 0)) (.bad 3) (.br Q6 (.br (.v 2) (.new 1000 (t6 (.b .psub .i64 (.v 0) (t6 (.b .pmul .i64 Q22 (.v 1))))) (.leaf [Q12])) (.new 1000 Q22 (.leaf [Q12]))) (.br (.v 2) (.new 1000 (t6 (.b .psub .i64 (.v 0) (t6 (.b .pmul .i64 Q20 (.v 1))))) (.leaf [Q12])) (.leaf [(t3 Q20)]))))))
def P (a b c : Int) : Prop :=
 (Pb (Pl a 0) (Pb (Pl b 0) (Pb (Pe (0 - b) 0) False (Pb (Pd (Pe (Pl a 0) 0) (Pe (Pl b 0) 0)) (Pb c (Pn (W6 (a - (W6 ((W6 (0 - (BO.ev .quo .i64 (0 - a) (0 - b)))) * b)))) (-9223372036854775808) 9223372036854775807 fun y0 => (((W3 y0) : Int) = (aluV (iteZ (Pe c 0) 22 23) a b) ∧ True)) (Pn (W6 (0 - (BO.ev .quo .i64 (0 - a) (0 - b)))) (-9223372036854775808) 9223372036854775807 fun y0 => (((W3 y0) : Int) = (aluV (iteZ (Pe c 0) 22 23) a b) ∧ True))) (Pb c (Pn (W6 (a - (W6 ((BO.ev .quo .i64 (0 - a) (0 - b)) * b)))) (-9223372036854775808) 9223372036854775807 fun y0 => (((W3 y0) : Int) = (aluV (iteZ (Pe c 0) 22 23) a b) ∧ True)) (Pn (W3 (BO.ev .quo .i64 (0 - a) (0 - b))) (-2147483648) 2147483647 fun y0 => ((y0 : Int) = (aluV (iteZ (Pe c 0) 22 23) a b) ∧ True))))) (Pb (Pe b 0) False (Pb (Pd (Pe (Pl
 a 0) 0) (Pe (Pl b 0) 0)) (Pb c (Pn (W6 (a - (W6 ((W6 (0 - (BO.ev .quo .i64 (0 - a) b))) * b)))) (-9223372036854775808) 9223372036854775807 fun y0 => (((W3 y0) : Int) = (aluV (iteZ (Pe c 0) 22 23) a b) ∧ True)) (Pn (W6 (0 - (BO.ev .quo .i64 (0 - a) b))) (-9223372036854775808) 9223372036854775807 fun y0 => (((W3 y0) : Int) = (aluV (iteZ (Pe c 0) 22 23) a b) ∧ True))) (Pb c (Pn (W6 (a - (W6 ((BO.ev .quo .i64 (0 - a) b) * b)))) (-9223372036854775808) 9223372036854775807 fun y0 => (((W3 y0) : Int) = (aluV (iteZ (Pe c 0) 22 23) a b) ∧ True)) (Pn (W3 (BO.ev .quo .i64 (0 - a) b)) (-2147483648) 2147483647 fun y0 => ((y0 : Int) = (aluV (iteZ (Pe c 0) 22 23) a b) ∧ True)))))) (Pb (Pl b 0) (Pb (Pe (0 - b) 0) False (Pb (Pd (Pe (Pl a 0) 0) (Pe (Pl b 0) 0)) (Pb c (Pn (W6 (a - (W6 ((W6 (0 - (BO.ev .quo
 .i64 a (0 - b)))) * b)))) (-9223372036854775808) 9223372036854775807 fun y0 => (((W3 y0) : Int) = (aluV (iteZ (Pe c 0) 22 23) a b) ∧ True)) (Pn (W6 (0 - (BO.ev .quo .i64 a (0 - b)))) (-9223372036854775808) 9223372036854775807 fun y0 => (((W3 y0) : Int) = (aluV (iteZ (Pe c 0) 22 23) a b) ∧ True))) (Pb c (Pn (W6 (a - (W6 ((BO.ev .quo .i64 a (0 - b)) * b)))) (-9223372036854775808) 9223372036854775807 fun y0 => (((W3 y0) : Int) = (aluV (iteZ (Pe c 0) 22 23) a b) ∧ True)) (Pn (W3 (BO.ev .quo .i64 a (0 - b))) (-2147483648) 2147483647 fun y0 => ((y0 : Int) = (aluV (iteZ (Pe c 0) 22 23) a b) ∧ True))))) (Pb (Pe b 0) False (Pb (Pd (Pe (Pl a 0) 0) (Pe (Pl b 0) 0)) (Pb c (Pn (W6 (a - (W6 ((W6 (0 - (BO.ev .quo .i64 a b))) * b)))) (-9223372036854775808) 9223372036854775807 fun y0 => (((W3 y0) : Int)
 = (aluV (iteZ (Pe c 0) 22 23) a b) ∧ True)) (Pn (W6 (0 - (BO.ev .quo .i64 a b))) (-9223372036854775808) 9223372036854775807 fun y0 => (((W3 y0) : Int) = (aluV (iteZ (Pe c 0) 22 23) a b) ∧ True))) (Pb c (Pn (W6 (a - (W6 ((BO.ev .quo .i64 a b) * b)))) (-9223372036854775808) 9223372036854775807 fun y0 => (((W3 y0) : Int) = (aluV (iteZ (Pe c 0) 22 23) a b) ∧ True)) (((W3 (BO.ev .quo .i64 a b)) : Int) = (aluV (iteZ (Pe c 0) 22 23) a b) ∧ True))))))
theorem nbq (x : Int) : bool01 (bool01 (decide (x < 0)) == 0) = if x < 0 then 0 else 1 := by by_cases h : x < 0 <;> simp [bool01, h]
theorem one_zero : ((1 : Int) = 0) = False := by simp
theorem zero_one : ((0 : Int) = 1) = False := by simp
theorem holds (p0 p1 p2 : Int) (l_p0 : -2147483648 ≤ p0) (u_p0 : p0 ≤ 2147483647) (l_p1 : -2147483648 ≤ p1) (u_p1 : p1 ≤ 2147483647) (l_p2 : 0 ≤ p2) (u_p2 : p2 ≤ 1) (h_pre0 : p1 ≠ 0) : P p0 p1 p2 := by
 delta P Pb Pn Pl Pe Pd W6 W3
 have hD : -2147483648 ≤ p0.tdiv p1 ∧ p0.tdiv p1 ≤ 2147483648 := by
  have h1 : (p0.tdiv p1).natAbs ≤ p0.natAbs := by rw [Int.natAbs_tdiv]; exact Nat.div_le_self _ _
  omega
 have hE : -2147483648 ≤ p0 - p0.tdiv p1 * p1 ∧ p0 - p0.tdiv p1 * p1 ≤ 2147483648 := by
  have h1 : p0 - p0.tdiv p1 * p1 = p0.tmod p1 := by rw [Int.tmod_def, Int.mul_comm]
  have h2 : (p0.tmod p1).natAbs ≤ p0.natAbs := by rw [Int.natAbs_tmod]; exact Nat.mod_le _ _
  omega
 have t1 : BO.ev .quo .i64 (0 - p0) (0 - p1) = p0.tdiv p1 := by
  show IntKind.wrap .i64 ((0 - p0).tdiv (0 - p1)) = _
  rw [Int.zero_sub, Int.zero_sub, Int.neg_tdiv, Int.tdiv_neg, Int.neg_neg, w64 (by omega) (by omega)]
 have t2 : BO.ev .quo .i64 (0 - p0) p1 = -(p0.tdiv p1) := by
  show IntKind.wrap .i64 ((0 - p0).tdiv p1) = _
  rw [Int.zero_sub, Int.neg_tdiv, w64 (by omega) (by omega)]
 have t3 : BO.ev .quo .i64 p0 (0 - p1) = -(p0.tdiv p1) := by
  show IntKind.wrap .i64 (p0.tdiv (0 - p1)) = _
  rw [Int.zero_sub, Int.tdiv_neg, w64 (by omega) (by omega)]
 have t4 : BO.ev .quo .i64 p0 p1 = p0.tdiv p1 := w64 (by omega) (by omega)
 have r22 : aluV 22 p0 p1 = IntKind.wrap .i32 (p0.tdiv p1) := by
  rw [aluV_of (by unfold aluP; omega) l_p0 u_p0 l_p1 u_p1, ← t4]; rfl
 have r23 : aluV 23 p0 p1 = IntKind.wrap .i32 (p0 - p0.tdiv p1 * p1) := by
  have : aluX 23 p0 p1 = IntKind.wrap .i32 (p0 - IntKind.wrap .i64 (BO.ev .quo .i64 p0 p1 * p1)) := rfl
  rw [aluV_of (by unfold aluP; omega) l_p0 u_p0 l_p1 u_p1, this, t4, w64 (x := p0.tdiv p1 * p1) (by omega) (by omega)]
 have m1 : IntKind.wrap .i64 (p0.tdiv p1 * p1) = p0.tdiv p1 * p1 := w64 (by omega) (by omega)
 have m2 : IntKind.wrap .i64 (p0 - p0.tdiv p1 * p1) = p0 - p0.tdiv p1 * p1 := w64 (by omega) (by omega)
 have m3 : IntKind.wrap .i64 (p0.tdiv p1) = p0.tdiv p1 := w64 (by omega) (by omega)
 have m4 : (0 : Int) - -(p0.tdiv p1) = p0.tdiv p1 := by omega
 simp only [nbq, t1, t2, t3, t4]
 simp only [nrm, Int.reduceEq, Int.reduceNeg, reduceIte]
 refine ⟨fun c1 => ⟨fun c2 => ⟨fun h => by omega, fun _ => ?_⟩, fun c2 => ⟨fun h => h_pre0 h, fun _ => ?_⟩⟩, fun c1 => ⟨fun c2 => ⟨fun h => by omega, fun _ => ?_⟩, fun c2 => ⟨fun h => h_pre0 h, fun _ => ?_⟩⟩⟩
 ·simp only [if_pos c1, if_pos c2, not_true_eq_false, false_implies, true_and, forall_const]
  refine ⟨fun h => ?_, fun h => ?_⟩
  ·rintro _ rfl _; rw [if_neg h, m1, m2, r23]
  ·rintro _ rfl _; rw [if_pos h, r22]
 ·simp only [if_pos c1, if_neg (show ¬ p1 < 0 by omega), zero_one, not_false_eq_true, forall_const, false_implies, and_true]
  refine ⟨fun h => ?_, fun h => ?_⟩
  ·rintro _ rfl _; rw [if_neg h, m4, m3, m1, m2, r23]
  ·rintro _ rfl _; rw [if_pos h, m4, m3, r22]
 ·simp only [if_neg (show ¬ p0 < 0 by omega), if_pos c2, one_zero, not_false_eq_true, forall_const, false_implies, and_true]
  refine ⟨fun h => ?_, fun h => ?_⟩
  ·rintro _ rfl _; rw [if_neg h, m4, m3, m1, m2, r23]
  ·rintro _ rfl _; rw [if_pos h, m4, m3, r22]
 ·simp only [if_neg (show ¬ p0 < 0 by omega), if_neg (show ¬ p1 < 0 by omega), not_true_eq_false, false_implies, true_and, forall_const]
  refine ⟨fun h => ?_, fun h => ?_⟩
  ·rintro _ rfl _; rw [if_neg h, m1, m2, r23]
  ·rw [if_pos h, r22]
theorem plain (i v ro p) : statR 2 rc tree ⟨i, fN, v, ro, p⟩ = P (i 0) (i 1) (i 2) := by kernel_rfl
theorem ran : ranR us (fun _ _ => .auto) rc 2 tree = true := by kernel_rfl
theorem fineT : fineR 2 rc tree = true := by kernel_rfl
theorem ok : RcOk (cxOf 2) rc := okR us_ok ran fineT okb fun i v ro p hρ hcap hpre => by rw [plain]; have q := hρ.hi; exact holds (i 0) (i 1) (i 2) (q 0 _ rfl).1 (q 0 _ rfl).2 (q 1 _ rfl).1 (q 1 _ rfl).2 (q 2 _ rfl).1 (q 2 _ rfl).2 (hpre _ (mg 0 rfl))
end CRQuot
namespace CROne
def rc : Rc := ⟨69, [none, none], [.int .i64, .int .i32], [], .one, [.int .i32 (.f 63 (.ite (.b .eq .i64 (.v 0) (.c 24)) (.c 24) (.ite (.b .eq .i64 (.v 0) (.c 25)) (.c 25) (.ite (.b .eq .i64 (.v 0) (.c 26)) (.c 26) (.ite (.b .eq .i64 (.v 0) (.c 27)) (.c 27) (.ite (.b .eq .i64 (.v 0) (.c 28)) (.c 28) (.ite (.b .eq .i64 (.v 0) (.c 29)) (.c 29) (.c 30))))))) (.v 1) (.c 0))]⟩
theorem okb : rc.ok = true := by kernel_rfl
noncomputable def us : SMs := fun Γ ins n => smH (cxG n Γ ins) [] (smR (cxG n Γ ins) [CRLow.rc, CRSar.rc, CRClz.rc])
theorem us_ok : SMsOk us := fun Γ ins n => smH_ok (tabsG n Γ ins) (rhs_nil _) (smR_ok (tabsG n Γ ins) (rcs_cons CRLow.okb (rc_n CRLow.ok) (rcs_cons CRSar.okb (rc_n CRSar.ok) (rcs_cons CRClz.okb (rc_n CRClz.ok) (rcs_nil _)))))
def Q0 : E := (.b .psub .i64 (.c 0) (.v 1))
def Q1 : E := (tk (.c 2147483647) Q0)
def Q2 : E := (t3 Q0)
def Q3 : E := (.b .rem .i64 (.v 1) (.c 65536))
def Q4 : E := (tp Q3 (.c 65536))
def tree : TT (List E) :=
 (.br (te (.v 0) (.c 24)) (.leaf [(.f 63 (.c 24) (.v 1) (.c 0))]) (.br (te (.v 0) (.c 25)) (.br Q1 (.leaf [(.c 2147483647)]) (.leaf [Q2])) (.br (te (.v 0) (.c 26)) (.br (tk (.v 1) (.c 0)) (.br Q1 (.leaf [(.c 2147483647)]) (.leaf [Q2])) (.leaf [(.v 1)])) (.br (te (.v 0) (.c 27)) (.br (tn (.v 1) (.c 0)) (.leaf [(.c (-1))]) (.leaf [(.c 0)])) (.br (te (.v 0) (.c 28)) (.br (tk (.v 1) (.c 0)) (.leaf [(.c (-1))]) (.leaf [(.c 0)])) (.br (te (.v 0) (.c 29)) (.br (tk Q3 (.c 0)) (.br (tl (.c 32768) Q4) (.leaf [(.b .psub .i64 Q4 (.c 65536))]) (.leaf [Q4])) (.br (tl (.c 32768) Q3) (.leaf [(.b .psub .i64 Q3 (.c 65536))]) (.leaf [Q3]))) (.leaf [(.f 63 (.c 11) (.v 1) (.c 16))])))))))
def sL0 (a b z0 : Int) : Prop := (z0 : Int) = (aluV (iteZ (Pe a 24) 24 (iteZ (Pe a 25) 25 (iteZ (Pe a 26) 26 (iteZ (Pe a 27) 27 (iteZ (Pe a 28) 28 (iteZ (Pe a 29) 29 30)))))) b 0) ∧ True
def P (a b : Int) : Prop :=
 (Pb (Pe a 24) (sL0 a b (aluV 24 b 0)) (Pb (Pe a 25) (Pb (Pl 2147483647 (0 - b)) (sL0 a b 2147483647) (sL0 a b (W3 (0 - b)))) (Pb (Pe a 26) (Pb (Pl b 0) (Pb (Pl 2147483647 (0 - b)) (sL0 a b 2147483647) (sL0 a b (W3 (0 - b)))) (sL0 a b b)) (Pb (Pe a 27) (Pb (Pd b 0) (sL0 a b (-1)) (sL0 a b 0)) (Pb (Pe a 28) (Pb (Pl b 0) (sL0 a b (-1)) (sL0 a b 0)) (Pb (Pe a 29) (Pb (Pl (BO.ev .rem .i64 b 65536) 0) (Pb (PL 32768 ((BO.ev .rem .i64 b 65536) + 65536)) (sL0 a b (((BO.ev .rem .i64 b 65536) + 65536) - 65536)) (sL0 a b ((BO.ev .rem .i64 b 65536) + 65536))) (Pb (PL 32768 (BO.ev .rem .i64 b 65536)) (sL0 a b ((BO.ev .rem .i64 b 65536) - 65536)) (sL0 a b (BO.ev .rem .i64 b 65536)))) (sL0 a b (aluV 11 b 16))))))))
theorem satD (m : Int) : BO.ev .min .i64 (BO.ev .max .i64 m (-2147483648)) 2147483647 = if m < -2147483648 then -2147483648 else if 2147483647 < m then 2147483647 else m := by
 simp only [BO.ev]
 repeat' split
 all_goals omega
theorem wi16D (x : Int) : IntKind.wrap .i16 x = (x + 32768) % 65536 - 32768 := by
 simp [IntKind.wrap, IntKind.bits, IntKind.signed] <;> (try split) <;> omega
theorem tmD (x : Int) : BO.ev .rem .i64 x 65536 = if 0 ≤ x then x % 65536 else -((-x) % 65536) := by
 show x.tmod 65536 = _
 split
 ·exact Int.tmod_eq_emod_of_nonneg (by assumption)
 ·rename_i h
  rw [← Int.neg_neg x, Int.neg_tmod, Int.tmod_eq_emod_of_nonneg (by omega), Int.neg_neg]
theorem tmE (x : Int) : BO.ev .rem .i64 x 4294967296 = if 0 ≤ x then x % 4294967296 else -((-x) % 4294967296) := by
 show x.tmod 4294967296 = _
 split
 ·exact Int.tmod_eq_emod_of_nonneg (by assumption)
 ·rename_i h
  rw [← Int.neg_neg x, Int.neg_tmod, Int.tmod_eq_emod_of_nonneg (by omega), Int.neg_neg]
theorem tdE {x : Int} (h1 : -9223372036854775808 ≤ x) (h2 : x ≤ 9223372036854775807) : BO.ev .quo .i64 x 4294967296 = if 0 ≤ x then x / 4294967296 else -((-x) / 4294967296) := by
 show IntKind.wrap .i64 (x.tdiv 4294967296) = _
 have e : x.tdiv 4294967296 = if 0 ≤ x then x / 4294967296 else -((-x) / 4294967296) := by
  split
  ·exact Int.tdiv_eq_ediv_of_nonneg (by assumption)
  ·rename_i h
   rw [← Int.neg_neg x, Int.neg_tdiv, Int.tdiv_eq_ediv_of_nonneg (by omega), Int.neg_neg]
 rw [e, w64 (by split <;> omega) (by split <;> omega)]
section
variable {a b : Int}
theorem ax1 : aluX 1 a b = IntKind.wrap .i32 (a + b) := rfl
theorem ax2 : aluX 2 a b = IntKind.wrap .i32 (a - b) := rfl
theorem ax3 : aluX 3 a b = if a + b < -2147483648 then -2147483648 else if 2147483647 < a + b then 2147483647 else a + b := by rw [← satD]; rfl
theorem ax4 : aluX 4 a b = if a - b < -2147483648 then -2147483648 else if 2147483647 < a - b then 2147483647 else a - b := by rw [← satD]; rfl
theorem ax13 : aluX 13 a b = if a < b then 1 else 0 := rfl
theorem ax14 : aluX 14 a b = if IntKind.wrap .u32 a < IntKind.wrap .u32 b then 1 else 0 := rfl
theorem ax15 : aluX 15 a b = if a = b then 1 else 0 := rfl
theorem ax16 : aluX 16 a b = if b < a then b else a := rfl
theorem ax17 : aluX 17 a b = if b > a then b else a := rfl
theorem ax18 : aluX 18 a b = IntKind.wrap .i32 (a * b) := rfl
theorem ax19 : aluX 19 a b = a * b / 4294967296 := shr_ev .i64 (a * b) 32
theorem ax22 : aluX 22 a b = IntKind.wrap .i32 (IntKind.wrap .i64 (a.tdiv b)) := rfl
theorem ax23 : aluX 23 a b = IntKind.wrap .i32 (a - IntKind.wrap .i64 (IntKind.wrap .i64 (a.tdiv b) * b)) := rfl
theorem ax25 : aluX 25 a b = if 2147483647 < 0 - a then 2147483647 else 0 - a := rfl
theorem ax26 : aluX 26 a b = if (if 2147483647 < 0 - a then 2147483647 else 0 - a) > a then (if 2147483647 < 0 - a then 2147483647 else 0 - a) else a := rfl
theorem ax27 : aluX 27 a b = if a = 0 then 0 else -1 := rfl
theorem ax28 : aluX 28 a b = a / 2147483648 := shr_ev .i32 a 31
theorem ax29 : aluX 29 a b = (a + 32768) % 65536 - 32768 := wi16D a
theorem ax30 : aluX 30 a b = aluX 11 a 16 := by
 show BO.ev .shr .i32 a 16 = BO.ev .shr .i32 a (BO.ev .and .i32 16 31)
 rw [and31]; rfl
end
theorem holds (p0 p1 : Int) (l_p0 : -9223372036854775808 ≤ p0) (u_p0 : p0 ≤ 9223372036854775807) (l_p1 : -2147483648 ≤ p1) (u_p1 : p1 ≤ 2147483647) : P p0 p1 := by
 delta P sL0 Pb PL Pl Pe Pd W3
 have hv : ∀ x k, 24 ≤ k → k ≤ 30 → x = aluX k p1 0 → x = aluV k p1 0 := fun x k h1 h2 e => by rw [aluV_of (aluP_9 (by omega) h2 (by omega) (by omega)) l_p1 u_p1 (by decide) (by decide), e]
 have r0 := tmD p1
 have a30 : aluV 11 p1 16 = aluX 30 p1 0 := by
  rw [aluV_of (aluP_9 (by decide) (by decide) (by decide) (by decide)) l_p1 u_p1 (by decide) (by decide), ax30]
 simp only [nrm, Int.reduceEq, Int.reduceNeg, reduceIte]
 refine ⟨fun h => by subst h; rfl, fun h24 => ⟨fun h => ?_, fun h25 => ⟨fun h => ?_, fun h26 => ⟨fun h => ?_, fun h27 => ⟨fun h => ?_, fun h28 => ⟨fun h => ?_, fun h29 => ?_⟩⟩⟩⟩⟩⟩
 ·simp only [h24, h, Int.reduceEq, if_true, if_false]
  refine ⟨fun g => hv _ _ (by decide) (by decide) ?_, fun g => hv _ _ (by decide) (by decide) ?_⟩
  ·rw [ax25, if_pos g]
  ·rw [ax25, if_neg (by omega), wi32 (by omega) (by omega)]
 ·simp only [h24, h25, h, Int.reduceEq, if_true, if_false]
  refine ⟨fun g0 => ⟨fun g => hv _ _ (by decide) (by decide) ?_, fun g => hv _ _ (by decide) (by decide) ?_⟩, fun g0 => hv _ _ (by decide) (by decide) ?_⟩
  ·rw [ax26]; simp only [if_pos g]; rw [if_pos (by omega)]
  ·rw [ax26]; simp only [if_neg (show ¬ 2147483647 < 0 - p1 by omega)]; rw [if_pos (by omega), wi32 (by omega) (by omega)]
  ·rw [ax26]; simp only [if_neg (show ¬ 2147483647 < 0 - p1 by omega)]; rw [if_neg (by omega)]
 ·simp only [h24, h25, h26, h, Int.reduceEq, if_true, if_false]
  refine ⟨fun g => hv _ _ (by decide) (by decide) ?_, fun g => hv _ _ (by decide) (by decide) ?_⟩
  ·rw [ax27, if_neg g]
  ·rw [ax27, if_pos g]
 ·simp only [h24, h25, h26, h27, h, Int.reduceEq, if_true, if_false]
  refine ⟨fun g => hv _ _ (by decide) (by decide) ?_, fun g => hv _ _ (by decide) (by decide) ?_⟩ <;> rw [ax28] <;> omega
 ·simp only [h24, h25, h26, h27, h28, h, Int.reduceEq, if_true, if_false]
  refine ⟨fun g => ⟨fun g2 => hv _ _ (by decide) (by decide) ?_, fun g2 => hv _ _ (by decide) (by decide) ?_⟩, fun g => ⟨fun g2 => hv _ _ (by decide) (by decide) ?_, fun g2 => hv _ _ (by decide) (by decide) ?_⟩⟩ <;> rw [ax29] <;> rw [r0] at * <;> (repeat' split at *) <;> omega
 ·simp only [h24, h25, h26, h27, h28, h29, if_false]
  exact hv _ _ (by decide) (by decide) a30
theorem plain (i v ro p) : statR 2 rc tree ⟨i, fN, v, ro, p⟩ = P (i 0) (i 1) := by kernel_rfl
theorem ran : ranR us (fun _ _ => .auto) rc 2 tree = true := by kernel_rfl
theorem fineT : fineR 2 rc tree = true := by kernel_rfl
theorem ok : RcOk (cxOf 2) rc := okR us_ok ran fineT okb fun i v ro p hρ hcap hpre => by rw [plain]; have q := hρ.hi; exact holds (i 0) (i 1) (q 0 _ rfl).1 (q 0 _ rfl).2 (q 1 _ rfl).1 (q 1 _ rfl).2
end CROne
end Go.Proofs.YtemcjakecoceaaaGreatDoor
