/-
  What astrolaberef07.each answers, as numbers of what it is handed: its run by the engine, and the plain statement behind it. No condition.
-/
import Derived.Test.YtbfgkimoobkpmaaGreatDoorGab
import Derived.Test.YtbfgkimoobkpmaaGreatDoorCRBits
import Derived.Test.YtbfgkimoobkpmaaGreatDoorCROf
import Derived.Test.YtbfgkimoobkpmaaGreatDoorGmD
namespace Go.Proofs.YtbfgkimoobkpmaaGreatDoor.CREach
open Go.Eng Go.RowKit
set_option linter.unusedVariables false
set_option linter.unusedSimpArgs false
set_option maxRecDepth 100000
def rc : Rc := ⟨95, [none, none, none], [.int .i64, .int .i32, .int .i32], [], .one, [.int .i32 (.f 63 (.ite (.b .eq .i64 (.v 0) (.c 0)) (.c 5) (.ite (.b .eq .i64 (.v 0) (.c 1)) (.c 6) (.ite (.b .eq .i64 (.v 0) (.c 2)) (.c 7) (.c 8)))) (.v 1) (.v 2))]⟩
theorem okb : rc.ok = true := by kernel_rfl
def mk3 : Marks := [([0, 19], .wild), ([0, 20], .wild), ([0, 21], .wild), ([0, 22], .wild), ([0, 23], .wild), ([0, 24], .wild), ([0, 25], .wild), ([0, 26], .wild), ([0, 27], .wild), ([0, 28], .wild), ([0, 59], .wild), ([0, 60], .wild), ([0, 61], .wild), ([0, 62], .wild), ([0, 63], .wild), ([0, 64], .wild), ([0, 65], .wild), ([0, 66], .wild), ([0, 67], .wild), ([0, 68], .wild), ([0, 69], .wild), ([0, 70], .wild), ([0, 40], .wild), ([0, 41], .wild), ([0, 42], .wild), ([0, 43], .wild), ([0, 44], .wild), ([0, 45], .wild), ([0, 46], .wild), ([0, 47], .wild), ([0, 48], .wild), ([0, 49], .wild), ([0, 50], .wild), ([0, 51], .wild), ([0, 52], .wild), ([0, 53], .wild), ([0, 54], .wild), ([0, 55], .wild), ([0, 56], .wild), ([0, 57], .wild), ([0, 58], .wild), ([0, 9], .num (-9223372036854775808) (9223372036854775807)), ([0, 14], .wild), ([0, 15], .wild), ([0, 16], .wild), ([0, 17], .wild), ([0, 18], .wild), ([0, 29], .wild), ([0, 30], .wild), ([0, 31], .wild), ([0, 32], .wild), ([0, 33], .wild), ([0, 34], .wild), ([0, 35], .wild), ([0, 36], .wild), ([0, 37], .wild), ([0, 38], .wild), ([0, 39], .wild), ([1, 0, 0], .num (-9223372036854775808) (9223372036854775807)), ([1, 0, 1], .num (-9223372036854775808) (9223372036854775807)), ([1, 0, 2], .num (-9223372036854775808) (9223372036854775807)), ([1, 0, 3], .num (-9223372036854775808) (9223372036854775807)), ([1, 0, 4], .num (-9223372036854775808) (9223372036854775807)), ([1, 0, 5], .num (-9223372036854775808) (9223372036854775807)), ([1, 0, 6], .num (-9223372036854775808) (9223372036854775807)), ([1, 0, 7], .num (-9223372036854775808) (9223372036854775807)), ([1, 0, 8], .num (-9223372036854775808) (9223372036854775807)), ([1, 0, 9], .num (-9223372036854775808) (9223372036854775807)), ([1, 0, 10], .num (-9223372036854775808) (9223372036854775807)), ([1, 0, 11], .num (-9223372036854775808) (9223372036854775807)), ([1, 0, 12], .num (-9223372036854775808) (9223372036854775807)), ([1, 0, 13], .num (-9223372036854775808) (9223372036854775807)), ([1, 0, 14], .num (-9223372036854775808) (9223372036854775807)), ([1, 0, 15], .num (-9223372036854775808) (9223372036854775807)), ([1, 0, 16], .num (-9223372036854775808) (9223372036854775807)), ([1, 0, 17], .num (-9223372036854775808) (9223372036854775807)), ([1, 0, 18], .num (-9223372036854775808) (9223372036854775807)), ([1, 0, 19], .num (-9223372036854775808) (9223372036854775807)), ([1, 0, 20], .num (-9223372036854775808) (9223372036854775807)), ([1, 0, 21], .num (-9223372036854775808) (9223372036854775807)), ([1, 0, 22], .num (-9223372036854775808) (9223372036854775807)), ([1, 0, 23], .num (-9223372036854775808) (9223372036854775807)), ([1, 0, 24], .num (-9223372036854775808) (9223372036854775807)), ([1, 0, 25], .num (-9223372036854775808) (9223372036854775807)), ([1, 0, 26], .num (-9223372036854775808) (9223372036854775807)), ([1, 0, 27], .num (-9223372036854775808) (9223372036854775807)), ([1, 0, 28], .num (-9223372036854775808) (9223372036854775807)), ([1, 0, 29], .num (-9223372036854775808) (9223372036854775807)), ([1, 0, 30], .num (-9223372036854775808) (9223372036854775807)), ([1, 0, 31], .num (-9223372036854775808) (9223372036854775807))]
noncomputable def us : SMs := fun Γ ins n => smH (cxG n Γ ins) [] (smR (cxG n Γ ins) [CRBits.rc, CROf.rc])
theorem us_ok : SMsOk us := fun Γ ins n => smH_ok (tabsG n Γ ins) (rhs_nil _) (smR_ok (tabsG n Γ ins) (rcs_cons CRBits.okb (rc_n CRBits.ok) (rcs_cons CROf.okb (rc_n CROf.ok) (rcs_nil _))))
def q0 : E := (.cl 1000 (-9223372036854775808) 9223372036854775807)
def q1 : E := (tl (.c 0) q0)
def q2 : E := (.cl 1001 (-9223372036854775808) 9223372036854775807)
def q3 : E := (.cl 1002 (-9223372036854775808) 9223372036854775807)
def q4 : E := (.cl 1003 (-9223372036854775808) 9223372036854775807)
def q5 : E := (.cl 1004 (-9223372036854775808) 9223372036854775807)
def q6 : E := (.cl 1005 (-9223372036854775808) 9223372036854775807)
def q7 : E := (.cl 1006 (-9223372036854775808) 9223372036854775807)
def q8 : E := (.cl 1007 (-9223372036854775808) 9223372036854775807)
def q9 : E := (.cl 1008 (-9223372036854775808) 9223372036854775807)
def q10 : E := (.cl 1009 (-9223372036854775808) 9223372036854775807)
def q11 : E := (.cl 1010 (-9223372036854775808) 9223372036854775807)
def q12 : E := (.cl 1011 (-9223372036854775808) 9223372036854775807)
def q13 : E := (.cl 1012 (-9223372036854775808) 9223372036854775807)
def q14 : E := (.cl 1013 (-9223372036854775808) 9223372036854775807)
def q15 : E := (.cl 1014 (-9223372036854775808) 9223372036854775807)
def q16 : E := (.cl 1015 (-9223372036854775808) 9223372036854775807)
def q17 : E := (.cl 1016 (-9223372036854775808) 9223372036854775807)
def q18 : E := (.cl 1017 (-9223372036854775808) 9223372036854775807)
def q19 : E := (.cl 1018 (-9223372036854775808) 9223372036854775807)
def q20 : E := (.cl 1019 (-9223372036854775808) 9223372036854775807)
def q21 : E := (.cl 1020 (-9223372036854775808) 9223372036854775807)
def q22 : E := (.cl 1021 (-9223372036854775808) 9223372036854775807)
def q23 : E := (.cl 1022 (-9223372036854775808) 9223372036854775807)
def q24 : E := (.cl 1023 (-9223372036854775808) 9223372036854775807)
def q25 : E := (.cl 1024 (-9223372036854775808) 9223372036854775807)
def q26 : E := (.cl 1025 (-9223372036854775808) 9223372036854775807)
def q27 : E := (.cl 1026 (-9223372036854775808) 9223372036854775807)
def q28 : E := (.cl 1027 (-9223372036854775808) 9223372036854775807)
def q29 : E := (.cl 1028 (-9223372036854775808) 9223372036854775807)
def q30 : E := (.cl 1029 (-9223372036854775808) 9223372036854775807)
def q31 : E := (.cl 1030 (-9223372036854775808) 9223372036854775807)
def q32 : E := (.cl 1031 (-9223372036854775808) 9223372036854775807)
def q33 : E := (.cl 1032 (-9223372036854775808) 9223372036854775807)
def q34 : E := (tC q33 (.c 0))
def q35 : E := (tC q32 q34)
def q36 : E := (tC q31 q35)
def q37 : E := (tC q30 q36)
def q38 : E := (tC q29 q37)
def q39 : E := (tC q28 q38)
def q40 : E := (tC q27 q39)
def q41 : E := (tC q26 q40)
def q42 : E := (tC q25 q41)
def q43 : E := (tC q24 q42)
def q44 : E := (tC q23 q43)
def q45 : E := (tC q22 q44)
def q46 : E := (tC q21 q45)
def q47 : E := (tC q20 q46)
def q48 : E := (tC q19 q47)
def q49 : E := (tC q18 q48)
def q50 : E := (tC q17 q49)
def q51 : E := (tC q16 q50)
def q52 : E := (tC q15 q51)
def q53 : E := (tC q14 q52)
def q54 : E := (tC q13 q53)
def q55 : E := (tC q12 q54)
def q56 : E := (tC q11 q55)
def q57 : E := (tC q10 q56)
def q58 : E := (tC q9 q57)
def q59 : E := (tC q8 q58)
def q60 : E := (tC q7 q59)
def q61 : E := (tC q6 q60)
def q62 : E := (tC q5 q61)
def q63 : E := (tC q4 q62)
def q64 : E := (tC q3 q63)
def q65 : E := (tC q2 q64)
def q66 : E := (tR q65 q0)
def q67 : E := (t6 q66)
def q68 : E := (.f 2 (.v 2) (.c 0) (.c 0))
def q69 : E := (.f 2 (.v 2) (.c 1) (.c 0))
def q70 : E := (.f 2 (.v 2) (.c 2) (.c 0))
def q71 : E := (.f 2 (.v 2) (.c 3) (.c 0))
def q72 : E := (.f 2 (.v 2) (.c 4) (.c 0))
def q73 : E := (.f 2 (.v 2) (.c 5) (.c 0))
def q74 : E := (.f 2 (.v 2) (.c 6) (.c 0))
def q75 : E := (.f 2 (.v 2) (.c 7) (.c 0))
def q76 : E := (.f 2 (.v 2) (.c 8) (.c 0))
def q77 : E := (.f 2 (.v 2) (.c 9) (.c 0))
def q78 : E := (.f 2 (.v 2) (.c 10) (.c 0))
def q79 : E := (.f 2 (.v 2) (.c 11) (.c 0))
def q80 : E := (.f 2 (.v 2) (.c 12) (.c 0))
def q81 : E := (.f 2 (.v 2) (.c 13) (.c 0))
def q82 : E := (.f 2 (.v 2) (.c 14) (.c 0))
def q83 : E := (.f 2 (.v 2) (.c 15) (.c 0))
def q84 : E := (.f 2 (.v 2) (.c 16) (.c 0))
def q85 : E := (.f 2 (.v 2) (.c 17) (.c 0))
def q86 : E := (.f 2 (.v 2) (.c 18) (.c 0))
def q87 : E := (.f 2 (.v 2) (.c 19) (.c 0))
def q88 : E := (.f 2 (.v 2) (.c 20) (.c 0))
def q89 : E := (.f 2 (.v 2) (.c 21) (.c 0))
def q90 : E := (.f 2 (.v 2) (.c 22) (.c 0))
def q91 : E := (.f 2 (.v 2) (.c 23) (.c 0))
def q92 : E := (.f 2 (.v 2) (.c 24) (.c 0))
def q93 : E := (.f 2 (.v 2) (.c 25) (.c 0))
def q94 : E := (.f 2 (.v 2) (.c 26) (.c 0))
def q95 : E := (.f 2 (.v 2) (.c 27) (.c 0))
def q96 : E := (.f 2 (.v 2) (.c 28) (.c 0))
def q97 : E := (.f 2 (.v 2) (.c 29) (.c 0))
def q98 : E := (.f 2 (.v 2) (.c 30) (.c 0))
def q99 : E := (.f 2 (.v 2) (.c 31) (.c 0))
def q100 : E := (tC q99 (.c 0))
def q101 : E := (tC q98 q100)
def q102 : E := (tC q97 q101)
def q103 : E := (tC q96 q102)
def q104 : E := (tC q95 q103)
def q105 : E := (tC q94 q104)
def q106 : E := (tC q93 q105)
def q107 : E := (tC q92 q106)
def q108 : E := (tC q91 q107)
def q109 : E := (tC q90 q108)
def q110 : E := (tC q89 q109)
def q111 : E := (tC q88 q110)
def q112 : E := (tC q87 q111)
def q113 : E := (tC q86 q112)
def q114 : E := (tC q85 q113)
def q115 : E := (tC q84 q114)
def q116 : E := (tC q83 q115)
def q117 : E := (tC q82 q116)
def q118 : E := (tC q81 q117)
def q119 : E := (tC q80 q118)
def q120 : E := (tC q79 q119)
def q121 : E := (tC q78 q120)
def q122 : E := (tC q77 q121)
def q123 : E := (tC q76 q122)
def q124 : E := (tC q75 q123)
def q125 : E := (tC q74 q124)
def q126 : E := (tC q73 q125)
def q127 : E := (tC q72 q126)
def q128 : E := (tC q71 q127)
def q129 : E := (tC q70 q128)
def q130 : E := (tC q69 q129)
def q131 : E := (tC q68 q130)
def q132 : E := (tR q131 q0)
def q133 : E := (t6 q132)
def q134 : E := (tp q0 (.c 1))
def q135 : E := (t6 q134)
def q136 : E := (.cl 1034 (-9223372036854775808) 9223372036854775807)
def q137 : E := (.cl 1035 (-9223372036854775808) 9223372036854775807)
def q138 : E := (.b .pmul .i64 q136 q137)
def q139 : E := (t6 q138)
def q140 : E := (.f 14 q65 q0 q139)
def q141 : E := (tp q136 q137)
def q142 : E := (t6 q141)
def q143 : E := (.cl 1036 (-9223372036854775808) 9223372036854775807)
def q144 : E := (.f 14 q65 q0 q143)
def q145 : E := (tR q144 (.c 0))
def q146 : E := (t6 q145)
def q147 : E := (tR q144 (.c 1))
def q148 : E := (t6 q147)
def q149 : E := (tR q144 (.c 2))
def q150 : E := (t6 q149)
def q151 : E := (tR q144 (.c 3))
def q152 : E := (t6 q151)
def q153 : E := (tR q144 (.c 4))
def q154 : E := (t6 q153)
def q155 : E := (tR q144 (.c 5))
def q156 : E := (t6 q155)
def q157 : E := (tR q144 (.c 6))
def q158 : E := (t6 q157)
def q159 : E := (tR q144 (.c 7))
def q160 : E := (t6 q159)
def q161 : E := (tR q144 (.c 8))
def q162 : E := (t6 q161)
def q163 : E := (tR q144 (.c 9))
def q164 : E := (t6 q163)
def q165 : E := (tR q144 (.c 10))
def q166 : E := (t6 q165)
def q167 : E := (tR q144 (.c 11))
def q168 : E := (t6 q167)
def q169 : E := (tR q144 (.c 12))
def q170 : E := (t6 q169)
def q171 : E := (tR q144 (.c 13))
def q172 : E := (t6 q171)
def q173 : E := (tR q144 (.c 14))
def q174 : E := (t6 q173)
def q175 : E := (tR q144 (.c 15))
def q176 : E := (t6 q175)
def q177 : E := (tR q144 (.c 16))
def q178 : E := (t6 q177)
def q179 : E := (tR q144 (.c 17))
def q180 : E := (t6 q179)
def q181 : E := (tR q144 (.c 18))
def q182 : E := (t6 q181)
def q183 : E := (tR q144 (.c 19))
def q184 : E := (t6 q183)
def q185 : E := (tR q144 (.c 20))
def q186 : E := (t6 q185)
def q187 : E := (tR q144 (.c 21))
def q188 : E := (t6 q187)
def q189 : E := (tR q144 (.c 22))
def q190 : E := (t6 q189)
def q191 : E := (tR q144 (.c 23))
def q192 : E := (t6 q191)
def q193 : E := (tR q144 (.c 24))
def q194 : E := (t6 q193)
def q195 : E := (tR q144 (.c 25))
def q196 : E := (t6 q195)
def q197 : E := (tR q144 (.c 26))
def q198 : E := (t6 q197)
def q199 : E := (tR q144 (.c 27))
def q200 : E := (t6 q199)
def q201 : E := (tR q144 (.c 28))
def q202 : E := (t6 q201)
def q203 : E := (tR q144 (.c 29))
def q204 : E := (t6 q203)
def q205 : E := (tR q144 (.c 30))
def q206 : E := (t6 q205)
def q207 : E := (tR q144 (.c 31))
def q208 : E := (t6 q207)
def q209 : E := (.f 14 q65 q0 (.cl 1036 (-1) 1))
def tree : TT (List E) :=
 (.loop ⟨1000, [some (-9223372036854775808, 9223372036854775807), some (-9223372036854775808, 9223372036854775807), some (-9223372036854775808, 9223372036854775807), some (-9223372036854775808, 9223372036854775807), some (-9223372036854775808, 9223372036854775807), some (-9223372036854775808, 9223372036854775807), some (-9223372036854775808, 9223372036854775807), some (-9223372036854775808, 9223372036854775807), some (-9223372036854775808, 9223372036854775807), some (-9223372036854775808, 9223372036854775807), some (-9223372036854775808, 9223372036854775807), some (-9223372036854775808, 9223372036854775807), some (-9223372036854775808, 9223372036854775807), some (-9223372036854775808, 9223372036854775807), some (-9223372036854775808, 9223372036854775807), some (-9223372036854775808,
 9223372036854775807), some (-9223372036854775808, 9223372036854775807), some (-9223372036854775808, 9223372036854775807), some (-9223372036854775808, 9223372036854775807), some (-9223372036854775808, 9223372036854775807), some (-9223372036854775808, 9223372036854775807), some (-9223372036854775808, 9223372036854775807), some (-9223372036854775808, 9223372036854775807), some (-9223372036854775808, 9223372036854775807), some (-9223372036854775808, 9223372036854775807), some (-9223372036854775808, 9223372036854775807), some (-9223372036854775808, 9223372036854775807), some (-9223372036854775808, 9223372036854775807), some (-9223372036854775808, 9223372036854775807), some (-9223372036854775808, 9223372036854775807), some (-9223372036854775808, 9223372036854775807), some
 (-9223372036854775808, 9223372036854775807), some (-9223372036854775808, 9223372036854775807)], [(.c 0), (.f 2 (.v 1) (.c 0) (.c 0)), (.f 2 (.v 1) (.c 1) (.c 0)), (.f 2 (.v 1) (.c 2) (.c 0)), (.f 2 (.v 1) (.c 3) (.c 0)), (.f 2 (.v 1) (.c 4) (.c 0)), (.f 2 (.v 1) (.c 5) (.c 0)), (.f 2 (.v 1) (.c 6) (.c 0)), (.f 2 (.v 1) (.c 7) (.c 0)), (.f 2 (.v 1) (.c 8) (.c 0)), (.f 2 (.v 1) (.c 9) (.c 0)), (.f 2 (.v 1) (.c 10) (.c 0)), (.f 2 (.v 1) (.c 11) (.c 0)), (.f 2 (.v 1) (.c 12) (.c 0)), (.f 2 (.v 1) (.c 13) (.c 0)), (.f 2 (.v 1) (.c 14) (.c 0)), (.f 2 (.v 1) (.c 15) (.c 0)), (.f 2 (.v 1) (.c 16) (.c 0)), (.f 2 (.v 1) (.c 17) (.c 0)), (.f 2 (.v 1) (.c 18) (.c 0)), (.f 2 (.v 1) (.c 19) (.c 0)), (.f 2 (.v 1) (.c 20) (.c 0)), (.f 2 (.v 1) (.c 21) (.c 0)), (.f 2 (.v 1) (.c 22) (.c 0)), (.f 2 (.v 1)
 (.c 23) (.c 0)), (.f 2 (.v 1) (.c 24) (.c 0)), (.f 2 (.v 1) (.c 25) (.c 0)), (.f 2 (.v 1) (.c 26) (.c 0)), (.f 2 (.v 1) (.c 27) (.c 0)), (.f 2 (.v 1) (.c 28) (.c 0)), (.f 2 (.v 1) (.c 29) (.c 0)), (.f 2 (.v 1) (.c 30) (.c 0)), (.f 2 (.v 1) (.c 31) (.c 0))], 1037⟩ (.br (tk q0 (.c 32)) (.br (te (.v 0) (.c 0)) (.br q1 (.new 1034 q67 (.new 1035 q133 (.back [q135, (t6 (tR q140 (.c 0))), (t6 (tR q140 (.c 1))), (t6 (tR q140 (.c 2))), (t6 (tR q140 (.c 3))), (t6 (tR q140 (.c 4))), (t6 (tR q140 (.c 5))), (t6 (tR q140 (.c 6))), (t6 (tR q140 (.c 7))), (t6 (tR q140 (.c 8))), (t6 (tR q140 (.c 9))), (t6 (tR q140 (.c 10))), (t6 (tR q140 (.c 11))), (t6 (tR q140 (.c 12))), (t6 (tR q140 (.c 13))), (t6 (tR q140 (.c 14))), (t6 (tR q140 (.c 15))), (t6 (tR q140 (.c 16))), (t6 (tR q140 (.c 17))), (t6 (tR q140
 (.c 18))), (t6 (tR q140 (.c 19))), (t6 (tR q140 (.c 20))), (t6 (tR q140 (.c 21))), (t6 (tR q140 (.c 22))), (t6 (tR q140 (.c 23))), (t6 (tR q140 (.c 24))), (t6 (tR q140 (.c 25))), (t6 (tR q140 (.c 26))), (t6 (tR q140 (.c 27))), (t6 (tR q140 (.c 28))), (t6 (tR q140 (.c 29))), (t6 (tR q140 (.c 30))), (t6 (tR q140 (.c 31)))]))) (.bad 200)) (.br (te (.v 0) (.c 1)) (.br q1 (.new 1034 q67 (.new 1035 q133 (.new 1036 (t6 (.b .psub .i64 q142 q139)) (.back [q135, q146, q148, q150, q152, q154, q156, q158, q160, q162, q164, q166, q168, q170, q172, q174, q176, q178, q180, q182, q184, q186, q188, q190, q192, q194, q196, q198, q200, q202, q204, q206, q208])))) (.bad 200)) (.br (te (.v 0) (.c 2)) (.br q1 (.new 1034 q67 (.new 1035 q133 (.new 1036 (.b .rem .i64 q142 (.c 2)) (.back [q135, (t6 (tR q209 (.c
 0))), (t6 (tR q209 (.c 1))), (t6 (tR q209 (.c 2))), (t6 (tR q209 (.c 3))), (t6 (tR q209 (.c 4))), (t6 (tR q209 (.c 5))), (t6 (tR q209 (.c 6))), (t6 (tR q209 (.c 7))), (t6 (tR q209 (.c 8))), (t6 (tR q209 (.c 9))), (t6 (tR q209 (.c 10))), (t6 (tR q209 (.c 11))), (t6 (tR q209 (.c 12))), (t6 (tR q209 (.c 13))), (t6 (tR q209 (.c 14))), (t6 (tR q209 (.c 15))), (t6 (tR q209 (.c 16))), (t6 (tR q209 (.c 17))), (t6 (tR q209 (.c 18))), (t6 (tR q209 (.c 19))), (t6 (tR q209 (.c 20))), (t6 (tR q209 (.c 21))), (t6 (tR q209 (.c 22))), (t6 (tR q209 (.c 23))), (t6 (tR q209 (.c 24))), (t6 (tR q209 (.c 25))), (t6 (tR q209 (.c 26))), (t6 (tR q209 (.c 27))), (t6 (tR q209 (.c 28))), (t6 (tR q209 (.c 29))), (t6 (tR q209 (.c 30))), (t6 (tR q209 (.c 31)))])))) (.bad 200)) (.br q1 (.new 1034 q67 (.new 1035 q133
 (.new 1036 (t6 (.b .pmul .i64 q136 (t6 (.b .psub .i64 (.c 1) q137)))) (.back [q135, q146, q148, q150, q152, q154, q156, q158, q160, q162, q164, q166, q168, q170, q172, q174, q176, q178, q180, q182, q184, q186, q188, q190, q192, q194, q196, q198, q200, q202, q204, q206, q208])))) (.bad 200))))) (.exit 0)) (.new 1039 (.f 77 q2 q3 q63) (.leaf [(.cl 1039 (-2147483648) 2147483647)])))

noncomputable def sq0 (y1 y2 y3 y4 y5 y6 y7 y8 y9 y10 y11 y12 y13 y14 y15 y16 y17 y18 y19 y20 y21 y22 y23 y24 y25 y26 y27 y28 y29 y30 y31 y32 : Int) : Int := (consZ y1 (consZ y2 (consZ y3 (consZ y4 (consZ y5 (consZ y6 (consZ y7 (consZ y8 (consZ y9 (consZ y10 (consZ y11 (consZ y12 (consZ y13 (consZ y14 (consZ y15 (consZ y16 (consZ y17 (consZ y18 (consZ y19 (consZ y20 (consZ y21 (consZ y22 (consZ y23 (consZ y24 (consZ y25 (consZ y26 (consZ y27 (consZ y28 (consZ y29 (consZ y30 (consZ y31 (consZ y32 0))))))))))))))))))))))))))))))))
noncomputable def sq1 (c y0 : Int) : Int := (W6 (rdZ (consZ (bitZ c 0) (consZ (bitZ c 1) (consZ (bitZ c 2) (consZ (bitZ c 3) (consZ (bitZ c 4) (consZ (bitZ c 5) (consZ (bitZ c 6) (consZ (bitZ c 7) (consZ (bitZ c 8) (consZ (bitZ c 9) (consZ (bitZ c 10) (consZ (bitZ c 11) (consZ (bitZ c 12) (consZ (bitZ c 13) (consZ (bitZ c 14) (consZ (bitZ c 15) (consZ (bitZ c 16) (consZ (bitZ c 17) (consZ (bitZ c 18) (consZ (bitZ c 19) (consZ (bitZ c 20) (consZ (bitZ c 21) (consZ (bitZ c 22) (consZ (bitZ c 23) (consZ (bitZ c 24) (consZ (bitZ c 25) (consZ (bitZ c 26) (consZ (bitZ c 27) (consZ (bitZ c 28) (consZ (bitZ c 29) (consZ (bitZ c 30) (consZ (bitZ c 31) 0)))))))))))))))))))))))))))))))) y0))
def P (a b c : Int) : Prop :=
 ∃ I1000 : Int → Int → Int → Int → Int → Int → Int → Int → Int → Int → Int → Int → Int → Int → Int → Int → Int → Int → Int → Int → Int → Int → Int → Int → Int → Int → Int → Int → Int → Int → Int → Int → Int → Nat → Prop, (∃ m, I1000 0 (bitZ b 0) (bitZ b 1) (bitZ b 2) (bitZ b 3) (bitZ b 4) (bitZ b 5) (bitZ b 6) (bitZ b 7) (bitZ b 8) (bitZ b 9) (bitZ b 10) (bitZ b 11) (bitZ b 12) (bitZ b 13) (bitZ b 14) (bitZ b 15) (bitZ b 16) (bitZ b 17) (bitZ b 18) (bitZ b 19) (bitZ b 20) (bitZ b 21) (bitZ b 22) (bitZ b 23) (bitZ b 24) (bitZ b 25) (bitZ b 26) (bitZ b 27) (bitZ b 28) (bitZ b 29) (bitZ b 30) (bitZ b 31) m) ∧ ∀ y0 y1 y2 y3 y4 y5 y6 y7 y8 y9 y10 y11 y12 y13 y14 y15 y16 y17 y18 y19 y20 y21 y22 y23 y24 y25 y26 y27 y28 y29 y30 y31 y32 : Int, ∀ m0, (((-9223372036854775808) ≤ y0 ∧ y0 ≤
 9223372036854775807) ∧ ((-9223372036854775808) ≤ y1 ∧ y1 ≤ 9223372036854775807) ∧ ((-9223372036854775808) ≤ y2 ∧ y2 ≤ 9223372036854775807) ∧ ((-9223372036854775808) ≤ y3 ∧ y3 ≤ 9223372036854775807) ∧ ((-9223372036854775808) ≤ y4 ∧ y4 ≤ 9223372036854775807) ∧ ((-9223372036854775808) ≤ y5 ∧ y5 ≤ 9223372036854775807) ∧ ((-9223372036854775808) ≤ y6 ∧ y6 ≤ 9223372036854775807) ∧ ((-9223372036854775808) ≤ y7 ∧ y7 ≤ 9223372036854775807) ∧ ((-9223372036854775808) ≤ y8 ∧ y8 ≤ 9223372036854775807) ∧ ((-9223372036854775808) ≤ y9 ∧ y9 ≤ 9223372036854775807) ∧ ((-9223372036854775808) ≤ y10 ∧ y10 ≤ 9223372036854775807) ∧ ((-9223372036854775808) ≤ y11 ∧ y11 ≤ 9223372036854775807) ∧ ((-9223372036854775808) ≤ y12 ∧ y12 ≤ 9223372036854775807) ∧ ((-9223372036854775808) ≤ y13 ∧ y13 ≤ 9223372036854775807) ∧
 ((-9223372036854775808) ≤ y14 ∧ y14 ≤ 9223372036854775807) ∧ ((-9223372036854775808) ≤ y15 ∧ y15 ≤ 9223372036854775807) ∧ ((-9223372036854775808) ≤ y16 ∧ y16 ≤ 9223372036854775807) ∧ ((-9223372036854775808) ≤ y17 ∧ y17 ≤ 9223372036854775807) ∧ ((-9223372036854775808) ≤ y18 ∧ y18 ≤ 9223372036854775807) ∧ ((-9223372036854775808) ≤ y19 ∧ y19 ≤ 9223372036854775807) ∧ ((-9223372036854775808) ≤ y20 ∧ y20 ≤ 9223372036854775807) ∧ ((-9223372036854775808) ≤ y21 ∧ y21 ≤ 9223372036854775807) ∧ ((-9223372036854775808) ≤ y22 ∧ y22 ≤ 9223372036854775807) ∧ ((-9223372036854775808) ≤ y23 ∧ y23 ≤ 9223372036854775807) ∧ ((-9223372036854775808) ≤ y24 ∧ y24 ≤ 9223372036854775807) ∧ ((-9223372036854775808) ≤ y25 ∧ y25 ≤ 9223372036854775807) ∧ ((-9223372036854775808) ≤ y26 ∧ y26 ≤ 9223372036854775807) ∧
 ((-9223372036854775808) ≤ y27 ∧ y27 ≤ 9223372036854775807) ∧ ((-9223372036854775808) ≤ y28 ∧ y28 ≤ 9223372036854775807) ∧ ((-9223372036854775808) ≤ y29 ∧ y29 ≤ 9223372036854775807) ∧ ((-9223372036854775808) ≤ y30 ∧ y30 ≤ 9223372036854775807) ∧ ((-9223372036854775808) ≤ y31 ∧ y31 ≤ 9223372036854775807) ∧ ((-9223372036854775808) ≤ y32 ∧ y32 ≤ 9223372036854775807) ∧ True) → I1000 y0 y1 y2 y3 y4 y5 y6 y7 y8 y9 y10 y11 y12 y13 y14 y15 y16 y17 y18 y19 y20 y21 y22 y23 y24 y25 y26 y27 y28 y29 y30 y31 y32 m0 → (Pb (Pl y0 32) (Pb (Pe a 0) (Pm (PL 0 y0) (Pn (W6 (rdZ (sq0 y1 y2 y3 y4 y5 y6 y7 y8 y9 y10 y11 y12 y13 y14 y15 y16 y17 y18 y19 y20 y21 y22 y23 y24 y25 y26 y27 y28 y29 y30 y31 y32) y0)) (-9223372036854775808) 9223372036854775807 fun y34 => Pn (sq1 c y0) (-9223372036854775808)
 9223372036854775807 fun y35 => ∃ m', m' < m0 ∧ I1000 (W6 (y0 + 1)) (W6 (rdZ (updZ (sq0 y1 y2 y3 y4 y5 y6 y7 y8 y9 y10 y11 y12 y13 y14 y15 y16 y17 y18 y19 y20 y21 y22 y23 y24 y25 y26 y27 y28 y29 y30 y31 y32) y0 (W6 (y34 * y35))) 0)) (W6 (rdZ (updZ (sq0 y1 y2 y3 y4 y5 y6 y7 y8 y9 y10 y11 y12 y13 y14 y15 y16 y17 y18 y19 y20 y21 y22 y23 y24 y25 y26 y27 y28 y29 y30 y31 y32) y0 (W6 (y34 * y35))) 1)) (W6 (rdZ (updZ (sq0 y1 y2 y3 y4 y5 y6 y7 y8 y9 y10 y11 y12 y13 y14 y15 y16 y17 y18 y19 y20 y21 y22 y23 y24 y25 y26 y27 y28 y29 y30 y31 y32) y0 (W6 (y34 * y35))) 2)) (W6 (rdZ (updZ (sq0 y1 y2 y3 y4 y5 y6 y7 y8 y9 y10 y11 y12 y13 y14 y15 y16 y17 y18 y19 y20 y21 y22 y23 y24 y25 y26 y27 y28 y29 y30 y31 y32) y0 (W6 (y34 * y35))) 3)) (W6 (rdZ (updZ (sq0 y1 y2 y3 y4 y5 y6 y7 y8 y9 y10 y11 y12 y13 y14 y15
 y16 y17 y18 y19 y20 y21 y22 y23 y24 y25 y26 y27 y28 y29 y30 y31 y32) y0 (W6 (y34 * y35))) 4)) (W6 (rdZ (updZ (sq0 y1 y2 y3 y4 y5 y6 y7 y8 y9 y10 y11 y12 y13 y14 y15 y16 y17 y18 y19 y20 y21 y22 y23 y24 y25 y26 y27 y28 y29 y30 y31 y32) y0 (W6 (y34 * y35))) 5)) (W6 (rdZ (updZ (sq0 y1 y2 y3 y4 y5 y6 y7 y8 y9 y10 y11 y12 y13 y14 y15 y16 y17 y18 y19 y20 y21 y22 y23 y24 y25 y26 y27 y28 y29 y30 y31 y32) y0 (W6 (y34 * y35))) 6)) (W6 (rdZ (updZ (sq0 y1 y2 y3 y4 y5 y6 y7 y8 y9 y10 y11 y12 y13 y14 y15 y16 y17 y18 y19 y20 y21 y22 y23 y24 y25 y26 y27 y28 y29 y30 y31 y32) y0 (W6 (y34 * y35))) 7)) (W6 (rdZ (updZ (sq0 y1 y2 y3 y4 y5 y6 y7 y8 y9 y10 y11 y12 y13 y14 y15 y16 y17 y18 y19 y20 y21 y22 y23 y24 y25 y26 y27 y28 y29 y30 y31 y32) y0 (W6 (y34 * y35))) 8)) (W6 (rdZ (updZ (sq0 y1 y2 y3 y4 y5 y6 y7 y8
 y9 y10 y11 y12 y13 y14 y15 y16 y17 y18 y19 y20 y21 y22 y23 y24 y25 y26 y27 y28 y29 y30 y31 y32) y0 (W6 (y34 * y35))) 9)) (W6 (rdZ (updZ (sq0 y1 y2 y3 y4 y5 y6 y7 y8 y9 y10 y11 y12 y13 y14 y15 y16 y17 y18 y19 y20 y21 y22 y23 y24 y25 y26 y27 y28 y29 y30 y31 y32) y0 (W6 (y34 * y35))) 10)) (W6 (rdZ (updZ (sq0 y1 y2 y3 y4 y5 y6 y7 y8 y9 y10 y11 y12 y13 y14 y15 y16 y17 y18 y19 y20 y21 y22 y23 y24 y25 y26 y27 y28 y29 y30 y31 y32) y0 (W6 (y34 * y35))) 11)) (W6 (rdZ (updZ (sq0 y1 y2 y3 y4 y5 y6 y7 y8 y9 y10 y11 y12 y13 y14 y15 y16 y17 y18 y19 y20 y21 y22 y23 y24 y25 y26 y27 y28 y29 y30 y31 y32) y0 (W6 (y34 * y35))) 12)) (W6 (rdZ (updZ (sq0 y1 y2 y3 y4 y5 y6 y7 y8 y9 y10 y11 y12 y13 y14 y15 y16 y17 y18 y19 y20 y21 y22 y23 y24 y25 y26 y27 y28 y29 y30 y31 y32) y0 (W6 (y34 * y35))) 13)) (W6 (rdZ
 (updZ (sq0 y1 y2 y3 y4 y5 y6 y7 y8 y9 y10 y11 y12 y13 y14 y15 y16 y17 y18 y19 y20 y21 y22 y23 y24 y25 y26 y27 y28 y29 y30 y31 y32) y0 (W6 (y34 * y35))) 14)) (W6 (rdZ (updZ (sq0 y1 y2 y3 y4 y5 y6 y7 y8 y9 y10 y11 y12 y13 y14 y15 y16 y17 y18 y19 y20 y21 y22 y23 y24 y25 y26 y27 y28 y29 y30 y31 y32) y0 (W6 (y34 * y35))) 15)) (W6 (rdZ (updZ (sq0 y1 y2 y3 y4 y5 y6 y7 y8 y9 y10 y11 y12 y13 y14 y15 y16 y17 y18 y19 y20 y21 y22 y23 y24 y25 y26 y27 y28 y29 y30 y31 y32) y0 (W6 (y34 * y35))) 16)) (W6 (rdZ (updZ (sq0 y1 y2 y3 y4 y5 y6 y7 y8 y9 y10 y11 y12 y13 y14 y15 y16 y17 y18 y19 y20 y21 y22 y23 y24 y25 y26 y27 y28 y29 y30 y31 y32) y0 (W6 (y34 * y35))) 17)) (W6 (rdZ (updZ (sq0 y1 y2 y3 y4 y5 y6 y7 y8 y9 y10 y11 y12 y13 y14 y15 y16 y17 y18 y19 y20 y21 y22 y23 y24 y25 y26 y27 y28 y29 y30 y31 y32) y0
 (W6 (y34 * y35))) 18)) (W6 (rdZ (updZ (sq0 y1 y2 y3 y4 y5 y6 y7 y8 y9 y10 y11 y12 y13 y14 y15 y16 y17 y18 y19 y20 y21 y22 y23 y24 y25 y26 y27 y28 y29 y30 y31 y32) y0 (W6 (y34 * y35))) 19)) (W6 (rdZ (updZ (sq0 y1 y2 y3 y4 y5 y6 y7 y8 y9 y10 y11 y12 y13 y14 y15 y16 y17 y18 y19 y20 y21 y22 y23 y24 y25 y26 y27 y28 y29 y30 y31 y32) y0 (W6 (y34 * y35))) 20)) (W6 (rdZ (updZ (sq0 y1 y2 y3 y4 y5 y6 y7 y8 y9 y10 y11 y12 y13 y14 y15 y16 y17 y18 y19 y20 y21 y22 y23 y24 y25 y26 y27 y28 y29 y30 y31 y32) y0 (W6 (y34 * y35))) 21)) (W6 (rdZ (updZ (sq0 y1 y2 y3 y4 y5 y6 y7 y8 y9 y10 y11 y12 y13 y14 y15 y16 y17 y18 y19 y20 y21 y22 y23 y24 y25 y26 y27 y28 y29 y30 y31 y32) y0 (W6 (y34 * y35))) 22)) (W6 (rdZ (updZ (sq0 y1 y2 y3 y4 y5 y6 y7 y8 y9 y10 y11 y12 y13 y14 y15 y16 y17 y18 y19 y20 y21 y22 y23 y24 y25
 y26 y27 y28 y29 y30 y31 y32) y0 (W6 (y34 * y35))) 23)) (W6 (rdZ (updZ (sq0 y1 y2 y3 y4 y5 y6 y7 y8 y9 y10 y11 y12 y13 y14 y15 y16 y17 y18 y19 y20 y21 y22 y23 y24 y25 y26 y27 y28 y29 y30 y31 y32) y0 (W6 (y34 * y35))) 24)) (W6 (rdZ (updZ (sq0 y1 y2 y3 y4 y5 y6 y7 y8 y9 y10 y11 y12 y13 y14 y15 y16 y17 y18 y19 y20 y21 y22 y23 y24 y25 y26 y27 y28 y29 y30 y31 y32) y0 (W6 (y34 * y35))) 25)) (W6 (rdZ (updZ (sq0 y1 y2 y3 y4 y5 y6 y7 y8 y9 y10 y11 y12 y13 y14 y15 y16 y17 y18 y19 y20 y21 y22 y23 y24 y25 y26 y27 y28 y29 y30 y31 y32) y0 (W6 (y34 * y35))) 26)) (W6 (rdZ (updZ (sq0 y1 y2 y3 y4 y5 y6 y7 y8 y9 y10 y11 y12 y13 y14 y15 y16 y17 y18 y19 y20 y21 y22 y23 y24 y25 y26 y27 y28 y29 y30 y31 y32) y0 (W6 (y34 * y35))) 27)) (W6 (rdZ (updZ (sq0 y1 y2 y3 y4 y5 y6 y7 y8 y9 y10 y11 y12 y13 y14 y15 y16 y17
 y18 y19 y20 y21 y22 y23 y24 y25 y26 y27 y28 y29 y30 y31 y32) y0 (W6 (y34 * y35))) 28)) (W6 (rdZ (updZ (sq0 y1 y2 y3 y4 y5 y6 y7 y8 y9 y10 y11 y12 y13 y14 y15 y16 y17 y18 y19 y20 y21 y22 y23 y24 y25 y26 y27 y28 y29 y30 y31 y32) y0 (W6 (y34 * y35))) 29)) (W6 (rdZ (updZ (sq0 y1 y2 y3 y4 y5 y6 y7 y8 y9 y10 y11 y12 y13 y14 y15 y16 y17 y18 y19 y20 y21 y22 y23 y24 y25 y26 y27 y28 y29 y30 y31 y32) y0 (W6 (y34 * y35))) 30)) (W6 (rdZ (updZ (sq0 y1 y2 y3 y4 y5 y6 y7 y8 y9 y10 y11 y12 y13 y14 y15 y16 y17 y18 y19 y20 y21 y22 y23 y24 y25 y26 y27 y28 y29 y30 y31 y32) y0 (W6 (y34 * y35))) 31)) m')) (Pb (Pe a 1) (Pm (PL 0 y0) (Pn (W6 (rdZ (sq0 y1 y2 y3 y4 y5 y6 y7 y8 y9 y10 y11 y12 y13 y14 y15 y16 y17 y18 y19 y20 y21 y22 y23 y24 y25 y26 y27 y28 y29 y30 y31 y32) y0)) (-9223372036854775808)
 9223372036854775807 fun y34 => Pn (sq1 c y0) (-9223372036854775808) 9223372036854775807 fun y35 => Pn (W6 ((W6 (y34 + y35)) - (W6 (y34 * y35)))) (-9223372036854775808) 9223372036854775807 fun y36 => ∃ m', m' < m0 ∧ I1000 (W6 (y0 + 1)) (W6 (rdZ (updZ (sq0 y1 y2 y3 y4 y5 y6 y7 y8 y9 y10 y11 y12 y13 y14 y15 y16 y17 y18 y19 y20 y21 y22 y23 y24 y25 y26 y27 y28 y29 y30 y31 y32) y0 y36) 0)) (W6 (rdZ (updZ (sq0 y1 y2 y3 y4 y5 y6 y7 y8 y9 y10 y11 y12 y13 y14 y15 y16 y17 y18 y19 y20 y21 y22 y23 y24 y25 y26 y27 y28 y29 y30 y31 y32) y0 y36) 1)) (W6 (rdZ (updZ (sq0 y1 y2 y3 y4 y5 y6 y7 y8 y9 y10 y11 y12 y13 y14 y15 y16 y17 y18 y19 y20 y21 y22 y23 y24 y25 y26 y27 y28 y29 y30 y31 y32) y0 y36) 2)) (W6 (rdZ (updZ (sq0 y1 y2 y3 y4 y5 y6 y7 y8 y9 y10 y11 y12 y13 y14 y15 y16 y17 y18 y19 y20 y21 y22 y23 y24
 y25 y26 y27 y28 y29 y30 y31 y32) y0 y36) 3)) (W6 (rdZ (updZ (sq0 y1 y2 y3 y4 y5 y6 y7 y8 y9 y10 y11 y12 y13 y14 y15 y16 y17 y18 y19 y20 y21 y22 y23 y24 y25 y26 y27 y28 y29 y30 y31 y32) y0 y36) 4)) (W6 (rdZ (updZ (sq0 y1 y2 y3 y4 y5 y6 y7 y8 y9 y10 y11 y12 y13 y14 y15 y16 y17 y18 y19 y20 y21 y22 y23 y24 y25 y26 y27 y28 y29 y30 y31 y32) y0 y36) 5)) (W6 (rdZ (updZ (sq0 y1 y2 y3 y4 y5 y6 y7 y8 y9 y10 y11 y12 y13 y14 y15 y16 y17 y18 y19 y20 y21 y22 y23 y24 y25 y26 y27 y28 y29 y30 y31 y32) y0 y36) 6)) (W6 (rdZ (updZ (sq0 y1 y2 y3 y4 y5 y6 y7 y8 y9 y10 y11 y12 y13 y14 y15 y16 y17 y18 y19 y20 y21 y22 y23 y24 y25 y26 y27 y28 y29 y30 y31 y32) y0 y36) 7)) (W6 (rdZ (updZ (sq0 y1 y2 y3 y4 y5 y6 y7 y8 y9 y10 y11 y12 y13 y14 y15 y16 y17 y18 y19 y20 y21 y22 y23 y24 y25 y26 y27 y28 y29 y30 y31 y32) y0
 y36) 8)) (W6 (rdZ (updZ (sq0 y1 y2 y3 y4 y5 y6 y7 y8 y9 y10 y11 y12 y13 y14 y15 y16 y17 y18 y19 y20 y21 y22 y23 y24 y25 y26 y27 y28 y29 y30 y31 y32) y0 y36) 9)) (W6 (rdZ (updZ (sq0 y1 y2 y3 y4 y5 y6 y7 y8 y9 y10 y11 y12 y13 y14 y15 y16 y17 y18 y19 y20 y21 y22 y23 y24 y25 y26 y27 y28 y29 y30 y31 y32) y0 y36) 10)) (W6 (rdZ (updZ (sq0 y1 y2 y3 y4 y5 y6 y7 y8 y9 y10 y11 y12 y13 y14 y15 y16 y17 y18 y19 y20 y21 y22 y23 y24 y25 y26 y27 y28 y29 y30 y31 y32) y0 y36) 11)) (W6 (rdZ (updZ (sq0 y1 y2 y3 y4 y5 y6 y7 y8 y9 y10 y11 y12 y13 y14 y15 y16 y17 y18 y19 y20 y21 y22 y23 y24 y25 y26 y27 y28 y29 y30 y31 y32) y0 y36) 12)) (W6 (rdZ (updZ (sq0 y1 y2 y3 y4 y5 y6 y7 y8 y9 y10 y11 y12 y13 y14 y15 y16 y17 y18 y19 y20 y21 y22 y23 y24 y25 y26 y27 y28 y29 y30 y31 y32) y0 y36) 13)) (W6 (rdZ (updZ (sq0 y1 y2
 y3 y4 y5 y6 y7 y8 y9 y10 y11 y12 y13 y14 y15 y16 y17 y18 y19 y20 y21 y22 y23 y24 y25 y26 y27 y28 y29 y30 y31 y32) y0 y36) 14)) (W6 (rdZ (updZ (sq0 y1 y2 y3 y4 y5 y6 y7 y8 y9 y10 y11 y12 y13 y14 y15 y16 y17 y18 y19 y20 y21 y22 y23 y24 y25 y26 y27 y28 y29 y30 y31 y32) y0 y36) 15)) (W6 (rdZ (updZ (sq0 y1 y2 y3 y4 y5 y6 y7 y8 y9 y10 y11 y12 y13 y14 y15 y16 y17 y18 y19 y20 y21 y22 y23 y24 y25 y26 y27 y28 y29 y30 y31 y32) y0 y36) 16)) (W6 (rdZ (updZ (sq0 y1 y2 y3 y4 y5 y6 y7 y8 y9 y10 y11 y12 y13 y14 y15 y16 y17 y18 y19 y20 y21 y22 y23 y24 y25 y26 y27 y28 y29 y30 y31 y32) y0 y36) 17)) (W6 (rdZ (updZ (sq0 y1 y2 y3 y4 y5 y6 y7 y8 y9 y10 y11 y12 y13 y14 y15 y16 y17 y18 y19 y20 y21 y22 y23 y24 y25 y26 y27 y28 y29 y30 y31 y32) y0 y36) 18)) (W6 (rdZ (updZ (sq0 y1 y2 y3 y4 y5 y6 y7 y8 y9 y10 y11 y12
 y13 y14 y15 y16 y17 y18 y19 y20 y21 y22 y23 y24 y25 y26 y27 y28 y29 y30 y31 y32) y0 y36) 19)) (W6 (rdZ (updZ (sq0 y1 y2 y3 y4 y5 y6 y7 y8 y9 y10 y11 y12 y13 y14 y15 y16 y17 y18 y19 y20 y21 y22 y23 y24 y25 y26 y27 y28 y29 y30 y31 y32) y0 y36) 20)) (W6 (rdZ (updZ (sq0 y1 y2 y3 y4 y5 y6 y7 y8 y9 y10 y11 y12 y13 y14 y15 y16 y17 y18 y19 y20 y21 y22 y23 y24 y25 y26 y27 y28 y29 y30 y31 y32) y0 y36) 21)) (W6 (rdZ (updZ (sq0 y1 y2 y3 y4 y5 y6 y7 y8 y9 y10 y11 y12 y13 y14 y15 y16 y17 y18 y19 y20 y21 y22 y23 y24 y25 y26 y27 y28 y29 y30 y31 y32) y0 y36) 22)) (W6 (rdZ (updZ (sq0 y1 y2 y3 y4 y5 y6 y7 y8 y9 y10 y11 y12 y13 y14 y15 y16 y17 y18 y19 y20 y21 y22 y23 y24 y25 y26 y27 y28 y29 y30 y31 y32) y0 y36) 23)) (W6 (rdZ (updZ (sq0 y1 y2 y3 y4 y5 y6 y7 y8 y9 y10 y11 y12 y13 y14 y15 y16 y17 y18 y19 y20
 y21 y22 y23 y24 y25 y26 y27 y28 y29 y30 y31 y32) y0 y36) 24)) (W6 (rdZ (updZ (sq0 y1 y2 y3 y4 y5 y6 y7 y8 y9 y10 y11 y12 y13 y14 y15 y16 y17 y18 y19 y20 y21 y22 y23 y24 y25 y26 y27 y28 y29 y30 y31 y32) y0 y36) 25)) (W6 (rdZ (updZ (sq0 y1 y2 y3 y4 y5 y6 y7 y8 y9 y10 y11 y12 y13 y14 y15 y16 y17 y18 y19 y20 y21 y22 y23 y24 y25 y26 y27 y28 y29 y30 y31 y32) y0 y36) 26)) (W6 (rdZ (updZ (sq0 y1 y2 y3 y4 y5 y6 y7 y8 y9 y10 y11 y12 y13 y14 y15 y16 y17 y18 y19 y20 y21 y22 y23 y24 y25 y26 y27 y28 y29 y30 y31 y32) y0 y36) 27)) (W6 (rdZ (updZ (sq0 y1 y2 y3 y4 y5 y6 y7 y8 y9 y10 y11 y12 y13 y14 y15 y16 y17 y18 y19 y20 y21 y22 y23 y24 y25 y26 y27 y28 y29 y30 y31 y32) y0 y36) 28)) (W6 (rdZ (updZ (sq0 y1 y2 y3 y4 y5 y6 y7 y8 y9 y10 y11 y12 y13 y14 y15 y16 y17 y18 y19 y20 y21 y22 y23 y24 y25 y26 y27 y28
 y29 y30 y31 y32) y0 y36) 29)) (W6 (rdZ (updZ (sq0 y1 y2 y3 y4 y5 y6 y7 y8 y9 y10 y11 y12 y13 y14 y15 y16 y17 y18 y19 y20 y21 y22 y23 y24 y25 y26 y27 y28 y29 y30 y31 y32) y0 y36) 30)) (W6 (rdZ (updZ (sq0 y1 y2 y3 y4 y5 y6 y7 y8 y9 y10 y11 y12 y13 y14 y15 y16 y17 y18 y19 y20 y21 y22 y23 y24 y25 y26 y27 y28 y29 y30 y31 y32) y0 y36) 31)) m')) (Pb (Pe a 2) (Pm (PL 0 y0) (Pn (W6 (rdZ (sq0 y1 y2 y3 y4 y5 y6 y7 y8 y9 y10 y11 y12 y13 y14 y15 y16 y17 y18 y19 y20 y21 y22 y23 y24 y25 y26 y27 y28 y29 y30 y31 y32) y0)) (-9223372036854775808) 9223372036854775807 fun y34 => Pn (sq1 c y0) (-9223372036854775808) 9223372036854775807 fun y35 => Pn (BO.ev .rem .i64 (W6 (y34 + y35)) 2) (-1) 1 fun y36 => ∃ m', m' < m0 ∧ I1000 (W6 (y0 + 1)) (W6 (rdZ (updZ (sq0 y1 y2 y3 y4 y5 y6 y7 y8 y9 y10 y11 y12 y13 y14 y15
 y16 y17 y18 y19 y20 y21 y22 y23 y24 y25 y26 y27 y28 y29 y30 y31 y32) y0 y36) 0)) (W6 (rdZ (updZ (sq0 y1 y2 y3 y4 y5 y6 y7 y8 y9 y10 y11 y12 y13 y14 y15 y16 y17 y18 y19 y20 y21 y22 y23 y24 y25 y26 y27 y28 y29 y30 y31 y32) y0 y36) 1)) (W6 (rdZ (updZ (sq0 y1 y2 y3 y4 y5 y6 y7 y8 y9 y10 y11 y12 y13 y14 y15 y16 y17 y18 y19 y20 y21 y22 y23 y24 y25 y26 y27 y28 y29 y30 y31 y32) y0 y36) 2)) (W6 (rdZ (updZ (sq0 y1 y2 y3 y4 y5 y6 y7 y8 y9 y10 y11 y12 y13 y14 y15 y16 y17 y18 y19 y20 y21 y22 y23 y24 y25 y26 y27 y28 y29 y30 y31 y32) y0 y36) 3)) (W6 (rdZ (updZ (sq0 y1 y2 y3 y4 y5 y6 y7 y8 y9 y10 y11 y12 y13 y14 y15 y16 y17 y18 y19 y20 y21 y22 y23 y24 y25 y26 y27 y28 y29 y30 y31 y32) y0 y36) 4)) (W6 (rdZ (updZ (sq0 y1 y2 y3 y4 y5 y6 y7 y8 y9 y10 y11 y12 y13 y14 y15 y16 y17 y18 y19 y20 y21 y22 y23 y24
 y25 y26 y27 y28 y29 y30 y31 y32) y0 y36) 5)) (W6 (rdZ (updZ (sq0 y1 y2 y3 y4 y5 y6 y7 y8 y9 y10 y11 y12 y13 y14 y15 y16 y17 y18 y19 y20 y21 y22 y23 y24 y25 y26 y27 y28 y29 y30 y31 y32) y0 y36) 6)) (W6 (rdZ (updZ (sq0 y1 y2 y3 y4 y5 y6 y7 y8 y9 y10 y11 y12 y13 y14 y15 y16 y17 y18 y19 y20 y21 y22 y23 y24 y25 y26 y27 y28 y29 y30 y31 y32) y0 y36) 7)) (W6 (rdZ (updZ (sq0 y1 y2 y3 y4 y5 y6 y7 y8 y9 y10 y11 y12 y13 y14 y15 y16 y17 y18 y19 y20 y21 y22 y23 y24 y25 y26 y27 y28 y29 y30 y31 y32) y0 y36) 8)) (W6 (rdZ (updZ (sq0 y1 y2 y3 y4 y5 y6 y7 y8 y9 y10 y11 y12 y13 y14 y15 y16 y17 y18 y19 y20 y21 y22 y23 y24 y25 y26 y27 y28 y29 y30 y31 y32) y0 y36) 9)) (W6 (rdZ (updZ (sq0 y1 y2 y3 y4 y5 y6 y7 y8 y9 y10 y11 y12 y13 y14 y15 y16 y17 y18 y19 y20 y21 y22 y23 y24 y25 y26 y27 y28 y29 y30 y31 y32) y0
 y36) 10)) (W6 (rdZ (updZ (sq0 y1 y2 y3 y4 y5 y6 y7 y8 y9 y10 y11 y12 y13 y14 y15 y16 y17 y18 y19 y20 y21 y22 y23 y24 y25 y26 y27 y28 y29 y30 y31 y32) y0 y36) 11)) (W6 (rdZ (updZ (sq0 y1 y2 y3 y4 y5 y6 y7 y8 y9 y10 y11 y12 y13 y14 y15 y16 y17 y18 y19 y20 y21 y22 y23 y24 y25 y26 y27 y28 y29 y30 y31 y32) y0 y36) 12)) (W6 (rdZ (updZ (sq0 y1 y2 y3 y4 y5 y6 y7 y8 y9 y10 y11 y12 y13 y14 y15 y16 y17 y18 y19 y20 y21 y22 y23 y24 y25 y26 y27 y28 y29 y30 y31 y32) y0 y36) 13)) (W6 (rdZ (updZ (sq0 y1 y2 y3 y4 y5 y6 y7 y8 y9 y10 y11 y12 y13 y14 y15 y16 y17 y18 y19 y20 y21 y22 y23 y24 y25 y26 y27 y28 y29 y30 y31 y32) y0 y36) 14)) (W6 (rdZ (updZ (sq0 y1 y2 y3 y4 y5 y6 y7 y8 y9 y10 y11 y12 y13 y14 y15 y16 y17 y18 y19 y20 y21 y22 y23 y24 y25 y26 y27 y28 y29 y30 y31 y32) y0 y36) 15)) (W6 (rdZ (updZ (sq0 y1
 y2 y3 y4 y5 y6 y7 y8 y9 y10 y11 y12 y13 y14 y15 y16 y17 y18 y19 y20 y21 y22 y23 y24 y25 y26 y27 y28 y29 y30 y31 y32) y0 y36) 16)) (W6 (rdZ (updZ (sq0 y1 y2 y3 y4 y5 y6 y7 y8 y9 y10 y11 y12 y13 y14 y15 y16 y17 y18 y19 y20 y21 y22 y23 y24 y25 y26 y27 y28 y29 y30 y31 y32) y0 y36) 17)) (W6 (rdZ (updZ (sq0 y1 y2 y3 y4 y5 y6 y7 y8 y9 y10 y11 y12 y13 y14 y15 y16 y17 y18 y19 y20 y21 y22 y23 y24 y25 y26 y27 y28 y29 y30 y31 y32) y0 y36) 18)) (W6 (rdZ (updZ (sq0 y1 y2 y3 y4 y5 y6 y7 y8 y9 y10 y11 y12 y13 y14 y15 y16 y17 y18 y19 y20 y21 y22 y23 y24 y25 y26 y27 y28 y29 y30 y31 y32) y0 y36) 19)) (W6 (rdZ (updZ (sq0 y1 y2 y3 y4 y5 y6 y7 y8 y9 y10 y11 y12 y13 y14 y15 y16 y17 y18 y19 y20 y21 y22 y23 y24 y25 y26 y27 y28 y29 y30 y31 y32) y0 y36) 20)) (W6 (rdZ (updZ (sq0 y1 y2 y3 y4 y5 y6 y7 y8 y9 y10 y11
 y12 y13 y14 y15 y16 y17 y18 y19 y20 y21 y22 y23 y24 y25 y26 y27 y28 y29 y30 y31 y32) y0 y36) 21)) (W6 (rdZ (updZ (sq0 y1 y2 y3 y4 y5 y6 y7 y8 y9 y10 y11 y12 y13 y14 y15 y16 y17 y18 y19 y20 y21 y22 y23 y24 y25 y26 y27 y28 y29 y30 y31 y32) y0 y36) 22)) (W6 (rdZ (updZ (sq0 y1 y2 y3 y4 y5 y6 y7 y8 y9 y10 y11 y12 y13 y14 y15 y16 y17 y18 y19 y20 y21 y22 y23 y24 y25 y26 y27 y28 y29 y30 y31 y32) y0 y36) 23)) (W6 (rdZ (updZ (sq0 y1 y2 y3 y4 y5 y6 y7 y8 y9 y10 y11 y12 y13 y14 y15 y16 y17 y18 y19 y20 y21 y22 y23 y24 y25 y26 y27 y28 y29 y30 y31 y32) y0 y36) 24)) (W6 (rdZ (updZ (sq0 y1 y2 y3 y4 y5 y6 y7 y8 y9 y10 y11 y12 y13 y14 y15 y16 y17 y18 y19 y20 y21 y22 y23 y24 y25 y26 y27 y28 y29 y30 y31 y32) y0 y36) 25)) (W6 (rdZ (updZ (sq0 y1 y2 y3 y4 y5 y6 y7 y8 y9 y10 y11 y12 y13 y14 y15 y16 y17 y18 y19
 y20 y21 y22 y23 y24 y25 y26 y27 y28 y29 y30 y31 y32) y0 y36) 26)) (W6 (rdZ (updZ (sq0 y1 y2 y3 y4 y5 y6 y7 y8 y9 y10 y11 y12 y13 y14 y15 y16 y17 y18 y19 y20 y21 y22 y23 y24 y25 y26 y27 y28 y29 y30 y31 y32) y0 y36) 27)) (W6 (rdZ (updZ (sq0 y1 y2 y3 y4 y5 y6 y7 y8 y9 y10 y11 y12 y13 y14 y15 y16 y17 y18 y19 y20 y21 y22 y23 y24 y25 y26 y27 y28 y29 y30 y31 y32) y0 y36) 28)) (W6 (rdZ (updZ (sq0 y1 y2 y3 y4 y5 y6 y7 y8 y9 y10 y11 y12 y13 y14 y15 y16 y17 y18 y19 y20 y21 y22 y23 y24 y25 y26 y27 y28 y29 y30 y31 y32) y0 y36) 29)) (W6 (rdZ (updZ (sq0 y1 y2 y3 y4 y5 y6 y7 y8 y9 y10 y11 y12 y13 y14 y15 y16 y17 y18 y19 y20 y21 y22 y23 y24 y25 y26 y27 y28 y29 y30 y31 y32) y0 y36) 30)) (W6 (rdZ (updZ (sq0 y1 y2 y3 y4 y5 y6 y7 y8 y9 y10 y11 y12 y13 y14 y15 y16 y17 y18 y19 y20 y21 y22 y23 y24 y25 y26 y27
 y28 y29 y30 y31 y32) y0 y36) 31)) m')) (Pm (PL 0 y0) (Pn (W6 (rdZ (sq0 y1 y2 y3 y4 y5 y6 y7 y8 y9 y10 y11 y12 y13 y14 y15 y16 y17 y18 y19 y20 y21 y22 y23 y24 y25 y26 y27 y28 y29 y30 y31 y32) y0)) (-9223372036854775808) 9223372036854775807 fun y34 => Pn (sq1 c y0) (-9223372036854775808) 9223372036854775807 fun y35 => Pn (W6 (y34 * (W6 (1 - y35)))) (-9223372036854775808) 9223372036854775807 fun y36 => ∃ m', m' < m0 ∧ I1000 (W6 (y0 + 1)) (W6 (rdZ (updZ (sq0 y1 y2 y3 y4 y5 y6 y7 y8 y9 y10 y11 y12 y13 y14 y15 y16 y17 y18 y19 y20 y21 y22 y23 y24 y25 y26 y27 y28 y29 y30 y31 y32) y0 y36) 0)) (W6 (rdZ (updZ (sq0 y1 y2 y3 y4 y5 y6 y7 y8 y9 y10 y11 y12 y13 y14 y15 y16 y17 y18 y19 y20 y21 y22 y23 y24 y25 y26 y27 y28 y29 y30 y31 y32) y0 y36) 1)) (W6 (rdZ (updZ (sq0 y1 y2 y3 y4 y5 y6 y7 y8 y9 y10 y11
 y12 y13 y14 y15 y16 y17 y18 y19 y20 y21 y22 y23 y24 y25 y26 y27 y28 y29 y30 y31 y32) y0 y36) 2)) (W6 (rdZ (updZ (sq0 y1 y2 y3 y4 y5 y6 y7 y8 y9 y10 y11 y12 y13 y14 y15 y16 y17 y18 y19 y20 y21 y22 y23 y24 y25 y26 y27 y28 y29 y30 y31 y32) y0 y36) 3)) (W6 (rdZ (updZ (sq0 y1 y2 y3 y4 y5 y6 y7 y8 y9 y10 y11 y12 y13 y14 y15 y16 y17 y18 y19 y20 y21 y22 y23 y24 y25 y26 y27 y28 y29 y30 y31 y32) y0 y36) 4)) (W6 (rdZ (updZ (sq0 y1 y2 y3 y4 y5 y6 y7 y8 y9 y10 y11 y12 y13 y14 y15 y16 y17 y18 y19 y20 y21 y22 y23 y24 y25 y26 y27 y28 y29 y30 y31 y32) y0 y36) 5)) (W6 (rdZ (updZ (sq0 y1 y2 y3 y4 y5 y6 y7 y8 y9 y10 y11 y12 y13 y14 y15 y16 y17 y18 y19 y20 y21 y22 y23 y24 y25 y26 y27 y28 y29 y30 y31 y32) y0 y36) 6)) (W6 (rdZ (updZ (sq0 y1 y2 y3 y4 y5 y6 y7 y8 y9 y10 y11 y12 y13 y14 y15 y16 y17 y18 y19 y20
 y21 y22 y23 y24 y25 y26 y27 y28 y29 y30 y31 y32) y0 y36) 7)) (W6 (rdZ (updZ (sq0 y1 y2 y3 y4 y5 y6 y7 y8 y9 y10 y11 y12 y13 y14 y15 y16 y17 y18 y19 y20 y21 y22 y23 y24 y25 y26 y27 y28 y29 y30 y31 y32) y0 y36) 8)) (W6 (rdZ (updZ (sq0 y1 y2 y3 y4 y5 y6 y7 y8 y9 y10 y11 y12 y13 y14 y15 y16 y17 y18 y19 y20 y21 y22 y23 y24 y25 y26 y27 y28 y29 y30 y31 y32) y0 y36) 9)) (W6 (rdZ (updZ (sq0 y1 y2 y3 y4 y5 y6 y7 y8 y9 y10 y11 y12 y13 y14 y15 y16 y17 y18 y19 y20 y21 y22 y23 y24 y25 y26 y27 y28 y29 y30 y31 y32) y0 y36) 10)) (W6 (rdZ (updZ (sq0 y1 y2 y3 y4 y5 y6 y7 y8 y9 y10 y11 y12 y13 y14 y15 y16 y17 y18 y19 y20 y21 y22 y23 y24 y25 y26 y27 y28 y29 y30 y31 y32) y0 y36) 11)) (W6 (rdZ (updZ (sq0 y1 y2 y3 y4 y5 y6 y7 y8 y9 y10 y11 y12 y13 y14 y15 y16 y17 y18 y19 y20 y21 y22 y23 y24 y25 y26 y27 y28 y29
 y30 y31 y32) y0 y36) 12)) (W6 (rdZ (updZ (sq0 y1 y2 y3 y4 y5 y6 y7 y8 y9 y10 y11 y12 y13 y14 y15 y16 y17 y18 y19 y20 y21 y22 y23 y24 y25 y26 y27 y28 y29 y30 y31 y32) y0 y36) 13)) (W6 (rdZ (updZ (sq0 y1 y2 y3 y4 y5 y6 y7 y8 y9 y10 y11 y12 y13 y14 y15 y16 y17 y18 y19 y20 y21 y22 y23 y24 y25 y26 y27 y28 y29 y30 y31 y32) y0 y36) 14)) (W6 (rdZ (updZ (sq0 y1 y2 y3 y4 y5 y6 y7 y8 y9 y10 y11 y12 y13 y14 y15 y16 y17 y18 y19 y20 y21 y22 y23 y24 y25 y26 y27 y28 y29 y30 y31 y32) y0 y36) 15)) (W6 (rdZ (updZ (sq0 y1 y2 y3 y4 y5 y6 y7 y8 y9 y10 y11 y12 y13 y14 y15 y16 y17 y18 y19 y20 y21 y22 y23 y24 y25 y26 y27 y28 y29 y30 y31 y32) y0 y36) 16)) (W6 (rdZ (updZ (sq0 y1 y2 y3 y4 y5 y6 y7 y8 y9 y10 y11 y12 y13 y14 y15 y16 y17 y18 y19 y20 y21 y22 y23 y24 y25 y26 y27 y28 y29 y30 y31 y32) y0 y36) 17)) (W6
 (rdZ (updZ (sq0 y1 y2 y3 y4 y5 y6 y7 y8 y9 y10 y11 y12 y13 y14 y15 y16 y17 y18 y19 y20 y21 y22 y23 y24 y25 y26 y27 y28 y29 y30 y31 y32) y0 y36) 18)) (W6 (rdZ (updZ (sq0 y1 y2 y3 y4 y5 y6 y7 y8 y9 y10 y11 y12 y13 y14 y15 y16 y17 y18 y19 y20 y21 y22 y23 y24 y25 y26 y27 y28 y29 y30 y31 y32) y0 y36) 19)) (W6 (rdZ (updZ (sq0 y1 y2 y3 y4 y5 y6 y7 y8 y9 y10 y11 y12 y13 y14 y15 y16 y17 y18 y19 y20 y21 y22 y23 y24 y25 y26 y27 y28 y29 y30 y31 y32) y0 y36) 20)) (W6 (rdZ (updZ (sq0 y1 y2 y3 y4 y5 y6 y7 y8 y9 y10 y11 y12 y13 y14 y15 y16 y17 y18 y19 y20 y21 y22 y23 y24 y25 y26 y27 y28 y29 y30 y31 y32) y0 y36) 21)) (W6 (rdZ (updZ (sq0 y1 y2 y3 y4 y5 y6 y7 y8 y9 y10 y11 y12 y13 y14 y15 y16 y17 y18 y19 y20 y21 y22 y23 y24 y25 y26 y27 y28 y29 y30 y31 y32) y0 y36) 22)) (W6 (rdZ (updZ (sq0 y1 y2 y3 y4 y5 y6
 y7 y8 y9 y10 y11 y12 y13 y14 y15 y16 y17 y18 y19 y20 y21 y22 y23 y24 y25 y26 y27 y28 y29 y30 y31 y32) y0 y36) 23)) (W6 (rdZ (updZ (sq0 y1 y2 y3 y4 y5 y6 y7 y8 y9 y10 y11 y12 y13 y14 y15 y16 y17 y18 y19 y20 y21 y22 y23 y24 y25 y26 y27 y28 y29 y30 y31 y32) y0 y36) 24)) (W6 (rdZ (updZ (sq0 y1 y2 y3 y4 y5 y6 y7 y8 y9 y10 y11 y12 y13 y14 y15 y16 y17 y18 y19 y20 y21 y22 y23 y24 y25 y26 y27 y28 y29 y30 y31 y32) y0 y36) 25)) (W6 (rdZ (updZ (sq0 y1 y2 y3 y4 y5 y6 y7 y8 y9 y10 y11 y12 y13 y14 y15 y16 y17 y18 y19 y20 y21 y22 y23 y24 y25 y26 y27 y28 y29 y30 y31 y32) y0 y36) 26)) (W6 (rdZ (updZ (sq0 y1 y2 y3 y4 y5 y6 y7 y8 y9 y10 y11 y12 y13 y14 y15 y16 y17 y18 y19 y20 y21 y22 y23 y24 y25 y26 y27 y28 y29 y30 y31 y32) y0 y36) 27)) (W6 (rdZ (updZ (sq0 y1 y2 y3 y4 y5 y6 y7 y8 y9 y10 y11 y12 y13 y14 y15
 y16 y17 y18 y19 y20 y21 y22 y23 y24 y25 y26 y27 y28 y29 y30 y31 y32) y0 y36) 28)) (W6 (rdZ (updZ (sq0 y1 y2 y3 y4 y5 y6 y7 y8 y9 y10 y11 y12 y13 y14 y15 y16 y17 y18 y19 y20 y21 y22 y23 y24 y25 y26 y27 y28 y29 y30 y31 y32) y0 y36) 29)) (W6 (rdZ (updZ (sq0 y1 y2 y3 y4 y5 y6 y7 y8 y9 y10 y11 y12 y13 y14 y15 y16 y17 y18 y19 y20 y21 y22 y23 y24 y25 y26 y27 y28 y29 y30 y31 y32) y0 y36) 30)) (W6 (rdZ (updZ (sq0 y1 y2 y3 y4 y5 y6 y7 y8 y9 y10 y11 y12 y13 y14 y15 y16 y17 y18 y19 y20 y21 y22 y23 y24 y25 y26 y27 y28 y29 y30 y31 y32) y0 y36) 31)) m'))))) (Pn (ofZ y1 y2 (consZ y3 (consZ y4 (consZ y5 (consZ y6 (consZ y7 (consZ y8 (consZ y9 (consZ y10 (consZ y11 (consZ y12 (consZ y13 (consZ y14 (consZ y15 (consZ y16 (consZ y17 (consZ y18 (consZ y19 (consZ y20 (consZ y21 (consZ y22 (consZ y23 (consZ y24
 (consZ y25 (consZ y26 (consZ y27 (consZ y28 (consZ y29 (consZ y30 (consZ y31 (consZ y32 0))))))))))))))))))))))))))))))) (-2147483648) 2147483647 fun y39 => ((y39 : Int) = (aluV (iteZ (Pe a 0) 5 (iteZ (Pe a 1) 6 (iteZ (Pe a 2) 7 8))) b c) ∧ True)))

theorem bits_rdE (x : Int) (k : Int) (h0 : 0 ≤ k) (h : k < 32) : rdZ (consZ (bitZ x 0) (consZ (bitZ x 1) (consZ (bitZ x 2) (consZ (bitZ x 3) (consZ (bitZ x 4) (consZ (bitZ x 5) (consZ (bitZ x 6) (consZ (bitZ x 7) (consZ (bitZ x 8) (consZ (bitZ x 9) (consZ (bitZ x 10) (consZ (bitZ x 11) (consZ (bitZ x 12) (consZ (bitZ x 13) (consZ (bitZ x 14) (consZ (bitZ x 15) (consZ (bitZ x 16) (consZ (bitZ x 17) (consZ (bitZ x 18) (consZ (bitZ x 19) (consZ (bitZ x 20) (consZ (bitZ x 21) (consZ (bitZ x 22) (consZ (bitZ x 23) (consZ (bitZ x 24) (consZ (bitZ x 25) (consZ (bitZ x 26) (consZ (bitZ x 27) (consZ (bitZ x 28) (consZ (bitZ x 29) (consZ (bitZ x 30) (consZ (bitZ x 31) 0)))))))))))))))))))))))))))))))) k = bt (b32 x) k.toNat := by
  have e : (consZ (bitZ x 0) (consZ (bitZ x 1) (consZ (bitZ x 2) (consZ (bitZ x 3) (consZ (bitZ x 4) (consZ (bitZ x 5) (consZ (bitZ x 6) (consZ (bitZ x 7) (consZ (bitZ x 8) (consZ (bitZ x 9) (consZ (bitZ x 10) (consZ (bitZ x 11) (consZ (bitZ x 12) (consZ (bitZ x 13) (consZ (bitZ x 14) (consZ (bitZ x 15) (consZ (bitZ x 16) (consZ (bitZ x 17) (consZ (bitZ x 18) (consZ (bitZ x 19) (consZ (bitZ x 20) (consZ (bitZ x 21) (consZ (bitZ x 22) (consZ (bitZ x 23) (consZ (bitZ x 24) (consZ (bitZ x 25) (consZ (bitZ x 26) (consZ (bitZ x 27) (consZ (bitZ x 28) (consZ (bitZ x 29) (consZ (bitZ x 30) (consZ (bitZ x 31) 0)))))))))))))))))))))))))))))))) = chn ((List.range 32).map fun i : Nat => bitZ x i) := rfl
  rw [e, show k = ((k.toNat : Nat) : Int) by omega, rd_chn]
  have hr : k.toNat < 32 := by omega
  simp only [List.getD_eq_getElem?_getD, List.getElem?_map, List.getElem?_range hr, Option.map_some, Option.getD_some, bitZ_bt, Int.toNat_natCast]
theorem btE_bd (Z : BitVec 32) (i : Nat) : 0 ≤ bt Z i ∧ bt Z i ≤ 1 := by unfold bt; split <;> omega
theorem bt_and (A B : BitVec 32) (i : Nat) : bt A i * bt B i = bt (A &&& B) i := by
  unfold bt; rw [BitVec.getLsbD_and]; cases A.getLsbD i <;> cases B.getLsbD i <;> rfl
theorem bt_or (A B : BitVec 32) (i : Nat) : bt A i + bt B i - bt A i * bt B i = bt (A ||| B) i := by
  unfold bt; rw [BitVec.getLsbD_or]; cases A.getLsbD i <;> cases B.getLsbD i <;> rfl
theorem bt_xor (A B : BitVec 32) (i : Nat) : BO.ev .rem .i64 (bt A i + bt B i) 2 = bt (A ^^^ B) i := by
  unfold bt; rw [BitVec.getLsbD_xor]; cases A.getLsbD i <;> cases B.getLsbD i <;> rfl
theorem bt_bic (A B : BitVec 32) (i : Nat) (h : i < 32) : bt A i * (1 - bt B i) = bt (A &&& ~~~ B) i := by
  unfold bt; rw [BitVec.getLsbD_and, BitVec.getLsbD_not]; simp only [h, decide_true, Bool.true_and]; cases A.getLsbD i <;> cases B.getLsbD i <;> rfl
def GoodL (Z A : BitVec 32) (i : Int) (l : List Int) : Prop := ∀ k : Nat, k < 32 → l.getD k 0 = if (k : Int) < i then bt Z k else bt A k
theorem goodL_step {Z A : BitVec 32} {i x : Int} {l : List Int} (h : GoodL Z A i l) (h0 : 0 ≤ i) (hx : IntKind.wrap .i64 x = bt Z i.toNat) : GoodL Z A (i + 1) ((List.range 32).map fun k : Nat => IntKind.wrap .i64 (rdZ (updZ (chn l) i x) k)) := by
  intro k hk
  simp only [List.getD_eq_getElem?_getD, List.getElem?_map, List.getElem?_range hk, Option.map_some, Option.getD_some]
  rw [rdZ_upd, Int.toNat_natCast]
  by_cases e : k = i.toNat
  · rw [if_pos e, hx, if_pos (by omega), e]
  · rw [if_neg e, rd_chn, h k hk]
    have b1 := btE_bd Z k
    have b2 := btE_bd A k
    by_cases g : (k : Int) < i
    · rw [if_pos g, if_pos (by omega), w64 (by omega) (by omega)]
    · rw [if_neg g, if_neg (by omega), w64 (by omega) (by omega)]
def zOf (p : Int) (A B : BitVec 32) : BitVec 32 := if p = 0 then A &&& B else if p = 1 then A ||| B else if p = 2 then A ^^^ B else A &&& ~~~ B
set_option maxRecDepth 100000 in
set_option maxHeartbeats 8000000 in
theorem holds (p0 p1 p2 : Int) (l_p0 : -9223372036854775808 ≤ p0) (u_p0 : p0 ≤ 9223372036854775807) (l_p1 : -2147483648 ≤ p1) (u_p1 : p1 ≤ 2147483647) (l_p2 : -2147483648 ≤ p2) (u_p2 : p2 ≤ 2147483647) : P p0 p1 p2 := by
  delta P sq0 sq1 Pb Pm Pn PL Pl Pe W6
  simp only [b01_eq, decide_eq_true_eq, decide_eq_false_iff_not, beq_iff_eq, beq_eq_false_iff_ne, bne_iff_ne, bne_eq_false_iff_eq, Int.not_le, Int.not_lt, true_and, and_true, iteZ_ne, ne_eq, Bool.not_eq_false, Bool.not_eq_true, not_true_eq_false, not_false_eq_true, Decidable.not_not, forall_const, false_implies, true_iff, iff_true, false_iff, iff_false, Int.reduceEq, Int.reduceNeg, eq_self, if_true, if_false, reduceIte, ob_le, ob_lt, ob_p, ob_n]
  refine ⟨fun i v0 v1 v2 v3 v4 v5 v6 v7 v8 v9 v10 v11 v12 v13 v14 v15 v16 v17 v18 v19 v20 v21 v22 v23 v24 v25 v26 v27 v28 v29 v30 v31 m => 0 ≤ i ∧ i ≤ 32 ∧ GoodL (zOf p0 (b32 p1) (b32 p2)) (b32 p1) i [v0, v1, v2, v3, v4, v5, v6, v7, v8, v9, v10, v11, v12, v13, v14, v15, v16, v17, v18, v19, v20, v21, v22, v23, v24, v25, v26, v27, v28, v29, v30, v31] ∧ m = (32 - i).toNat, ⟨_, by omega, by omega, fun k hk => ?_, rfl⟩, fun i v0 v1 v2 v3 v4 v5 v6 v7 v8 v9 v10 v11 v12 v13 v14 v15 v16 v17 v18 v19 v20 v21 v22 v23 v24 v25 v26 v27 v28 v29 v30 v31 m hb hI => ?_⟩
  · rw [if_neg (by omega)]
    show ((List.range 32).map fun i : Nat => bitZ p1 i).getD k 0 = _
    simp only [List.getD_eq_getElem?_getD, List.getElem?_map, List.getElem?_range hk, Option.map_some, Option.getD_some, bitZ_bt]
  clear hb
  obtain ⟨i0, i1, hl, rfl⟩ := hI
  have wi : IntKind.wrap .i64 (i + 1) = i + 1 := w64 (by omega) (by omega)
  have hc : (consZ v0 (consZ v1 (consZ v2 (consZ v3 (consZ v4 (consZ v5 (consZ v6 (consZ v7 (consZ v8 (consZ v9 (consZ v10 (consZ v11 (consZ v12 (consZ v13 (consZ v14 (consZ v15 (consZ v16 (consZ v17 (consZ v18 (consZ v19 (consZ v20 (consZ v21 (consZ v22 (consZ v23 (consZ v24 (consZ v25 (consZ v26 (consZ v27 (consZ v28 (consZ v29 (consZ v30 (consZ v31 0)))))))))))))))))))))))))))))))) = chn [v0, v1, v2, v3, v4, v5, v6, v7, v8, v9, v10, v11, v12, v13, v14, v15, v16, v17, v18, v19, v20, v21, v22, v23, v24, v25, v26, v27, v28, v29, v30, v31] := rfl
  simp only [wi, hc]
  refine ⟨fun h1 => ?_, fun h1 => ?_⟩
  · have hx : rdZ (chn [v0, v1, v2, v3, v4, v5, v6, v7, v8, v9, v10, v11, v12, v13, v14, v15, v16, v17, v18, v19, v20, v21, v22, v23, v24, v25, v26, v27, v28, v29, v30, v31]) i = bt (b32 p1) i.toNat := by
      have := hl i.toNat (by omega)
      rw [show i = ((i.toNat : Nat) : Int) by omega, rd_chn, this, if_neg (by omega), Int.toNat_natCast]
    have hy := bits_rdE p2 i i0 h1
    rw [hx, hy]
    have bA := btE_bd (b32 p1) i.toNat
    have bB := btE_bd (b32 p2) i.toNat
    have wA : IntKind.wrap .i64 (bt (b32 p1) i.toNat) = bt (b32 p1) i.toNat := w64 (by omega) (by omega)
    have wB : IntKind.wrap .i64 (bt (b32 p2) i.toNat) = bt (b32 p2) i.toNat := w64 (by omega) (by omega)
    have wZ : ∀ Z : BitVec 32, IntKind.wrap .i64 (bt Z i.toNat) = bt Z i.toNat := fun Z => by have := btE_bd Z i.toNat; exact w64 (by omega) (by omega)
    have m1 : IntKind.wrap .i64 (bt (b32 p1) i.toNat * bt (b32 p2) i.toNat) = bt (b32 p1 &&& b32 p2) i.toNat := by rw [bt_and, wZ]
    have m2 : IntKind.wrap .i64 (bt (b32 p1) i.toNat + bt (b32 p2) i.toNat) = bt (b32 p1) i.toNat + bt (b32 p2) i.toNat := w64 (by omega) (by omega)
    have m3 : IntKind.wrap .i64 (1 - bt (b32 p2) i.toNat) = 1 - bt (b32 p2) i.toNat := w64 (by omega) (by omega)
    have m4 := bt_or (b32 p1) (b32 p2) i.toNat
    have m5 := bt_xor (b32 p1) (b32 p2) i.toNat
    have m6 := bt_bic (b32 p1) (b32 p2) i.toNat (by omega)
    rw [bt_and] at m4
    simp only [wA, wB]
    refine ⟨fun k0 => ⟨i0, ?_⟩, fun k0 => ⟨fun k1 => ⟨i0, ?_⟩, fun k1 => ⟨fun k2 => ⟨i0, ?_⟩, fun k2 => ⟨i0, ?_⟩⟩⟩⟩
    · rintro _ rfl _ _ rfl _
      simp only [m1]
      refine ⟨_, ?_, by omega, by omega, goodL_step hl i0 (x := bt (b32 p1 &&& b32 p2) i.toNat) ?_, rfl⟩
      · omega
      · rw [wZ]; unfold zOf; rw [if_pos k0]
    · rintro _ rfl _ _ rfl _ _ rfl _
      simp only [m1, m2, m4, wZ]
      refine ⟨_, ?_, by omega, by omega, goodL_step hl i0 (x := bt (b32 p1 ||| b32 p2) i.toNat) ?_, rfl⟩
      · omega
      · rw [wZ]; unfold zOf; rw [if_neg k0, if_pos k1]
    · rintro _ rfl _ _ rfl _ _ rfl _
      simp only [m2, m5]
      refine ⟨_, ?_, by omega, by omega, goodL_step hl i0 (x := bt (b32 p1 ^^^ b32 p2) i.toNat) ?_, rfl⟩
      · omega
      · rw [wZ]; unfold zOf; rw [if_neg k0, if_neg k1, if_pos k2]
    · rintro _ rfl _ _ rfl _ _ rfl _
      simp only [m3, m6, wZ]
      refine ⟨_, ?_, by omega, by omega, goodL_step hl i0 (x := bt (b32 p1 &&& ~~~ b32 p2) i.toNat) ?_, rfl⟩
      · omega
      · rw [wZ]; unfold zOf; rw [if_neg k0, if_neg k1, if_neg k2]
  · rintro _ rfl _
    have e : i = 32 := by omega
    subst e
    refine Eq.trans (of_word (zOf p0 (b32 p1) (b32 p2)) (fun k : Nat => ([v0, v1, v2, v3, v4, v5, v6, v7, v8, v9, v10, v11, v12, v13, v14, v15, v16, v17, v18, v19, v20, v21, v22, v23, v24, v25, v26, v27, v28, v29, v30, v31] : List Int).getD k 0) fun k hk => (hl k hk).trans (if_pos (by omega))) ?_
    unfold zOf
    by_cases k0 : p0 = 0
    · rw [if_pos k0, if_pos k0, alu5 l_p1 u_p1 l_p2 u_p2]
    · rw [if_neg k0, if_neg k0]
      by_cases k1 : p0 = 1
      · rw [if_pos k1, if_pos k1, alu6 l_p1 u_p1 l_p2 u_p2]
      · rw [if_neg k1, if_neg k1]
        by_cases k2 : p0 = 2
        · rw [if_pos k2, if_pos k2, alu7 l_p1 u_p1 l_p2 u_p2]
        · rw [if_neg k2, if_neg k2, alu8 l_p1 u_p1 l_p2 u_p2]

theorem plain (i v ro p) : statR 2 rc tree ⟨i, fN, v, ro, p⟩ = P (i 0) (i 1) (i 2) := by kernel_rfl
theorem ran : ranR us (fun f i => if f = 95 then (match i with | 3 => .tmpl (some mk3) | _ => .auto) else .auto) rc 2 tree = true := by kernel_rfl
theorem fineT : fineR 2 rc tree = true := by kernel_rfl
theorem ok : RcOk (cxOf 2) rc := okR us_ok ran fineT okb fun i v ro p hρ hcap hpre => by rw [plain]; exact holds (i 0) (i 1) (i 2) (hρ.hi 0 _ rfl).1 (hρ.hi 0 _ rfl).2 (hρ.hi 1 _ rfl).1 (hρ.hi 1 _ rfl).2 (hρ.hi 2 _ rfl).1 (hρ.hi 2 _ rfl).2
end Go.Proofs.YtbfgkimoobkpmaaGreatDoor.CREach
