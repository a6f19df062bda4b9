/-
  What functions of the program answer, as numbers of what they are handed: their runs by the engine, the plain statements behind them. No condition.
-/
import Derived.Test.YteimodjkllldlacKf
import Derived.Test.YteimodjkllldlacGab
import Derived.Test.YteimodjkllldlacGp4
set_option linter.unusedVariables false
set_option linter.unusedSimpArgs false
set_option maxRecDepth 100000
namespace Go.Proofs.Yteimodjkllldlac
open Go.Eng Go.RowKit
namespace CRBehind
def rk : Rk := ⟨35, [(1, 44), (0, 31), (0, 31), (0, 31), (-32768, 65535), (0, 16384), (0, 1000000), (0, 2048), (0, 1000000), (0, 1000000)], 21, [.agg [.sl (.inp 0) 1 (.c 0) (.v 5) (some (.v 16)), .sl (.inp 1) 1 (.c 0) (.v 6) (some (.v 17)), .sl (.inp 2) 1 (.c 0) (.v 7) (some (.v 18)), .sl (.inp 3) 1 (.c 0) (.v 8) (some (.v 19)), .sl (.inp 4) 1 (.c 0) (.v 9) (some (.v 20))], .agg [.int .i64 (.v 0), .int .i64 (.v 1), .int .i64 (.v 2), .int .i64 (.v 3), .int .i64 (.v 4)], .agg [.bool (.f 13 (.v 15) (.c 0) (.c 0)), .bool (.f 13 (.v 15) (.c 1) (.c 0)), .bool (.f 13 (.v 15) (.c 2) (.c 0)), .bool (.f 13 (.v 15) (.c 3) (.c 0)), .bool (.f 13 (.v 15) (.c 4) (.c 0)), .bool (.f 13 (.v 15) (.c 5) (.c 0)), .bool (.f 13 (.v 15) (.c 6) (.c 0)), .bool (.f 13 (.v 15) (.c 7) (.c 0)), .bool (.f 13 (.v 15) (.c 8) (.c 0)), .bool (.f 13 (.v 15) (.c 9) (.c 0)), .bool (.f 13 (.v 15) (.c 10) (.c 0)), .bool (.f 13 (.v 15) (.c 11) (.c 0)), .bool (.f 13 (.v 15) (.c 12) (.c 0)), .bool (.f 13 (.v 15) (.c 13) (.c 0)), .bool (.f 13 (.v 15) (.c 14) (.c 0)), .bool (.f 13 (.v 15) (.c 15) (.c 0)), .bool (.f 13 (.v 15) (.c 16) (.c 0)), .bool (.f 13 (.v 15) (.c 17) (.c 0)), .bool (.f 13 (.v 15) (.c 18) (.c 0)), .bool (.f 13 (.v 15) (.c 19) (.c 0)), .bool (.f 13 (.v 15) (.c 20) (.c 0)), .bool (.f 13 (.v 15) (.c 21) (.c 0)), .bool (.f 13 (.v 15) (.c 22) (.c 0)), .bool (.f 13 (.v 15) (.c 23) (.c 0)), .bool (.f 13 (.v 15) (.c 24) (.c 0)), .bool (.f 13 (.v 15) (.c 25) (.c 0)), .bool (.f 13 (.v 15) (.c 26) (.c 0)), .bool (.f 13 (.v 15) (.c 27) (.c 0)), .bool (.f 13 (.v 15) (.c 28) (.c 0)), .bool (.f 13 (.v 15) (.c 29) (.c 0)), .bool (.f 13 (.v 15) (.c 30) (.c 0)), .bool (.f 13 (.v 15) (.c 31) (.c 0)), .bool (.f 13 (.v 15) (.c 32) (.c 0))]], [], [(.b .le .i64 (.v 7) (.v 18)), (.b .padd .i64 (.b .padd .i64 (.b .ne .i64 (.v 0) (.c 34)) (.b .ne .i64 (.v 2) (.c 0))) (.b .le .i64 (.c 0) (.v 4)))], .agg [.bool (.f 13 (.v 1000000) (.c 0) (.c 0)), .bool (.f 13 (.v 1000000) (.c 1) (.c 0)), .bool (.f 13 (.v 1000000) (.c 2) (.c 0)), .bool (.f 13 (.v 1000000) (.c 3) (.c 0)), .bool (.f 13 (.v 1000000) (.c 4) (.c 0)), .bool (.f 13 (.v 1000000) (.c 5) (.c 0)), .bool (.f 13 (.v 1000000) (.c 6) (.c 0)), .bool (.f 13 (.v 1000000) (.c 7) (.c 0)), .bool (.f 13 (.v 1000000) (.c 8) (.c 0)), .bool (.f 13 (.v 1000000) (.c 9) (.c 0)), .bool (.f 13 (.v 1000000) (.c 10) (.c 0)), .bool (.f 13 (.v 1000000) (.c 11) (.c 0)), .bool (.f 13 (.v 1000000) (.c 12) (.c 0)), .bool (.f 13 (.v 1000000) (.c 13) (.c 0)), .bool (.f 13 (.v 1000000) (.c 14) (.c 0)), .bool (.f 13 (.v 1000000) (.c 15) (.c 0)), .bool (.f 13 (.v 1000000) (.c 16) (.c 0)), .bool (.f 13 (.v 1000000) (.c 17) (.c 0)), .bool (.f 13 (.v 1000000) (.c 18) (.c 0)), .bool (.f 13 (.v 1000000) (.c 19) (.c 0)), .bool (.f 13 (.v 1000000) (.c 20) (.c 0)), .bool (.f 13 (.v 1000000) (.c 21) (.c 0)), .bool (.f 13 (.v 1000000) (.c 22) (.c 0)), .bool (.f 13 (.v 1000000) (.c 23) (.c 0)), .bool (.f 13 (.v 1000000) (.c 24) (.c 0)), .bool (.f 13 (.v 1000000) (.c 25) (.c 0)), .bool (.f 13 (.v 1000000) (.c 26) (.c 0)), .bool (.f 13 (.v 1000000) (.c 27) (.c 0)), .bool (.f 13 (.v 1000000) (.c 28) (.c 0)), .bool (.f 13 (.v 1000000) (.c 29) (.c 0)), .bool (.f 13 (.v 1000000) (.c 30) (.c 0)), .bool (.f 13 (.v 1000000) (.c 31) (.c 0)), .bool (.f 13 (.v 1000000) (.c 32) (.c 0))], [], [.code [.bool] (.f 115 (.v 0) (.v 1) (qQs [(.v 2), (.v 3), (.v 4), (.v 7), (.v 12), (.v 15)])) (.c 33)], [⟨[.int .u32], (.v 10), (.v 5), (.v 16), none⟩, ⟨[.int .i32], (.v 11), (.v 6), (.v 17), none⟩, ⟨[.bool], (.v 12), (.v 7), (.v 18), none⟩, ⟨[.int .i64], (.v 13), (.v 8), (.v 19), none⟩, ⟨[.int .i64], (.v 14), (.v 9), (.v 20), none⟩]⟩
theorem okk : rk.ok = true := by kernel_rfl
theorem okh : rk.rh.ok = true := by kernel_rfl
noncomputable def us : SMs := fun Γ ins n => smH (cxG n Γ ins) [] (smR (cxG n Γ ins) [CRAny.rc])
theorem us_ok : SMsOk us := fun Γ ins n => qJx (tabsG n Γ ins) (qZc _) (qJj (tabsG n Γ ins) (qQo CRAny.okb (rc_n CRAny.ok) (qZe _)))
def Q0 : E := (tR (.v 15) (.c 1))
def Q1 : E := (tR (.v 15) (.c 2))
def Q2 : E := (tR (.v 15) (.c 3))
def Q3 : E := (tR (.v 15) (.c 4))
def Q4 : E := (tR (.v 15) (.c 5))
def Q5 : E := (tR (.v 15) (.c 6))
def Q6 : E := (tR (.v 15) (.c 7))
def Q7 : E := (tR (.v 15) (.c 8))
def Q8 : E := (tR (.v 15) (.c 9))
def Q9 : E := (tR (.v 15) (.c 10))
def Q10 : E := (tR (.v 15) (.c 11))
def Q11 : E := (tR (.v 15) (.c 12))
def Q12 : E := (tR (.v 15) (.c 13))
def Q13 : E := (tR (.v 15) (.c 14))
def Q14 : E := (tR (.v 15) (.c 15))
def Q15 : E := (tR (.v 15) (.c 16))
def Q16 : E := (tR (.v 15) (.c 17))
def Q17 : E := (tR (.v 15) (.c 18))
def Q18 : E := (tR (.v 15) (.c 19))
def Q19 : E := (tR (.v 15) (.c 20))
def Q20 : E := (tR (.v 15) (.c 21))
def Q21 : E := (tR (.v 15) (.c 22))
def Q22 : E := (tR (.v 15) (.c 23))
def Q23 : E := (tR (.v 15) (.c 24))
def Q24 : E := (tR (.v 15) (.c 25))
def Q25 : E := (tR (.v 15) (.c 26))
def Q26 : E := (tR (.v 15) (.c 27))
def Q27 : E := (tR (.v 15) (.c 28))
def Q28 : E := (tR (.v 15) (.c 29))
def Q29 : E := (tR (.v 15) (.c 30))
def Q30 : E := (tR (.v 15) (.c 31))
def Q31 : E := (tR (.v 15) (.c 32))
def Q32 : E := (tC Q31 (.c 0))
def Q33 : E := (tC Q30 Q32)
def Q34 : E := (tC Q29 Q33)
def Q35 : E := (tC Q28 Q34)
def Q36 : E := (tC Q27 Q35)
def Q37 : E := (tC Q26 Q36)
def Q38 : E := (tC Q25 Q37)
def Q39 : E := (tC Q24 Q38)
def Q40 : E := (tC Q23 Q39)
def Q41 : E := (tC Q22 Q40)
def Q42 : E := (tC Q21 Q41)
def Q43 : E := (tC Q20 Q42)
def Q44 : E := (tC Q19 Q43)
def Q45 : E := (tC Q18 Q44)
def Q46 : E := (tC Q17 Q45)
def Q47 : E := (tC Q16 Q46)
def Q48 : E := (tC Q15 Q47)
def Q49 : E := (tC Q14 Q48)
def Q50 : E := (tC Q13 Q49)
def Q51 : E := (tC Q12 Q50)
def Q52 : E := (tC Q11 Q51)
def Q53 : E := (tC Q10 Q52)
def Q54 : E := (tC Q9 Q53)
def Q55 : E := (tC Q8 Q54)
def Q56 : E := (tC Q7 Q55)
def Q57 : E := (tC Q6 Q56)
def Q58 : E := (tC Q5 Q57)
def Q59 : E := (tC Q4 Q58)
def Q60 : E := (tC Q3 Q59)
def Q61 : E := (tC Q2 Q60)
def Q62 : E := (tC Q1 Q61)
def Q63 : E := (tC Q0 Q62)
def Q64 : E := (tR Q63 (.v 2))
def Q65 : E := (tR (.v 15) (.c 0))
def Q66 : E := (tn (.v 1) (.c 0))
def Q67 : E := (.f 14 Q63 (.v 1) Q66)
def Q68 : E := (tR Q67 (.c 0))
def Q69 : E := (tR Q67 (.c 1))
def Q70 : E := (tR Q67 (.c 2))
def Q71 : E := (tR Q67 (.c 3))
def Q72 : E := (tR Q67 (.c 4))
def Q73 : E := (tR Q67 (.c 5))
def Q74 : E := (tR Q67 (.c 6))
def Q75 : E := (tR Q67 (.c 7))
def Q76 : E := (tR Q67 (.c 8))
def Q77 : E := (tR Q67 (.c 9))
def Q78 : E := (tR Q67 (.c 10))
def Q79 : E := (tR Q67 (.c 11))
def Q80 : E := (tR Q67 (.c 12))
def Q81 : E := (tR Q67 (.c 13))
def Q82 : E := (tR Q67 (.c 14))
def Q83 : E := (tR Q67 (.c 15))
def Q84 : E := (tR Q67 (.c 16))
def Q85 : E := (tR Q67 (.c 17))
def Q86 : E := (tR Q67 (.c 18))
def Q87 : E := (tR Q67 (.c 19))
def Q88 : E := (tR Q67 (.c 20))
def Q89 : E := (tR Q67 (.c 21))
def Q90 : E := (tR Q67 (.c 22))
def Q91 : E := (tR Q67 (.c 23))
def Q92 : E := (tR Q67 (.c 24))
def Q93 : E := (tR Q67 (.c 25))
def Q94 : E := (tR Q67 (.c 26))
def Q95 : E := (tR Q67 (.c 27))
def Q96 : E := (tR Q67 (.c 28))
def Q97 : E := (tR Q67 (.c 29))
def Q98 : E := (tR Q67 (.c 30))
def Q99 : E := (tR Q67 (.c 31))
def Q100 : E := (tC Q99 (.c 0))
def Q101 : E := (tC Q98 Q100)
def Q102 : E := (tC Q97 Q101)
def Q103 : E := (tC Q96 Q102)
def Q104 : E := (tC Q95 Q103)
def Q105 : E := (tC Q94 Q104)
def Q106 : E := (tC Q93 Q105)
def Q107 : E := (tC Q92 Q106)
def Q108 : E := (tC Q91 Q107)
def Q109 : E := (tC Q90 Q108)
def Q110 : E := (tC Q89 Q109)
def Q111 : E := (tC Q88 Q110)
def Q112 : E := (tC Q87 Q111)
def Q113 : E := (tC Q86 Q112)
def Q114 : E := (tC Q85 Q113)
def Q115 : E := (tC Q84 Q114)
def Q116 : E := (tC Q83 Q115)
def Q117 : E := (tC Q82 Q116)
def Q118 : E := (tC Q81 Q117)
def Q119 : E := (tC Q80 Q118)
def Q120 : E := (tC Q79 Q119)
def Q121 : E := (tC Q78 Q120)
def Q122 : E := (tC Q77 Q121)
def Q123 : E := (tC Q76 Q122)
def Q124 : E := (tC Q75 Q123)
def Q125 : E := (tC Q74 Q124)
def Q126 : E := (tC Q73 Q125)
def Q127 : E := (tC Q72 Q126)
def Q128 : E := (tC Q71 Q127)
def Q129 : E := (tC Q70 Q128)
def Q130 : E := (tC Q69 Q129)
def Q131 : E := (tC Q68 Q130)
def Q132 : E := (tC Q65 Q131)
def Q133 : E := (.f 14 Q63 (.v 1) (.c 0))
def Q134 : E := (tR Q133 (.c 0))
def Q135 : E := (tR Q133 (.c 1))
def Q136 : E := (tR Q133 (.c 2))
def Q137 : E := (tR Q133 (.c 3))
def Q138 : E := (tR Q133 (.c 4))
def Q139 : E := (tR Q133 (.c 5))
def Q140 : E := (tR Q133 (.c 6))
def Q141 : E := (tR Q133 (.c 7))
def Q142 : E := (tR Q133 (.c 8))
def Q143 : E := (tR Q133 (.c 9))
def Q144 : E := (tR Q133 (.c 10))
def Q145 : E := (tR Q133 (.c 11))
def Q146 : E := (tR Q133 (.c 12))
def Q147 : E := (tR Q133 (.c 13))
def Q148 : E := (tR Q133 (.c 14))
def Q149 : E := (tR Q133 (.c 15))
def Q150 : E := (tR Q133 (.c 16))
def Q151 : E := (tR Q133 (.c 17))
def Q152 : E := (tR Q133 (.c 18))
def Q153 : E := (tR Q133 (.c 19))
def Q154 : E := (tR Q133 (.c 20))
def Q155 : E := (tR Q133 (.c 21))
def Q156 : E := (tR Q133 (.c 22))
def Q157 : E := (tR Q133 (.c 23))
def Q158 : E := (tR Q133 (.c 24))
def Q159 : E := (tR Q133 (.c 25))
def Q160 : E := (tR Q133 (.c 26))
def Q161 : E := (tR Q133 (.c 27))
def Q162 : E := (tR Q133 (.c 28))
def Q163 : E := (tR Q133 (.c 29))
def Q164 : E := (tR Q133 (.c 30))
def Q165 : E := (tR Q133 (.c 31))
def Q166 : E := (tC Q165 (.c 0))
def Q167 : E := (tC Q164 Q166)
def Q168 : E := (tC Q163 Q167)
def Q169 : E := (tC Q162 Q168)
def Q170 : E := (tC Q161 Q169)
def Q171 : E := (tC Q160 Q170)
def Q172 : E := (tC Q159 Q171)
def Q173 : E := (tC Q158 Q172)
def Q174 : E := (tC Q157 Q173)
def Q175 : E := (tC Q156 Q174)
def Q176 : E := (tC Q155 Q175)
def Q177 : E := (tC Q154 Q176)
def Q178 : E := (tC Q153 Q177)
def Q179 : E := (tC Q152 Q178)
def Q180 : E := (tC Q151 Q179)
def Q181 : E := (tC Q150 Q180)
def Q182 : E := (tC Q149 Q181)
def Q183 : E := (tC Q148 Q182)
def Q184 : E := (tC Q147 Q183)
def Q185 : E := (tC Q146 Q184)
def Q186 : E := (tC Q145 Q185)
def Q187 : E := (tC Q144 Q186)
def Q188 : E := (tC Q143 Q187)
def Q189 : E := (tC Q142 Q188)
def Q190 : E := (tC Q141 Q189)
def Q191 : E := (tC Q140 Q190)
def Q192 : E := (tC Q139 Q191)
def Q193 : E := (tC Q138 Q192)
def Q194 : E := (tC Q137 Q193)
def Q195 : E := (tC Q136 Q194)
def Q196 : E := (tC Q135 Q195)
def Q197 : E := (tC Q134 Q196)
def Q198 : E := (tC Q65 Q197)
def tree : TT (List E) :=
 (.br (tl (.v 0) (.c 30)) (.br Q64 (.leaf [Q132]) (.br (tl (.v 0) (.c 23)) (.br (tR Q63 (.v 3)) (.leaf [Q132]) (.leaf [Q198])) (.br (tk (.c 23) (.v 0)) (.leaf [Q198]) (.br (te (.v 0) (.c 31)) (.leaf [Q198]) (.br (te (.v 0) (.c 32)) (.leaf [Q198]) (.br (te (.v 0) (.c 34)) (.leaf [Q198]) (.br (te (.v 0) (.c 35)) (.leaf [Q198]) (.br (te (.v 0) (.c 36)) (.leaf [Q198]) (.br (te (.v 0) (.c 37)) (.leaf [Q198]) (.br (te (.v 0) (.c 38)) (.leaf [Q198]) (.br (te (.v 0) (.c 33)) (.leaf [Q198]) (.br (te (.v 0) (.c 40)) (.leaf [Q198]) (.br (te (.v 0) (.c 39)) (.leaf [Q198]) (.br (te (.v 0) (.c 41)) (.leaf [Q198]) (.br (te (.v 0) (.c 42)) (.leaf [Q198]) (.br (te (.v 0) (.c 43)) (.leaf [Q198]) (.bad 283))))))))))))))))) (.br (te (.v 0) (.c 31)) (.br Q64 (.leaf [Q132]) (.leaf [Q198])) (.br (te (.v 0) (.c
 32)) (.br Q64 (.leaf [Q132]) (.leaf [Q198])) (.br (te (.v 0) (.c 33)) (.leaf [Q198]) (.br (te (.v 0) (.c 40)) (.leaf [Q198]) (.br (te (.v 0) (.c 34)) (.br (te (.v 2) (.c 0)) (.br (tk (.v 4) (.v 7)) (.br (tl (.c 0) (.v 4)) (.br (tR (.v 12) (.v 4)) (.leaf [Q132]) (.leaf [Q198])) (.bad 200)) (.leaf [Q198])) (.br (tl (.v 7) (.v 18)) (.br (.f 113 (.v 12) (.v 7) (.c 1)) (.leaf [Q132]) (.leaf [Q198])) (.bad 200))) (.leaf [(.v 15)])))))))
noncomputable def sq0 (q : Int) : Int := (kZ (rdZ q 1) (kZ (rdZ q 2) (kZ (rdZ q 3) (kZ (rdZ q 4) (kZ (rdZ q 5) (kZ (rdZ q 6) (kZ (rdZ q 7) (kZ (rdZ q 8) (kZ (rdZ q 9) (kZ (rdZ q 10) (kZ (rdZ q 11) (kZ (rdZ q 12) (kZ (rdZ q 13) (kZ (rdZ q 14) (kZ (rdZ q 15) (kZ (rdZ q 16) (kZ (rdZ q 17) (kZ (rdZ q 18) (kZ (rdZ q 19) (kZ (rdZ q 20) (kZ (rdZ q 21) (kZ (rdZ q 22) (kZ (rdZ q 23) (kZ (rdZ q 24) (kZ (rdZ q 25) (kZ (rdZ q 26) (kZ (rdZ q 27) (kZ (rdZ q 28) (kZ (rdZ q 29) (kZ (rdZ q 30) (kZ (rdZ q 31) (kZ (rdZ q 32) 0))))))))))))))))))))))))))))))))
noncomputable def sq1 (q b : Int) : Int := (kZ (rdZ q 0) (kZ (rdZ (updZ (sq0 q) b 0) 0) (kZ (rdZ (updZ (sq0 q) b 0) 1) (kZ (rdZ (updZ (sq0 q) b 0) 2) (kZ (rdZ (updZ (sq0 q) b 0) 3) (kZ (rdZ (updZ (sq0 q) b 0) 4) (kZ (rdZ (updZ (sq0 q) b 0) 5) (kZ (rdZ (updZ (sq0 q) b 0) 6) (kZ (rdZ (updZ (sq0 q) b 0) 7) (kZ (rdZ (updZ (sq0 q) b 0) 8) (kZ (rdZ (updZ (sq0 q) b 0) 9) (kZ (rdZ (updZ (sq0 q) b 0) 10) (kZ (rdZ (updZ (sq0 q) b 0) 11) (kZ (rdZ (updZ (sq0 q) b 0) 12) (kZ (rdZ (updZ (sq0 q) b 0) 13) (kZ (rdZ (updZ (sq0 q) b 0) 14) (kZ (rdZ (updZ (sq0 q) b 0) 15) (kZ (rdZ (updZ (sq0 q) b 0) 16) (kZ (rdZ (updZ (sq0 q) b 0) 17) (kZ (rdZ (updZ (sq0 q) b 0) 18) (kZ (rdZ (updZ (sq0 q) b 0) 19) (kZ (rdZ (updZ (sq0 q) b 0) 20) (kZ (rdZ (updZ (sq0 q) b 0) 21) (kZ (rdZ (updZ (sq0 q) b 0) 22) (kZ (rdZ (updZ
 (sq0 q) b 0) 23) (kZ (rdZ (updZ (sq0 q) b 0) 24) (kZ (rdZ (updZ (sq0 q) b 0) 25) (kZ (rdZ (updZ (sq0 q) b 0) 26) (kZ (rdZ (updZ (sq0 q) b 0) 27) (kZ (rdZ (updZ (sq0 q) b 0) 28) (kZ (rdZ (updZ (sq0 q) b 0) 29) (kZ (rdZ (updZ (sq0 q) b 0) 30) (kZ (rdZ (updZ (sq0 q) b 0) 31) 0)))))))))))))))))))))))))))))))))
noncomputable def sq2 (q b : Int) : Int := (kZ (rdZ q 0) (kZ (rdZ (updZ (sq0 q) b (Pd b 0)) 0) (kZ (rdZ (updZ (sq0 q) b (Pd b 0)) 1) (kZ (rdZ (updZ (sq0 q) b (Pd b 0)) 2) (kZ (rdZ (updZ (sq0 q) b (Pd b 0)) 3) (kZ (rdZ (updZ (sq0 q) b (Pd b 0)) 4) (kZ (rdZ (updZ (sq0 q) b (Pd b 0)) 5) (kZ (rdZ (updZ (sq0 q) b (Pd b 0)) 6) (kZ (rdZ (updZ (sq0 q) b (Pd b 0)) 7) (kZ (rdZ (updZ (sq0 q) b (Pd b 0)) 8) (kZ (rdZ (updZ (sq0 q) b (Pd b 0)) 9) (kZ (rdZ (updZ (sq0 q) b (Pd b 0)) 10) (kZ (rdZ (updZ (sq0 q) b (Pd b 0)) 11) (kZ (rdZ (updZ (sq0 q) b (Pd b 0)) 12) (kZ (rdZ (updZ (sq0 q) b (Pd b 0)) 13) (kZ (rdZ (updZ (sq0 q) b (Pd b 0)) 14) (kZ (rdZ (updZ (sq0 q) b (Pd b 0)) 15) (kZ (rdZ (updZ (sq0 q) b (Pd b 0)) 16) (kZ (rdZ (updZ (sq0 q) b (Pd b 0)) 17) (kZ (rdZ (updZ (sq0 q) b (Pd b 0)) 18) (kZ (rdZ
 (updZ (sq0 q) b (Pd b 0)) 19) (kZ (rdZ (updZ (sq0 q) b (Pd b 0)) 20) (kZ (rdZ (updZ (sq0 q) b (Pd b 0)) 21) (kZ (rdZ (updZ (sq0 q) b (Pd b 0)) 22) (kZ (rdZ (updZ (sq0 q) b (Pd b 0)) 23) (kZ (rdZ (updZ (sq0 q) b (Pd b 0)) 24) (kZ (rdZ (updZ (sq0 q) b (Pd b 0)) 25) (kZ (rdZ (updZ (sq0 q) b (Pd b 0)) 26) (kZ (rdZ (updZ (sq0 q) b (Pd b 0)) 27) (kZ (rdZ (updZ (sq0 q) b (Pd b 0)) 28) (kZ (rdZ (updZ (sq0 q) b (Pd b 0)) 29) (kZ (rdZ (updZ (sq0 q) b (Pd b 0)) 30) (kZ (rdZ (updZ (sq0 q) b (Pd b 0)) 31) 0)))))))))))))))))))))))))))))))))
def sL0 (a b c d e h n q z0 : Int) : Prop := qQf [.bool] z0 (bhcZ a b (kZ c (kZ d (kZ e (kZ h (kZ n (kZ q 0))))))) 33 ∧ True
def P (a b c d e f g h i j k l n o p q r s t u v : Int) : Prop :=
 (Pb (PL a 30) (Pb (rdZ (sq0 q) c) (sL0 a b c d e h n q (sq2 q b)) (Pb (PL a 23) (Pb (rdZ (sq0 q) d) (sL0 a b c d e h n q (sq2 q b)) (sL0 a b c d e h n q (sq1 q b))) (Pb (Pl 23 a) (sL0 a b c d e h n q (sq1 q b)) (Pb (Pe a 31) (sL0 a b c d e h n q (sq1 q b)) (Pb (Pe a 32) (sL0 a b c d e h n q (sq1 q b)) (Pb (Pe a 34) (sL0 a b c d e h n q (sq1 q b)) (Pb (Pe a 35) (sL0 a b c d e h n q (sq1 q b)) (Pb (Pe a 36) (sL0 a b c d e h n q (sq1 q b)) (Pb (Pe a 37) (sL0 a b c d e h n q (sq1 q b)) (Pb (Pe a 38) (sL0 a b c d e h n q (sq1 q b)) (Pb (Pe a 33) (sL0 a b c d e h n q (sq1 q b)) (Pb (Pe a 40) (sL0 a b c d e h n q (sq1 q b)) (Pb (Pe a 39) (sL0 a b c d e h n q (sq1 q b)) (Pb (Pe a 41) (sL0 a b c d e h n q (sq1 q b)) (Pb (Pe a 42) (sL0 a b c d e h n q (sq1 q b)) (Pm (Pe a 43) (sL0 a b c d e h n q
 (sq1 q b)))))))))))))))))) (Pb (Pe a 31) (Pb (rdZ (sq0 q) c) (sL0 a b c d e h n q (sq2 q b)) (sL0 a b c d e h n q (sq1 q b))) (Pb (Pe a 32) (Pb (rdZ (sq0 q) c) (sL0 a b c d e h n q (sq2 q b)) (sL0 a b c d e h n q (sq1 q b))) (Pb (Pe a 33) (sL0 a b c d e h n q (sq1 q b)) (Pb (Pe a 40) (sL0 a b c d e h n q (sq1 q b)) (Pb (Pe a 34) (Pb (Pe c 0) (Pb (Pl e h) (Pm (PL 0 e) (Pb (rdZ n e) (sL0 a b c d e h n q (sq2 q b)) (sL0 a b c d e h n q (sq1 q b)))) (sL0 a b c d e h n q (sq1 q b))) (Pm (PL h t) (Pb (anyZ n h 1) (sL0 a b c d e h n q (sq2 q b)) (sL0 a b c d e h n q (sq1 q b))))) (qQf [.bool] q (bhcZ a b (kZ c (kZ d (kZ e (kZ h (kZ n (kZ q 0))))))) 33 ∧ True)))))))
set_option maxHeartbeats 4000000 in
theorem holds (op d a b n nc nD nr nI nO cq cD cS cI cO X rK rD rS rI rO : Int) (l_op : 1 ≤ op) (u_op : op ≤ 44) (l_d : 0 ≤ d) (u_d : d ≤ 31) (l_a : 0 ≤ a) (u_a : a ≤ 31) (l_b : 0 ≤ b) (u_b : b ≤ 31) (l_n : -32768 ≤ n) (u_n : n ≤ 65535) (l_nc : 0 ≤ nc) (u_nc : nc ≤ 16384) (l_nD : 0 ≤ nD) (u_nD : nD ≤ 1000000) (l_nr : 0 ≤ nr) (u_nr : nr ≤ 2048) (l_nI : 0 ≤ nI) (u_nI : nI ≤ 1000000) (l_nO : 0 ≤ nO) (u_nO : nO ≤ 1000000) (h_pre0 : qQz (decide (nr ≤ rS)) ≠ 0) (h_pre1 : (((qQz (op != 34)) + (qQz (a != 0))) + (qQz (decide (0 ≤ n)))) ≠ 0) : P op d a b n nc nD nr nI nO cq cD cS cI cO X rK rD rS rI rO := by
 delta P sq0 sq1 sq2 sL0 Pb Pm PL Pl Pe Pd kZ
 simp only [c32_def, r33_def, f33_def]
 simp only [bo2, show ∀ x k : Int, qQz (x != k) = if x ≠ k then 1 else 0 from fun x k => by unfold qQz; by_cases e : x = k <;> simp [e]] at h_pre1
 simp only [nrm, nro, Int.reduceEq, Int.reduceNeg, reduceIte]
 have hc : ∀ r : Int, 0 ≤ r → r ≤ 31 → rdZ (c32 X) r = rdZ X (1 + r) := fun r r0 r1 => by
  have h := c32_rd X r.toNat (by omega)
  rw [show ((r.toNat : Nat) : Int) = r by omega, show ((r.toNat + 1 : Nat) : Int) = 1 + r by omega] at h
  exact h
 rw [hc a l_a u_a, hc b l_b u_b]
 have hb : ∀ x : Int, (qQz (x != 0) ≠ 0) ↔ x ≠ 0 := fun x => by
  unfold qQz
  by_cases e : x = 0 <;> simp [e]
 have hany : anyZ cS nr 1 ≠ 0 ↔ ∃ j : Int, 0 ≤ j ∧ j < nr ∧ rdZ cS j ≠ 0 := by
  unfold anyZ
  split
  ·rename_i h
   obtain ⟨j, j0, j1, k⟩ := h
   exact ⟨fun _ => ⟨j, j0, j1, k.2 (by decide)⟩, fun _ => by decide⟩
  ·rename_i h
   exact ⟨fun k => absurd rfl k, fun ⟨j, j0, j1, k⟩ => absurd ⟨j, j0, j1, ⟨fun _ => by decide, fun _ => k⟩⟩ h⟩
 have s1 : ∀ {v : Int}, putsP op → dsec nr cS op a b n (fun r => rdZ X (1 + r) ≠ 0) → (v ≠ 0 ↔ d ≠ 0) → qQf [.bool] (r33 (rdZ X 0) (updZ (c32 X) d v)) (bhcZ op d (qQq a (qQq b (qQq n (qQq nr (qQq cS (qQq X 0))))))) 33 := fun p h k =>
  bh_put l_d u_d p ⟨fun g => ⟨h, k.1 g⟩, fun g => k.2 g.2⟩
 have s0 : putsP op → ¬ dsec nr cS op a b n (fun r => rdZ X (1 + r) ≠ 0) → qQf [.bool] (r33 (rdZ X 0) (updZ (c32 X) d 0)) (bhcZ op d (qQq a (qQq b (qQq n (qQq nr (qQq cS (qQq X 0))))))) 33 := fun p h =>
  bh_put l_d u_d p ⟨fun g => absurd rfl g, fun g => absurd g.1 h⟩
 have sn : ¬ putsP op → qQf [.bool] X (bhcZ op d (qQq a (qQq b (qQq n (qQq nr (qQq cS (qQq X 0))))))) 33 := fun p => bh_notX p
 have dd : dsec nr cS op a b n (fun r => rdZ X (1 + r) ≠ 0) ↔ (op ≤ 30 ∧ (rdZ X (1 + a) ≠ 0 ∨ op ≤ 23 ∧ rdZ X (1 + b) ≠ 0)) ∨ ((op = 31 ∨ op = 32) ∧ rdZ X (1 + a) ≠ 0) ∨ (op = 34 ∧ a = 0 ∧ n < nr ∧ rdZ cS n ≠ 0) ∨ (op = 34 ∧ a ≠ 0 ∧ anyZ cS nr 1 ≠ 0) := by
  rw [hany]; exact Iff.rfl
 rw [dd] at s0
 simp only [dd] at s1
 clear dd hany hc
 repeat' (first | refine And.intro (fun _ => ?_) (fun _ => ?_) | fail)
 all_goals first
  | (exfalso; omega)
  | exact s1 (by unfold putsP; omega) (by omega) (hb d)
  | exact s0 (by unfold putsP; omega) (by omega)
  | exact sn (by unfold putsP; omega)
  | exact ⟨by simpa [qQz] using h_pre0, fun g => s1 (by unfold putsP; omega) (by omega) (hb d), fun g => s0 (by unfold putsP; omega) (by omega)⟩
  | (refine ⟨?_, fun g => s1 (by unfold putsP; omega) (by omega) (hb d), fun g => s0 (by unfold putsP; omega) (by omega)⟩
     have h1 := h_pre1
     rw [if_neg (by omega), if_neg (by omega)] at h1
     by_cases g : 0 ≤ n
     ·exact g
     ·rw [if_neg g] at h1; exact absurd rfl h1)
  | trace_state
theorem plain (i v ro p) : statH 2 rk tree ⟨i, fN, v, ro, p⟩ = P (i 0) (i 1) (i 2) (i 3) (i 4) (i 5) (i 6) (i 7) (i 8) (i 9) (i 10) (i 11) (i 12) (i 13) (i 14) (i 15) (i 16) (i 17) (i 18) (i 19) (i 20) := by kernel_rfl
theorem ran : ranH us (fun _ _ => .auto) rk 2 tree = true := by kernel_rfl
theorem fineT : fineH 2 rk tree = true := by kernel_rfl
theorem ok : RhOk (cxOf 2) rk.rh := okH us_ok ran fineT (by kernel_rfl) okk fun i v ro p hρ hpre => by rw [plain]; have q := hρ.hi; exact holds _ _ _ _ _ _ _ _ _ _ _ _ _ _ _ _ _ _ _ _ _ (q 0 _ rfl).1 (q 0 _ rfl).2 (q 1 _ rfl).1 (q 1 _ rfl).2 (q 2 _ rfl).1 (q 2 _ rfl).2 (q 3 _ rfl).1 (q 3 _ rfl).2 (q 4 _ rfl).1 (q 4 _ rfl).2 (q 5 _ rfl).1 (q 5 _ rfl).2 (q 6 _ rfl).1 (q 6 _ rfl).2 (q 7 _ rfl).1 (q 7 _ rfl).2 (q 8 _ rfl).1 (q 8 _ rfl).2 (q 9 _ rfl).1 (q 9 _ rfl).2 (hpre _ (mg 0 rfl)) (hpre _ (mg 1 rfl))
end CRBehind
end Go.Proofs.Yteimodjkllldlac
