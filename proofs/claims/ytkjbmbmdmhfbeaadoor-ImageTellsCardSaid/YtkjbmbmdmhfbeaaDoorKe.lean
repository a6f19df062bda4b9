/-
  What functions of the program answer, as numbers of what they are handed: their runs by the engine, the plain statements behind them. No condition.
-/
import Derived.Test.YtkjbmbmdmhfbeaaDoorKc
import Derived.Test.YtkjbmbmdmhfbeaaDoorKd
import Derived.Test.YtkjbmbmdmhfbeaaDoorGab
import Derived.Test.YtkjbmbmdmhfbeaaDoorGp3
set_option linter.unusedVariables false
set_option linter.unusedSimpArgs false
set_option maxRecDepth 100000
namespace Go.Proofs.YtkjbmbmdmhfbeaaDoor
open Go.Eng Go.RowKit
namespace CRGet22
def rc : Rc := ⟨9, [none], [.row [.int .u8] 900000], [(.c 1)], .tup [some 5, none], [.row [.int .u32] 43 (.f 128 (.v 1) (.c 0) (.c 0)) (.f 127 (.v 1) (.v 0) (.c 0)), .row [.int .i32] 21 (.f 128 (.v 1) (.c 1) (.c 0)) (.f 127 (.v 1) (.v 0) (.c 1)), .row [.bool] 4 (.f 128 (.v 1) (.c 2) (.c 0)) (.f 127 (.v 1) (.v 0) (.c 2)), .row [.int .i64] 3 (.f 128 (.v 1) (.c 3) (.c 0)) (.f 127 (.v 1) (.v 0) (.c 3)), .row [.int .i64] 3 (.f 128 (.v 1) (.c 4) (.c 0)) (.f 127 (.v 1) (.v 0) (.c 4)), .int .i64 (.f 126 (.v 1) (.v 0) (.c 0))]⟩
theorem okb : rc.ok = true := by kernel_rfl
def mk9_8 : qJz := [([0, 7], .num (-4611686018427387904) (4611686018427387904)), ([1, 2, 0, 1], .num (0) (1000000)), ([1, 2, 0, 0], .num (0) (1000000)), ([1, 2, 0, 2], .num (0) (1000000)), ([1, 2, 1], .num (-9223372036854775808) (9223372036854775807)), ([1, 3, 0], .arr [.int .u32] 43), ([0, 31], .wilds 19)]
def mk9_12 : qJz := [([0, 8], .num (-4611686018427387904) (4611686018427387904)), ([1, 2, 0, 1], .num (0) (1000000)), ([1, 2, 0, 0], .num (0) (1000000)), ([1, 2, 0, 2], .num (0) (1000000)), ([1, 2, 1], .num (-9223372036854775808) (9223372036854775807)), ([1, 3, 1], .arr [.int .i32] 21), ([1, 3, 2], .arr [.bool] 4), ([0, 9], .wilds 1), ([0, 52], .wilds 24), ([0, 77], .wilds 7)]
def mk9_19 : qJz := [([0, 10], .num (-4611686018427387904) (4611686018427387904)), ([1, 2, 0, 1], .num (0) (1000000)), ([1, 2, 0, 0], .num (0) (1000000)), ([1, 2, 0, 2], .num (0) (1000000)), ([1, 2, 1], .num (-9223372036854775808) (9223372036854775807)), ([1, 3, 3], .arr [.int .i64] 3), ([0, 86], .wilds 18)]
def mk9_23 : qJz := [([0, 11], .num (-4611686018427387904) (4611686018427387904)), ([1, 2, 0, 1], .num (0) (1000000)), ([1, 2, 0, 0], .num (0) (1000000)), ([1, 2, 0, 2], .num (0) (1000000)), ([1, 2, 1], .num (-9223372036854775808) (9223372036854775807)), ([1, 3, 4], .arr [.int .i64] 3), ([0, 106], .wilds 18)]
noncomputable def us : SMs := fun Γ ins n => smH (cxG n Γ ins) [] (smR (cxG n Γ ins) [CRICheck.rc, CRKOpen.rc])
theorem us_ok : SMsOk us := fun Γ ins n => qZp (tabsG n Γ ins) (qZy _) (qZm (tabsG n Γ ins) (qQw CRICheck.okb (rc_n CRICheck.ok) (qQw CRKOpen.okb (rc_n CRKOpen.ok) (qZv _))))
def Q0 : E := (.f 121 (.v 1) (.v 0) (.c 0))
def Q1 : E := (.cl 1000 (-2) 899998)
def Q2 : E := (.b .psub .i64 Q1 (.c 4))
def Q3 : E := (tl (.c 0) Q2)
def Q4 : E := (tp (.c 4) (.c 1))
def Q5 : E := (.b .psub .i64 Q2 (.c 2))
def Q6 : E := (.cl 1001 (-4611686018427387904) 4611686018427387904)
def Q7 : E := (.cl 1005 (-9223372036854775808) 9223372036854775807)
def Q8 : E := (te Q7 (.c 0))
def Q9 : E := (.cl 1003 0 1000000)
def Q10 : E := (.cl 1007 0 1000000)
def Q11 : E := (tp Q10 (.c 1))
def Q12 : E := (tl Q11 (.c 1000000))
def Q13 : E := (.b .psub .i64 Q6 (.c 1))
def Q14 : E := (tl (.c (-4611686018427387904)) Q13)
def Q15 : E := (.cl 1002 0 1000000)
def Q16 : E := (tk (.c 0) Q9)
def Q17 : E := (tk Q15 Q1)
def Q18 : E := (tk (.c 1) Q9)
def Q19 : E := (tp Q15 (.c 1))
def Q20 : E := (tk Q19 Q1)
def Q21 : E := (tp Q15 (.c 2))
def Q22 : E := (tp Q15 (.c 3))
def Q23 : E := (tp Q15 Q9)
def Q24 : E := (tl Q23 Q1)
def Q25 : E := (tp Q15 (.c 4))
def Q26 : E := (.b .psub .i64 Q9 (.c 4))
def Q27 : E := (tR (.v 1) Q15)
def Q28 : E := (.w .u8 Q27)
def Q29 : E := (.b .pmul .i64 (.c 256) Q28)
def Q30 : E := (tR (.v 1) Q19)
def Q31 : E := (.w .u8 Q30)
def Q32 : E := (tp Q29 Q31)
def Q33 : E := (.b .psub .i64 Q9 (.c 2))
def Q34 : E := (.cl 1011 (-4611686018427387904) 4611686018427387904)
def Q35 : E := (.cl 1015 (-9223372036854775808) 9223372036854775807)
def Q36 : E := (te Q35 (.c 0))
def Q37 : E := (.cl 1013 0 1000000)
def Q38 : E := (.cl 1017 0 1000000)
def Q39 : E := (tp Q38 (.c 1))
def Q40 : E := (tl Q39 (.c 1000000))
def Q41 : E := (.cl 1019 0 1000000)
def Q42 : E := (tp Q41 (.c 1))
def Q43 : E := (tl Q42 (.c 1000000))
def Q44 : E := (.b .psub .i64 Q34 (.c 1))
def Q45 : E := (tl (.c (-4611686018427387904)) Q44)
def Q46 : E := (.cl 1012 0 1000000)
def Q47 : E := (.f 14 (.v 1018) Q41 (.c 0))
def Q48 : E := (tk (.c 0) Q37)
def Q49 : E := (tk Q46 Q1)
def Q50 : E := (tp Q46 (.c 1))
def Q51 : E := (tp Q46 (.c 2))
def Q52 : E := (tp Q46 (.c 3))
def Q53 : E := (tp Q46 Q37)
def Q54 : E := (tl Q53 Q1)
def Q55 : E := (tR (.v 1) Q46)
def Q56 : E := (.w .u8 Q55)
def Q57 : E := (.b .pmul .i64 (.c 256) Q56)
def Q58 : E := (tR (.v 1) Q50)
def Q59 : E := (.w .u8 Q58)
def Q60 : E := (tp Q57 Q59)
def Q61 : E := (.b .pmul .i64 (.c 256) Q60)
def Q62 : E := (tR (.v 1) Q51)
def Q63 : E := (.w .u8 Q62)
def Q64 : E := (tp Q61 Q63)
def Q65 : E := (.b .pmul .i64 (.c 256) Q64)
def Q66 : E := (tR (.v 1) Q52)
def Q67 : E := (.w .u8 Q66)
def Q68 : E := (tp Q65 Q67)
def Q69 : E := (.b .rem .i64 Q68 (.c 4294967296))
def Q70 : E := (.b .psub .i64 Q37 (.c 4))
def Q71 : E := (tl (.c 0) Q70)
def Q72 : E := (tk Q70 (.c 1))
def Q73 : E := (tp Q46 (.c 4))
def Q74 : E := (tl Q73 (.c 1000000))
def Q75 : E := (.b .psub .i64 Q69 (.c 4294967296))
def Q76 : E := (t3 Q75)
def Q77 : E := (.f 14 (.v 1016) Q38 Q76)
def Q78 : E := (tk (.c 0) Q70)
def Q79 : E := (tk Q73 Q1)
def Q80 : E := (tp Q73 Q70)
def Q81 : E := (tl Q80 Q1)
def Q82 : E := (tR (.v 1) Q73)
def Q83 : E := (.w .u8 Q82)
def Q84 : E := (tk Q83 (.c 2))
def Q85 : E := (.nt Q84)
def Q86 : E := (tp Q73 (.c 1))
def Q87 : E := (tl Q86 (.c 1000000))
def Q88 : E := (.b .psub .i64 Q70 (.c 1))
def Q89 : E := (tl (.c 0) Q88)
def Q90 : E := (te Q83 (.c 1))
def Q91 : E := (.f 14 (.v 1018) Q41 Q90)
def Q92 : E := (t3 Q69)
def Q93 : E := (.f 14 (.v 1016) Q38 Q92)
def Q94 : E := (.b .psub .i64 Q37 (.c 1))
def Q95 : E := (.cl 1023 (-4611686018427387904) 4611686018427387904)
def Q96 : E := (.cl 1027 (-9223372036854775808) 9223372036854775807)
def Q97 : E := (te Q96 (.c 0))
def Q98 : E := (.cl 1025 0 1000000)
def Q99 : E := (.cl 1029 0 1000000)
def Q100 : E := (tp Q99 (.c 1))
def Q101 : E := (tl Q100 (.c 1000000))
def Q102 : E := (.b .psub .i64 Q95 (.c 1))
def Q103 : E := (tl (.c (-4611686018427387904)) Q102)
def Q104 : E := (.cl 1024 0 1000000)
def Q105 : E := (tk (.c 0) Q98)
def Q106 : E := (tk Q104 Q1)
def Q107 : E := (tp Q104 (.c 1))
def Q108 : E := (tp Q104 Q98)
def Q109 : E := (tl Q108 Q1)
def Q110 : E := (tp Q104 (.c 2))
def Q111 : E := (.b .psub .i64 Q98 (.c 2))
def Q112 : E := (tR (.v 1) Q104)
def Q113 : E := (.w .u8 Q112)
def Q114 : E := (.b .psub .i64 Q98 (.c 1))
def Q115 : E := (.cl 1033 (-4611686018427387904) 4611686018427387904)
def Q116 : E := (.cl 1037 (-9223372036854775808) 9223372036854775807)
def Q117 : E := (te Q116 (.c 0))
def Q118 : E := (.cl 1035 0 1000000)
def Q119 : E := (.cl 1039 0 1000000)
def Q120 : E := (tp Q119 (.c 1))
def Q121 : E := (tl Q120 (.c 1000000))
def Q122 : E := (.b .psub .i64 Q115 (.c 1))
def Q123 : E := (tl (.c (-4611686018427387904)) Q122)
def Q124 : E := (.cl 1034 0 1000000)
def Q125 : E := (tp Q124 (.c 1))
def Q126 : E := (tp Q124 (.c 2))
def Q127 : E := (.b .psub .i64 Q118 (.c 2))
def tree : TT (List E) :=
 (.br (tl (.v 0) (.v 2)) (.new 1000 (.ite (te Q0 (.c 0)) (.b .psub .i64 (.v 0) (.c 2)) (.c 0)) (.br (tn Q0 (.c 0)) (.leaf [(.c 0), (.c 0), (.c 0), (.c 0), (.c 0), (.c 0), (.c 0), (.c 0), (.c 0), (.c 0), Q0]) (.br (tl (.c 0) Q1) (.br (tk Q1 (.c 4)) (.leaf [(.c 0), (.c 0), (.c 0), (.c 0), (.c 0), (.c 0), (.c 0), (.c 0), (.c 0), (.c 0), (.c 4)]) (.br (tk (.c 0) Q1) (.br (tk (.c 1) Q1) (.br (tk (.c 2) Q1) (.br (tk (.c 3) Q1) (.br (tn (tp (.b .pmul .i64 (.c 256) (tp (.b .pmul .i64 (.c 256) (tp (.b .pmul .i64 (.c 256) (.w .u8 (tR (.v 1) (.c 0)))) (.w .u8 (tR (.v 1) (.c 1))))) (.w .u8 (tR (.v 1) (.c 2))))) (.w .u8 (tR (.v 1) (.c 3)))) (.c 1095980081)) (.br Q3 (.leaf [(.c 0), (.c 0), (.c 0), (.c 0), (.c 0), (.c 0), (.c 0), (.c 0), (.c 0), (.c 0), (.c 3)]) (.bad 200)) (.br Q3 (.br (tk Q2 (.c 2))
 (.leaf [(.c 0), (.c 0), (.c 0), (.c 0), (.c 0), (.c 0), (.c 0), (.c 0), (.c 0), (.c 0), (.c 4)]) (.br (tk (.c 0) Q2) (.br (tk (.c 4) Q1) (.br (tk (.c 1) Q2) (.br (tk Q4 Q1) (.br (tl (tp (.c 4) Q2) Q1) (.br (tl (.c 0) Q5) (.loop ⟨1001, [some (-4611686018427387904, 4611686018427387904), some (0, 1000000), some (0, 1000000), some (0, 1000000), some (-9223372036854775808, 9223372036854775807), none, some (0, 1000000)], [(tp (.b .pmul .i64 (.c 256) (.w .u8 (tR (.v 1) (.c 4)))) (.w .u8 (tR (.v 1) Q4))), (tp (.c 4) (.c 2)), Q5, (.c 4), (.c 0), (.c 0), (.c 0)], 1009⟩ (.br (tk (.c 0) Q6) (.br Q8 (.br (tk Q9 (.c 4)) (.br Q12 (.br Q14 (.br Q12 (.back [Q13, Q15, Q9, (.cl 1004 0 1000000), (.c 4), (.f 14 (.v 1006) Q10 (.c 0)), Q11]) (.bad 303)) (.bad 303)) (.bad 200)) (.br Q16 (.br Q17 (.br Q18 (.br
 Q20 (.br (tk (.c 2) Q9) (.br (tk Q21 Q1) (.br (tk (.c 3) Q9) (.br (tk Q22 Q1) (.br Q24 (.br Q12 (.br Q14 (.br (tl Q25 (.c 1000000)) (.br (tl (.c 0) Q26) (.br Q12 (.back [Q13, Q25, Q26, Q15, Q7, (.f 14 (.v 1006) Q10 (tp (.b .pmul .i64 (.c 256) (tp (.b .pmul .i64 (.c 256) Q32) (.w .u8 (tR (.v 1) Q21)))) (.w .u8 (tR (.v 1) Q22)))), Q11]) (.bad 303)) (.bad 303)) (.bad 303)) (.bad 303)) (.bad 200)) (.bad 200)) (.bad 200)) (.bad 200)) (.bad 200)) (.bad 200)) (.bad 200)) (.bad 200)) (.bad 200)) (.bad 200))) (.exit 0)) (.exit 1)) (.br (te (.v 1009) (.c 0)) (.leaf [(.c 0), (.c 0), (.c 0), (.c 0), (.c 0), (.c 0), (.c 0), (.c 0), (.c 0), (.c 0), Q7]) (.br Q8 (.br (tk Q9 (.c 2)) (.leaf [(.c 0), (.c 0), (.c 0), (.c 0), (.c 0), (.c 0), (.c 0), (.c 0), (.c 0), (.c 0), (.c 4)]) (.br Q16 (.br Q17 (.br
 Q18 (.br Q20 (.br Q24 (.br (tl Q21 (.c 1000000)) (.br (tl (.c 0) Q33) (.loop ⟨1011, [some (-4611686018427387904, 4611686018427387904), some (0, 1000000), some (0, 1000000), some (0, 1000000), some (-9223372036854775808, 9223372036854775807), none, some (0, 1000000), none, some (0, 1000000)], [Q32, Q21, Q33, Q15, Q7, (.c 0), (.c 0), (.c 0), (.c 0)], 1021⟩ (.br (tk (.c 0) Q34) (.br Q36 (.br (tk Q37 (.c 4)) (.br Q40 (.br Q43 (.br Q45 (.br Q40 (.br Q43 (.back [Q44, Q46, Q37, (.cl 1014 0 1000000), (.c 4), (.f 14 (.v 1016) Q38 (.c 0)), Q39, Q47, Q42]) (.bad 303)) (.bad 303)) (.bad 303)) (.bad 200)) (.bad 200)) (.br Q48 (.br Q49 (.br (tk (.c 1) Q37) (.br (tk Q50 Q1) (.br (tk (.c 2) Q37) (.br (tk Q51 Q1) (.br (tk (.c 3) Q37) (.br (tk Q52 Q1) (.br Q54 (.br (tl (.c 2147483648) Q69) (.br Q40 (.br
 Q71 (.br Q72 (.br Q43 (.br Q45 (.br Q74 (.br Q71 (.br Q40 (.br Q43 (.back [Q44, Q73, Q70, Q46, (.c 4), Q77, Q39, Q47, Q42]) (.bad 303)) (.bad 303)) (.bad 303)) (.bad 303)) (.bad 303)) (.bad 200)) (.br Q78 (.br Q79 (.br Q81 (.br Q85 (.br Q43 (.br Q45 (.br Q87 (.br Q89 (.br Q74 (.br Q40 (.br Q43 (.back [Q44, Q86, Q88, Q73, (.c 3), Q77, Q39, Q91, Q42]) (.bad 303)) (.bad 303)) (.bad 303)) (.bad 303)) (.bad 303)) (.bad 303)) (.bad 200)) (.br Q43 (.br Q45 (.br Q87 (.br Q89 (.br Q74 (.br Q40 (.br Q43 (.back [Q44, Q86, Q88, Q73, Q35, Q77, Q39, Q91, Q42]) (.bad 303)) (.bad 303)) (.bad 303)) (.bad 303)) (.bad 303)) (.bad 303)) (.bad 200))) (.bad 200)) (.bad 200)) (.bad 200))) (.bad 200)) (.bad 200)) (.br Q40 (.br Q71 (.br Q72 (.br Q43 (.br Q45 (.br Q74 (.br Q71 (.br Q40 (.br Q43 (.back [Q44, Q73,
 Q70, Q46, (.c 4), Q93, Q39, Q47, Q42]) (.bad 303)) (.bad 303)) (.bad 303)) (.bad 303)) (.bad 303)) (.bad 200)) (.br Q78 (.br Q79 (.br Q81 (.br Q85 (.br Q43 (.br Q45 (.br Q87 (.br Q89 (.br Q74 (.br Q40 (.br Q43 (.back [Q44, Q86, Q88, Q73, (.c 3), Q93, Q39, Q91, Q42]) (.bad 303)) (.bad 303)) (.bad 303)) (.bad 303)) (.bad 303)) (.bad 303)) (.bad 200)) (.br Q43 (.br Q45 (.br Q87 (.br Q89 (.br Q74 (.br Q40 (.br Q43 (.back [Q44, Q86, Q88, Q73, Q35, Q93, Q39, Q91, Q42]) (.bad 303)) (.bad 303)) (.bad 303)) (.bad 303)) (.bad 303)) (.bad 303)) (.bad 200))) (.bad 200)) (.bad 200)) (.bad 200))) (.bad 200)) (.bad 200))) (.bad 200)) (.bad 200)) (.bad 200)) (.bad 200)) (.bad 200)) (.bad 200)) (.bad 200)) (.bad 200)) (.bad 200))) (.exit 0)) (.exit 1)) (.br (te (.v 1021) (.c 0)) (.leaf [(.c 0), (.c 0),
 (.c 0), (.c 0), (.c 0), (.c 0), (.c 0), (.c 0), (.c 0), (.c 0), Q35]) (.br Q36 (.br (tk Q37 (.c 1)) (.leaf [(.c 0), (.c 0), (.c 0), (.c 0), (.c 0), (.c 0), (.c 0), (.c 0), (.c 0), (.c 0), (.c 4)]) (.br Q48 (.br Q49 (.br Q54 (.br (tl Q50 (.c 1000000)) (.br (tl (.c 0) Q94) (.loop ⟨1023, [some (-4611686018427387904, 4611686018427387904), some (0, 1000000), some (0, 1000000), some (0, 1000000), some (-9223372036854775808, 9223372036854775807), none, some (0, 1000000)], [Q56, Q50, Q94, Q46, Q35, (.c 0), (.c 0)], 1031⟩ (.br (tk (.c 0) Q95) (.br Q97 (.br (tk Q98 (.c 2)) (.br Q101 (.br Q103 (.br Q101 (.back [Q102, Q104, Q98, (.cl 1026 0 1000000), (.c 4), (.f 14 (.v 1028) Q99 (.c 0)), Q100]) (.bad 303)) (.bad 303)) (.bad 200)) (.br Q105 (.br Q106 (.br (tk (.c 1) Q98) (.br (tk Q107 Q1) (.br Q109
 (.br Q101 (.br Q103 (.br (tl Q110 (.c 1000000)) (.br (tl (.c 0) Q111) (.br Q101 (.back [Q102, Q110, Q111, Q104, Q96, (.f 14 (.v 1028) Q99 (tp (.b .pmul .i64 (.c 256) Q113) (.w .u8 (tR (.v 1) Q107)))), Q100]) (.bad 303)) (.bad 303)) (.bad 303)) (.bad 303)) (.bad 200)) (.bad 200)) (.bad 200)) (.bad 200)) (.bad 200)) (.bad 200))) (.exit 0)) (.exit 1)) (.br (te (.v 1031) (.c 0)) (.leaf [(.c 0), (.c 0), (.c 0), (.c 0), (.c 0), (.c 0), (.c 0), (.c 0), (.c 0), (.c 0), Q96]) (.br Q97 (.br (tk Q98 (.c 1)) (.leaf [(.c 0), (.c 0), (.c 0), (.c 0), (.c 0), (.c 0), (.c 0), (.c 0), (.c 0), (.c 0), (.c 4)]) (.br Q105 (.br Q106 (.br Q109 (.br (tl Q107 (.c 1000000)) (.br (tl (.c 0) Q114) (.loop ⟨1033, [some (-4611686018427387904, 4611686018427387904), some (0, 1000000), some (0, 1000000), some (0,
 1000000), some (-9223372036854775808, 9223372036854775807), none, some (0, 1000000)], [Q113, Q107, Q114, Q104, Q96, (.c 0), (.c 0)], 1041⟩ (.br (tk (.c 0) Q115) (.br Q117 (.br (tk Q118 (.c 2)) (.br Q121 (.br Q123 (.br Q121 (.back [Q122, Q124, Q118, (.cl 1036 0 1000000), (.c 4), (.f 14 (.v 1038) Q119 (.c 0)), Q120]) (.bad 303)) (.bad 303)) (.bad 200)) (.br (tk (.c 0) Q118) (.br (tk Q124 Q1) (.br (tk (.c 1) Q118) (.br (tk Q125 Q1) (.br (tl (tp Q124 Q118) Q1) (.br Q121 (.br Q123 (.br (tl Q126 (.c 1000000)) (.br (tl (.c 0) Q127) (.br Q121 (.back [Q122, Q126, Q127, Q124, Q116, (.f 14 (.v 1038) Q119 (tp (.b .pmul .i64 (.c 256) (.w .u8 (tR (.v 1) Q124))) (.w .u8 (tR (.v 1) Q125)))), Q120]) (.bad 303)) (.bad 303)) (.bad 303)) (.bad 303)) (.bad 200)) (.bad 200)) (.bad 200)) (.bad 200)) (.bad
 200)) (.bad 200))) (.exit 0)) (.exit 1)) (.br (te (.v 1041) (.c 0)) (.leaf [(.c 0), (.c 0), (.c 0), (.c 0), (.c 0), (.c 0), (.c 0), (.c 0), (.c 0), (.c 0), Q116]) (.br Q117 (.br (tn Q118 (.c 0)) (.leaf [(.c 0), (.c 0), (.c 0), (.c 0), (.c 0), (.c 0), (.c 0), (.c 0), (.c 0), (.c 0), (.c 5)]) (.new 1043 (.f 84 Q10 Q38 (tC Q41 (tC Q99 (tC Q119 (tC (.v 1028) (tC (.v 1038) (.c 0))))))) (.br (tn (.cl 1043 0 9) (.c 0)) (.leaf [(.c 0), (.c 0), (.c 0), (.c 0), (.c 0), (.c 0), (.c 0), (.c 0), (.c 0), (.c 0), (.cl 1043 0 9)]) (.leaf [Q10, (.v 1006), Q38, (.v 1016), Q41, (.v 1018), Q99, (.v 1028), Q119, (.v 1038), (.c 0)])))) (.leaf [(.c 0), (.c 0), (.c 0), (.c 0), (.c 0), (.c 0), (.c 0), (.c 0), (.c 0), (.c 0), Q116])))) (.bad 305)) (.bad 305)) (.bad 200)) (.bad 200)) (.bad 200))) (.leaf [(.c 0),
 (.c 0), (.c 0), (.c 0), (.c 0), (.c 0), (.c 0), (.c 0), (.c 0), (.c 0), Q96])))) (.bad 305)) (.bad 305)) (.bad 200)) (.bad 200)) (.bad 200))) (.leaf [(.c 0), (.c 0), (.c 0), (.c 0), (.c 0), (.c 0), (.c 0), (.c 0), (.c 0), (.c 0), Q35])))) (.bad 305)) (.bad 305)) (.bad 200)) (.bad 200)) (.bad 200)) (.bad 200)) (.bad 200))) (.leaf [(.c 0), (.c 0), (.c 0), (.c 0), (.c 0), (.c 0), (.c 0), (.c 0), (.c 0), (.c 0), Q7])))) (.bad 305)) (.bad 200)) (.bad 200)) (.bad 200)) (.bad 200)) (.bad 200))) (.bad 200))) (.bad 200)) (.bad 200)) (.bad 200)) (.bad 200))) (.bad 200)))) (.bad 200))
noncomputable def sq0 (b y12 : Int) : Int := (BO.ev .rem .i64 ((256 * ((256 * ((256 * (IntKind.wrap .u8 (rdZ b y12))) + (IntKind.wrap .u8 (rdZ b (y12 + 1))))) + (IntKind.wrap .u8 (rdZ b (y12 + 2))))) + (IntKind.wrap .u8 (rdZ b (y12 + 3)))) 4294967296)
noncomputable def sq1 (y7 y17 y19 y29 y39 y28 y38 : Int) : Int := (chkZ y7 y17 (kZ y19 (kZ y29 (kZ y39 (kZ y28 (kZ y38 0))))))
noncomputable def sq2 (y38 y39 b y34 : Int) : Int := (updZ y38 y39 ((256 * (IntKind.wrap .u8 (rdZ b y34))) + (IntKind.wrap .u8 (rdZ b (y34 + 1)))))
def sL0 (b a z0 z2 z4 z5 z7 z9 z10 z12 z14 z15 z17 z19 z20 z22 z24 z25 : Int) : Prop := (z0 : Int) = (gtN b a 0) ∧ qZk [.int .u32] z2 (gtC b 0) z4 ∧ (z5 : Int) = (gtN b a 1) ∧ qZk [.int .i32] z7 (gtC b 1) z9 ∧ (z10 : Int) = (gtN b a 2) ∧ qZk [.bool] z12 (gtC b 2) z14 ∧ (z15 : Int) = (gtN b a 3) ∧ qZk [.int .i64] z17 (gtC b 3) z19 ∧ (z20 : Int) = (gtN b a 4) ∧ qZk [.int .i64] z22 (gtC b 4) z24 ∧ (z25 : Int) = (gtE b a) ∧ True
def sq3 (y15 y13 b a y12 y0 y7 y17 y19 y6 y16 y18 : Int) : Prop := (Pb (Pe y15 0) (Pb (Pl y13 1) (sL0 b a 0 0 0 0 0 0 0 0 0 0 0 0 0 0 0 4) (Pm (Pl 0 y13) (Pm (Pl y12 y0) (Pm (PL (y12 + y13) y0) (Pm (PL (y12 + 1) 1000000) (Pm (PL 0 (y13 - 1)) (∃ I1023 : Int → Int → Int → Int → Int → Int → Int → Nat → Prop, (∃ m, I1023 (IntKind.wrap .u8 (rdZ b y12)) (y12 + 1) (y13 - 1) y12 y15 0 0 m) ∧ ∀ y23 y24 y25 y26 y27 y28 y29 : Int, ∀ m23, (((-4611686018427387904) ≤ y23 ∧ y23 ≤ 4611686018427387904) ∧ (0 ≤ y24 ∧ y24 ≤ 1000000) ∧ (0 ≤ y25 ∧ y25 ≤ 1000000) ∧ (0 ≤ y26 ∧ y26 ≤ 1000000) ∧ ((-9223372036854775808) ≤ y27 ∧ y27 ≤ 9223372036854775807) ∧ True ∧ (0 ≤ y29 ∧ y29 ≤ 1000000) ∧ True) → I1023 y23 y24 y25 y26 y27 y28 y29 m23 → (Pb (Pl 0 y23) (Pb (Pe y27 0) (Pb (Pl y25 2) (Pm (PL (y29 + 1) 1000000) (Pm
 (PL (-4611686018427387904) (y23 - 1)) (Pm (PL (y29 + 1) 1000000) (∃ m', m' < m23 ∧ I1023 (y23 - 1) y24 y25 y26 4 (updZ y28 y29 0) (y29 + 1) m')))) (Pm (Pl 0 y25) (Pm (Pl y24 y0) (Pm (Pl 1 y25) (Pm (Pl (y24 + 1) y0) (Pm (PL (y24 + y25) y0) (Pm (PL (y29 + 1) 1000000) (Pm (PL (-4611686018427387904) (y23 - 1)) (Pm (PL (y24 + 2) 1000000) (Pm (PL 0 (y25 - 2)) (Pm (PL (y29 + 1) 1000000) (∃ m', m' < m23 ∧ I1023 (y23 - 1) (y24 + 2) (y25 - 2) y24 y27 (updZ y28 y29 ((256 * (IntKind.wrap .u8 (rdZ b y24))) + (IntKind.wrap .u8 (rdZ b (y24 + 1))))) (y29 + 1) m')))))))))))) (Pb (Pe (0 : Int) 0) (sL0 b a 0 0 0 0 0 0 0 0 0 0 0 0 0 0 0 y27) (Pb (Pe y27 0) (Pb (Pl y25 1) (sL0 b a 0 0 0 0 0 0 0 0 0 0 0 0 0 0 0 4) (Pm (Pl 0 y25) (Pm (Pl y24 y0) (Pm (PL (y24 + y25) y0) (Pm (PL (y24 + 1) 1000000) (Pm (PL 0 (y25
 - 1)) (∃ I1033 : Int → Int → Int → Int → Int → Int → Int → Nat → Prop, (∃ m, I1033 (IntKind.wrap .u8 (rdZ b y24)) (y24 + 1) (y25 - 1) y24 y27 0 0 m) ∧ ∀ y33 y34 y35 y36 y37 y38 y39 : Int, ∀ m33, (((-4611686018427387904) ≤ y33 ∧ y33 ≤ 4611686018427387904) ∧ (0 ≤ y34 ∧ y34 ≤ 1000000) ∧ (0 ≤ y35 ∧ y35 ≤ 1000000) ∧ (0 ≤ y36 ∧ y36 ≤ 1000000) ∧ ((-9223372036854775808) ≤ y37 ∧ y37 ≤ 9223372036854775807) ∧ True ∧ (0 ≤ y39 ∧ y39 ≤ 1000000) ∧ True) → I1033 y33 y34 y35 y36 y37 y38 y39 m33 → (Pb (Pl 0 y33) (Pb (Pe y37 0) (Pb (Pl y35 2) (Pm (PL (y39 + 1) 1000000) (Pm (PL (-4611686018427387904) (y33 - 1)) (Pm (PL (y39 + 1) 1000000) (∃ m', m' < m33 ∧ I1033 (y33 - 1) y34 y35 y36 4 (updZ y38 y39 0) (y39 + 1) m')))) (Pm (Pl 0 y35) (Pm (Pl y34 y0) (Pm (Pl 1 y35) (Pm (Pl (y34 + 1) y0) (Pm (PL (y34 + y35)
 y0) (Pm (PL (y39 + 1) 1000000) (Pm (PL (-4611686018427387904) (y33 - 1)) (Pm (PL (y34 + 2) 1000000) (Pm (PL 0 (y35 - 2)) (Pm (PL (y39 + 1) 1000000) (∃ m', m' < m33 ∧ I1033 (y33 - 1) (y34 + 2) (y35 - 2) y34 y37 (sq2 y38 y39 b y34) (y39 + 1) m')))))))))))) (Pb (Pe (0 : Int) 0) (sL0 b a 0 0 0 0 0 0 0 0 0 0 0 0 0 0 0 y37) (Pb (Pe y37 0) (Pb (Pd y35 0) (sL0 b a 0 0 0 0 0 0 0 0 0 0 0 0 0 0 0 5) (Pn (sq1 y7 y17 y19 y29 y39 y28 y38) 0 9 fun y43 => (Pb (Pd y43 0) (sL0 b a 0 0 0 0 0 0 0 0 0 0 0 0 0 0 0 y43) (sL0 b a y7 y6 y7 y17 y16 y17 y19 y18 y19 y29 y28 y29 y39 y38 y39 0)))) (sL0 b a 0 0 0 0 0 0 0 0 0 0 0 0 0 0 0 y37)))) (Pb (Pe (1 : Int) 0) (sL0 b a 0 0 0 0 0 0 0 0 0 0 0 0 0 0 0 y37) (Pb (Pe y37 0) (Pb (Pd y35 0) (sL0 b a 0 0 0 0 0 0 0 0 0 0 0 0 0 0 0 5) (Pn (sq1 y7 y17 y19 y29 y39 y28 y38) 0
 9 fun y43 => (Pb (Pd y43 0) (sL0 b a 0 0 0 0 0 0 0 0 0 0 0 0 0 0 0 y43) (sL0 b a y7 y6 y7 y17 y16 y17 y19 y18 y19 y29 y28 y29 y39 y38 y39 0)))) (sL0 b a 0 0 0 0 0 0 0 0 0 0 0 0 0 0 0 y37))))))))))) (sL0 b a 0 0 0 0 0 0 0 0 0 0 0 0 0 0 0 y27)))) (Pb (Pe (1 : Int) 0) (sL0 b a 0 0 0 0 0 0 0 0 0 0 0 0 0 0 0 y27) (Pb (Pe y27 0) (Pb (Pl y25 1) (sL0 b a 0 0 0 0 0 0 0 0 0 0 0 0 0 0 0 4) (Pm (Pl 0 y25) (Pm (Pl y24 y0) (Pm (PL (y24 + y25) y0) (Pm (PL (y24 + 1) 1000000) (Pm (PL 0 (y25 - 1)) (∃ I1033 : Int → Int → Int → Int → Int → Int → Int → Nat → Prop, (∃ m, I1033 (IntKind.wrap .u8 (rdZ b y24)) (y24 + 1) (y25 - 1) y24 y27 0 0 m) ∧ ∀ y33 y34 y35 y36 y37 y38 y39 : Int, ∀ m33, (((-4611686018427387904) ≤ y33 ∧ y33 ≤ 4611686018427387904) ∧ (0 ≤ y34 ∧ y34 ≤ 1000000) ∧ (0 ≤ y35 ∧ y35 ≤ 1000000) ∧ (0 ≤
 y36 ∧ y36 ≤ 1000000) ∧ ((-9223372036854775808) ≤ y37 ∧ y37 ≤ 9223372036854775807) ∧ True ∧ (0 ≤ y39 ∧ y39 ≤ 1000000) ∧ True) → I1033 y33 y34 y35 y36 y37 y38 y39 m33 → (Pb (Pl 0 y33) (Pb (Pe y37 0) (Pb (Pl y35 2) (Pm (PL (y39 + 1) 1000000) (Pm (PL (-4611686018427387904) (y33 - 1)) (Pm (PL (y39 + 1) 1000000) (∃ m', m' < m33 ∧ I1033 (y33 - 1) y34 y35 y36 4 (updZ y38 y39 0) (y39 + 1) m')))) (Pm (Pl 0 y35) (Pm (Pl y34 y0) (Pm (Pl 1 y35) (Pm (Pl (y34 + 1) y0) (Pm (PL (y34 + y35) y0) (Pm (PL (y39 + 1) 1000000) (Pm (PL (-4611686018427387904) (y33 - 1)) (Pm (PL (y34 + 2) 1000000) (Pm (PL 0 (y35 - 2)) (Pm (PL (y39 + 1) 1000000) (∃ m', m' < m33 ∧ I1033 (y33 - 1) (y34 + 2) (y35 - 2) y34 y37 (sq2 y38 y39 b y34) (y39 + 1) m')))))))))))) (Pb (Pe (0 : Int) 0) (sL0 b a 0 0 0 0 0 0 0 0 0 0 0 0 0 0 0 y37)
 (Pb (Pe y37 0) (Pb (Pd y35 0) (sL0 b a 0 0 0 0 0 0 0 0 0 0 0 0 0 0 0 5) (Pn (sq1 y7 y17 y19 y29 y39 y28 y38) 0 9 fun y43 => (Pb (Pd y43 0) (sL0 b a 0 0 0 0 0 0 0 0 0 0 0 0 0 0 0 y43) (sL0 b a y7 y6 y7 y17 y16 y17 y19 y18 y19 y29 y28 y29 y39 y38 y39 0)))) (sL0 b a 0 0 0 0 0 0 0 0 0 0 0 0 0 0 0 y37)))) (Pb (Pe (1 : Int) 0) (sL0 b a 0 0 0 0 0 0 0 0 0 0 0 0 0 0 0 y37) (Pb (Pe y37 0) (Pb (Pd y35 0) (sL0 b a 0 0 0 0 0 0 0 0 0 0 0 0 0 0 0 5) (Pn (sq1 y7 y17 y19 y29 y39 y28 y38) 0 9 fun y43 => (Pb (Pd y43 0) (sL0 b a 0 0 0 0 0 0 0 0 0 0 0 0 0 0 0 y43) (sL0 b a y7 y6 y7 y17 y16 y17 y19 y18 y19 y29 y28 y29 y39 y38 y39 0)))) (sL0 b a 0 0 0 0 0 0 0 0 0 0 0 0 0 0 0 y37))))))))))) (sL0 b a 0 0 0 0 0 0 0 0 0 0 0 0 0 0 0 y27))))))))))) (sL0 b a 0 0 0 0 0 0 0 0 0 0 0 0 0 0 0 y15))
def sq4 (y5 y3 b a y2 y0 y7 y6 : Int) : Prop := (Pb (Pe y5 0) (Pb (Pl y3 2) (sL0 b a 0 0 0 0 0 0 0 0 0 0 0 0 0 0 0 4) (Pm (Pl 0 y3) (Pm (Pl y2 y0) (Pm (Pl 1 y3) (Pm (Pl (y2 + 1) y0) (Pm (PL (y2 + y3) y0) (Pm (PL (y2 + 2) 1000000) (Pm (PL 0 (y3 - 2)) (∃ I1011 : Int → Int → Int → Int → Int → Int → Int → Int → Int → Nat → Prop, (∃ m, I1011 ((256 * (IntKind.wrap .u8 (rdZ b y2))) + (IntKind.wrap .u8 (rdZ b (y2 + 1)))) (y2 + 2) (y3 - 2) y2 y5 0 0 0 0 m) ∧ ∀ y11 y12 y13 y14 y15 y16 y17 y18 y19 : Int, ∀ m11, (((-4611686018427387904) ≤ y11 ∧ y11 ≤ 4611686018427387904) ∧ (0 ≤ y12 ∧ y12 ≤ 1000000) ∧ (0 ≤ y13 ∧ y13 ≤ 1000000) ∧ (0 ≤ y14 ∧ y14 ≤ 1000000) ∧ ((-9223372036854775808) ≤ y15 ∧ y15 ≤ 9223372036854775807) ∧ True ∧ (0 ≤ y17 ∧ y17 ≤ 1000000) ∧ True ∧ (0 ≤ y19 ∧ y19 ≤ 1000000) ∧ True) → I1011
 y11 y12 y13 y14 y15 y16 y17 y18 y19 m11 → (Pb (Pl 0 y11) (Pb (Pe y15 0) (Pb (Pl y13 4) (Pm (PL (y17 + 1) 1000000) (Pm (PL (y19 + 1) 1000000) (Pm (PL (-4611686018427387904) (y11 - 1)) (Pm (PL (y17 + 1) 1000000) (Pm (PL (y19 + 1) 1000000) (∃ m', m' < m11 ∧ I1011 (y11 - 1) y12 y13 y14 4 (updZ y16 y17 0) (y17 + 1) (updZ y18 y19 0) (y19 + 1) m')))))) (Pm (Pl 0 y13) (Pm (Pl y12 y0) (Pm (Pl 1 y13) (Pm (Pl (y12 + 1) y0) (Pm (Pl 2 y13) (Pm (Pl (y12 + 2) y0) (Pm (Pl 3 y13) (Pm (Pl (y12 + 3) y0) (Pm (PL (y12 + y13) y0) (Pb (PL 2147483648 (sq0 b y12)) (Pm (PL (y17 + 1) 1000000) (Pm (PL 0 (y13 - 4)) (Pb (Pl (y13 - 4) 1) (Pm (PL (y19 + 1) 1000000) (Pm (PL (-4611686018427387904) (y11 - 1)) (Pm (PL (y12 + 4) 1000000) (Pm (PL 0 (y13 - 4)) (Pm (PL (y17 + 1) 1000000) (Pm (PL (y19 + 1) 1000000) (∃ m', m' <
 m11 ∧ I1011 (y11 - 1) (y12 + 4) (y13 - 4) y12 4 (updZ y16 y17 (W3 ((sq0 b y12) - 4294967296))) (y17 + 1) (updZ y18 y19 0) (y19 + 1) m'))))))) (Pm (Pl 0 (y13 - 4)) (Pm (Pl (y12 + 4) y0) (Pm (PL ((y12 + 4) + (y13 - 4)) y0) (Pb (Pe (Pl (IntKind.wrap .u8 (rdZ b (y12 + 4))) 2) 0) (Pm (PL (y19 + 1) 1000000) (Pm (PL (-4611686018427387904) (y11 - 1)) (Pm (PL ((y12 + 4) + 1) 1000000) (Pm (PL 0 ((y13 - 4) - 1)) (Pm (PL (y12 + 4) 1000000) (Pm (PL (y17 + 1) 1000000) (Pm (PL (y19 + 1) 1000000) (∃ m', m' < m11 ∧ I1011 (y11 - 1) ((y12 + 4) + 1) ((y13 - 4) - 1) (y12 + 4) 3 (updZ y16 y17 (W3 ((sq0 b y12) - 4294967296))) (y17 + 1) (updZ y18 y19 (Pe (IntKind.wrap .u8 (rdZ b (y12 + 4))) 1)) (y19 + 1) m')))))))) (Pm (PL (y19 + 1) 1000000) (Pm (PL (-4611686018427387904) (y11 - 1)) (Pm (PL ((y12 + 4) + 1)
 1000000) (Pm (PL 0 ((y13 - 4) - 1)) (Pm (PL (y12 + 4) 1000000) (Pm (PL (y17 + 1) 1000000) (Pm (PL (y19 + 1) 1000000) (∃ m', m' < m11 ∧ I1011 (y11 - 1) ((y12 + 4) + 1) ((y13 - 4) - 1) (y12 + 4) y15 (updZ y16 y17 (W3 ((sq0 b y12) - 4294967296))) (y17 + 1) (updZ y18 y19 (Pe (IntKind.wrap .u8 (rdZ b (y12 + 4))) 1)) (y19 + 1) m'))))))))))))))) (Pm (PL (y17 + 1) 1000000) (Pm (PL 0 (y13 - 4)) (Pb (Pl (y13 - 4) 1) (Pm (PL (y19 + 1) 1000000) (Pm (PL (-4611686018427387904) (y11 - 1)) (Pm (PL (y12 + 4) 1000000) (Pm (PL 0 (y13 - 4)) (Pm (PL (y17 + 1) 1000000) (Pm (PL (y19 + 1) 1000000) (∃ m', m' < m11 ∧ I1011 (y11 - 1) (y12 + 4) (y13 - 4) y12 4 (updZ y16 y17 (W3 (sq0 b y12))) (y17 + 1) (updZ y18 y19 0) (y19 + 1) m'))))))) (Pm (Pl 0 (y13 - 4)) (Pm (Pl (y12 + 4) y0) (Pm (PL ((y12 + 4) + (y13 - 4)) y0)
 (Pb (Pe (Pl (IntKind.wrap .u8 (rdZ b (y12 + 4))) 2) 0) (Pm (PL (y19 + 1) 1000000) (Pm (PL (-4611686018427387904) (y11 - 1)) (Pm (PL ((y12 + 4) + 1) 1000000) (Pm (PL 0 ((y13 - 4) - 1)) (Pm (PL (y12 + 4) 1000000) (Pm (PL (y17 + 1) 1000000) (Pm (PL (y19 + 1) 1000000) (∃ m', m' < m11 ∧ I1011 (y11 - 1) ((y12 + 4) + 1) ((y13 - 4) - 1) (y12 + 4) 3 (updZ y16 y17 (W3 (sq0 b y12))) (y17 + 1) (updZ y18 y19 (Pe (IntKind.wrap .u8 (rdZ b (y12 + 4))) 1)) (y19 + 1) m')))))))) (Pm (PL (y19 + 1) 1000000) (Pm (PL (-4611686018427387904) (y11 - 1)) (Pm (PL ((y12 + 4) + 1) 1000000) (Pm (PL 0 ((y13 - 4) - 1)) (Pm (PL (y12 + 4) 1000000) (Pm (PL (y17 + 1) 1000000) (Pm (PL (y19 + 1) 1000000) (∃ m', m' < m11 ∧ I1011 (y11 - 1) ((y12 + 4) + 1) ((y13 - 4) - 1) (y12 + 4) y15 (updZ y16 y17 (W3 (sq0 b y12))) (y17 + 1)
 (updZ y18 y19 (Pe (IntKind.wrap .u8 (rdZ b (y12 + 4))) 1)) (y19 + 1) m')))))))))))))))))))))))))) (Pb (Pe (0 : Int) 0) (sL0 b a 0 0 0 0 0 0 0 0 0 0 0 0 0 0 0 y15) (sq3 y15 y13 b a y12 y0 y7 y17 y19 y6 y16 y18))) (Pb (Pe (1 : Int) 0) (sL0 b a 0 0 0 0 0 0 0 0 0 0 0 0 0 0 0 y15) (sq3 y15 y13 b a y12 y0 y7 y17 y19 y6 y16 y18)))))))))))) (sL0 b a 0 0 0 0 0 0 0 0 0 0 0 0 0 0 0 y5))
def P (a b c : Int) : Prop :=
 (Pm (PL a c) (Pn (iteZ (Pe (opeZ b a) 0) (a - 2) 0) (-2) 899998 fun y0 => (Pb (Pd (opeZ b a) 0) (sL0 b a 0 0 0 0 0 0 0 0 0 0 0 0 0 0 0 (opeZ b a)) (Pm (PL 0 y0) (Pb (Pl y0 4) (sL0 b a 0 0 0 0 0 0 0 0 0 0 0 0 0 0 0 4) (Pm (Pl 0 y0) (Pm (Pl 1 y0) (Pm (Pl 2 y0) (Pm (Pl 3 y0) (Pb (Pd ((256 * ((256 * ((256 * (IntKind.wrap .u8 (rdZ b 0))) + (IntKind.wrap .u8 (rdZ b 1)))) + (IntKind.wrap .u8 (rdZ b 2)))) + (IntKind.wrap .u8 (rdZ b 3))) 1095980081) (Pm (PL 0 (y0 - 4)) (sL0 b a 0 0 0 0 0 0 0 0 0 0 0 0 0 0 0 3)) (Pm (PL 0 (y0 - 4)) (Pb (Pl (y0 - 4) 2) (sL0 b a 0 0 0 0 0 0 0 0 0 0 0 0 0 0 0 4) (Pm (Pl 0 (y0 - 4)) (Pm (Pl 4 y0) (Pm (Pl 1 (y0 - 4)) (Pm (Pl (4 + 1) y0) (Pm (PL (4 + (y0 - 4)) y0) (Pm (PL 0 ((y0 - 4) - 2)) (∃ I1001 : Int → Int → Int → Int → Int → Int → Int → Nat → Prop, (∃ m, I1001
 ((256 * (IntKind.wrap .u8 (rdZ b 4))) + (IntKind.wrap .u8 (rdZ b (4 + 1)))) (4 + 2) ((y0 - 4) - 2) 4 0 0 0 m) ∧ ∀ y1 y2 y3 y4 y5 y6 y7 : Int, ∀ m1, (((-4611686018427387904) ≤ y1 ∧ y1 ≤ 4611686018427387904) ∧ (0 ≤ y2 ∧ y2 ≤ 1000000) ∧ (0 ≤ y3 ∧ y3 ≤ 1000000) ∧ (0 ≤ y4 ∧ y4 ≤ 1000000) ∧ ((-9223372036854775808) ≤ y5 ∧ y5 ≤ 9223372036854775807) ∧ True ∧ (0 ≤ y7 ∧ y7 ≤ 1000000) ∧ True) → I1001 y1 y2 y3 y4 y5 y6 y7 m1 → (Pb (Pl 0 y1) (Pb (Pe y5 0) (Pb (Pl y3 4) (Pm (PL (y7 + 1) 1000000) (Pm (PL (-4611686018427387904) (y1 - 1)) (Pm (PL (y7 + 1) 1000000) (∃ m', m' < m1 ∧ I1001 (y1 - 1) y2 y3 y4 4 (updZ y6 y7 0) (y7 + 1) m')))) (Pm (Pl 0 y3) (Pm (Pl y2 y0) (Pm (Pl 1 y3) (Pm (Pl (y2 + 1) y0) (Pm (Pl 2 y3) (Pm (Pl (y2 + 2) y0) (Pm (Pl 3 y3) (Pm (Pl (y2 + 3) y0) (Pm (PL (y2 + y3) y0) (Pm (PL (y7 +
 1) 1000000) (Pm (PL (-4611686018427387904) (y1 - 1)) (Pm (PL (y2 + 4) 1000000) (Pm (PL 0 (y3 - 4)) (Pm (PL (y7 + 1) 1000000) (∃ m', m' < m1 ∧ I1001 (y1 - 1) (y2 + 4) (y3 - 4) y2 y5 (updZ y6 y7 ((256 * ((256 * ((256 * (IntKind.wrap .u8 (rdZ b y2))) + (IntKind.wrap .u8 (rdZ b (y2 + 1))))) + (IntKind.wrap .u8 (rdZ b (y2 + 2))))) + (IntKind.wrap .u8 (rdZ b (y2 + 3))))) (y7 + 1) m')))))))))))))))) (Pb (Pe (0 : Int) 0) (sL0 b a 0 0 0 0 0 0 0 0 0 0 0 0 0 0 0 y5) (sq4 y5 y3 b a y2 y0 y7 y6))) (Pb (Pe (1 : Int) 0) (sL0 b a 0 0 0 0 0 0 0 0 0 0 0 0 0 0 0 y5) (sq4 y5 y3 b a y2 y0 y7 y6))))))))))))))))))))))
theorem remL (c o : Int) : BO.ev .rem .i64 (beN c o 4) 4294967296 = beN c o 4 := by
 have := be4_bd c o
 rw [rem_pos this.1]; omega
theorem i32L (x : Int) : IntKind.wrap .i32 (x - 4294967296) = IntKind.wrap .i32 x := wi_cong (by omega)
theorem i32_2 (x : Int) : IntKind.wrap .i32 (IntKind.wrap .i32 x) = IntKind.wrap .i32 x := Go.Eng.wrap_wrap .i32 .i32 _ (by decide)
theorem w40 (c : Int) : 256 * (256 * (256 * IntKind.wrap .u8 (rdZ c 0) + IntKind.wrap .u8 (rdZ c 1)) + IntKind.wrap .u8 (rdZ c 2)) + IntKind.wrap .u8 (rdZ c 3) = beN c 0 4 := by
 rw [be4]; rfl
theorem holds (n0 c0 r0 : Int) (l_n0 : 0 ≤ n0) (u_n0 : n0 ≤ 900000) (h_n0 : n0 ≤ r0) (h_pre0 : (1 : Int) ≠ 0) : P n0 c0 r0 := by
 delta P sq0 sq1 sq2 sq3 sq4 sL0 Pb Pm Pn PL Pl Pe Pd W3 kZ
 simp only [nrm, nro, Int.reduceEq, Int.reduceNeg, reduceIte]
 simp only [w40, w4]
 simp only [w2]
 simp only [w1, remL, i32L, chk_ev]
 refine ⟨by omega, ?_⟩
 rintro L hL _
 refine ⟨fun h => ?_, fun h => ?_⟩
 ·exact leafP_of (gtE_open h) h
 rw [if_pos h] at hL
 have hn2 := ope_len h
 have hg : gtE c0 n0 = gtF c0 L := by rw [gtE_in h, hL]
 have hC := gnC_bd c0
 have hD := gnD_bd c0
 have hI := gnI_bd c0
 have hO := gnO_bd c0
 have pD := gpD_ev c0
 have pI := gpI_ev c0
 have pO := gpO_ev c0
 have pE := gpE_ev c0
 have lf : ∀ {e : Int}, gtF c0 L = e → ¬ e = 0 → leafP c0 n0 e := fun he h0 => leafP_of (hg.trans he) h0
 have f4 : gtF c0 L = 4 → leafP c0 n0 4 := fun he => lf he (by decide)
 have f3 : gtF c0 L = 3 → leafP c0 n0 3 := fun he => lf he (by decide)
 have f5 : gtF c0 L = 5 → leafP c0 n0 5 := fun he => lf he (by decide)
 have eC : beN c0 4 2 = gnC c0 := rfl
 rw [eC]
 refine ⟨by omega, fun g => f4 (g_s0 g), fun L4 => ⟨by omega, by omega, by omega, by omega, fun g => ⟨by omega, f3 (g_form L4 g)⟩, fun hm => ⟨by omega, fun g => f4 (g_s1 L4 hm (by omega)), fun g => ⟨by omega, by omega, by omega, by omega, by omega, by omega, ?_⟩⟩⟩⟩
 refine ⟨fun r o l p e q n m => n ≤ 70000 ∧ ((e = 0 ∧ r = gnC c0 - n ∧ n ≤ gnC c0 ∧ o = 6 + 4 * n ∧ o + l = L ∧ (∀ k : Nat, (k : Int) < n → IntKind.wrap .u32 (rdZ q k) = beN c0 (6 + 4 * k) 4) ∧ m = r.toNat + 1) ∨ (e ≠ 0 ∧ gtF c0 L = e ∧ m = 0)), ⟨_, by omega, .inl ⟨rfl, by omega, by omega, by omega, by omega, fun k hk => by omega, rfl⟩⟩, ?_⟩
 rintro r o l p e q0 n m hb ⟨hn, hI1⟩
 have bad : ¬ e = 0 → leafP c0 n0 e := fun h0 => by
  rcases hI1 with ⟨h1, _⟩ | ⟨_, h2, _⟩
  ·exact absurd h1 h0
  ·exact lf h2 h0
 refine ⟨fun g1 => ⟨fun e0 => ?_, bad⟩, fun g1 => ⟨fun e0 => ?_, bad⟩⟩
 ·rcases hI1 with ⟨_, rfl, h2, h3, h4, h5, rfl⟩ | ⟨h1, _⟩
  ·refine ⟨fun g2 => ⟨by omega, by omega, by omega, _, ?_, by omega, .inr ⟨by decide, g_s2 hm (by omega) (by omega), rfl⟩⟩, fun g2 => ⟨by omega, by omega, by omega, by omega, by omega, by omega, by omega, by omega, by omega, by omega, by omega, by omega, by omega, by omega, _, ?_, by omega, .inl ⟨e0, by omega, by omega, by omega, by omega, fun k hk => ?_, rfl⟩⟩⟩
   ·omega
   ·omega
   ·rw [qQn]
    have hw : ∀ o, IntKind.wrap .u32 (beN c0 o 4) = beN c0 o 4 := fun o => by have := be4_bd c0 o; exact qZb .u32 _ this.1 this.2
    by_cases e : (k : Int) = n
    ·rw [if_pos (by omega), hw, e, h3]
    ·rw [if_neg (by omega)]; exact h5 k (by omega)
  ·exact absurd e0 h1
 rcases hI1 with ⟨_, rfl, h2, h3, h4, h5, rfl⟩ | ⟨h1, _⟩
 case inr => exact absurd e0 h1
 have en : n = gnC c0 := by omega
 subst en
 refine ⟨fun g2 => f4 (g_s2 hm (by omega) (by omega)), fun g2 => ⟨by omega, by omega, by omega, by omega, by omega, by omega, by omega, ?_⟩⟩
 have eD : beN c0 o 2 = gnD c0 := by rw [h3, ← pD]; rfl
 rw [eD]
 clear hb bad
 subst e0
 refine ⟨fun r o l p e q n q2 n2 m => n ≤ 70000 ∧ n2 = n ∧ ((e = 0 ∧ r = gnD c0 - n ∧ n ≤ gnD c0 ∧ o = gpD c0 + 2 + 5 * n ∧ o + l = L ∧ (∀ k : Nat, (k : Int) < n → IntKind.wrap .i32 (rdZ q k) = IntKind.wrap .i32 (beN c0 (gpD c0 + 2 + 5 * k) 4)) ∧
  (∀ k : Nat, (k : Int) < n → (rdZ q2 k ≠ 0 ↔ byt c0 (gpD c0 + 2 + 5 * k + 4) = 1)) ∧ (∀ k : Nat, (k : Int) < n → ¬ qXh c0 L k) ∧ m = r.toNat + 1) ∨ (e ≠ 0 ∧ gtF c0 L = e ∧ m = 0)), ⟨_, by omega, rfl, .inl ⟨rfl, by omega, by omega, by omega, by omega, fun k hk => by omega, fun k hk => by omega, fun k hk => by omega, rfl⟩⟩, ?_⟩
 rintro r o2 l2 p2 e q1 n1 q2 n2 m hb ⟨hn, rfl, hI2⟩
 have bad : ¬ e = 0 → leafP c0 n0 e := fun h0 => by
  rcases hI2 with ⟨h1, _⟩ | ⟨_, h2, _⟩
  ·exact absurd h1 h0
  ·exact lf h2 h0
 refine ⟨fun g1 => ⟨fun e0 => ?_, bad⟩, fun g1 => ⟨fun e0 => ?_, bad⟩⟩
 ·rcases hI2 with ⟨_, rfl, d2, d3, d4, d5, d6, d7, rfl⟩ | ⟨h1, _⟩
  case inr => exact absurd e0 h1
  have nobad : ∀ k : Nat, (k : Int) < gnD c0 → L < gpD c0 + 2 + 5 * (n2 + 1) → ¬ qXh c0 L k := fun k hk hl hbad => by
   rcases Int.lt_or_le (k : Int) n2 with g | g
   ·exact d7 k g hbad
   ·have := hbad.1; omega
  have short : l2 < 5 → gtF c0 L = 4 := fun g => g_s3 hm (by omega) (fun k hk => nobad k hk (by omega)) (by omega)
  have secb : 5 ≤ l2 → 2 ≤ beN c0 (o2 + 4) 1 → gtF c0 L = 3 := fun g g4 => by
   refine g_sec hm (by omega) (i := n2.toNat) (by omega) ⟨by omega, ?_⟩
   rw [be1] at g4
   rw [show gpD c0 + 2 + 5 * ((n2.toNat : Nat) : Int) + 4 = o2 + 4 by omega]
   omega
  have next : 5 ≤ l2 → beN c0 (o2 + 4) 1 < 2 → ∃ m', m' < (gnD c0 - n2).toNat + 1 ∧ n2 + 1 ≤ 70000 ∧ n2 + 1 = n2 + 1 ∧ ((e = 0 ∧ (gnD c0 - n2) - 1 = gnD c0 - (n2 + 1) ∧ n2 + 1 ≤ gnD c0 ∧ o2 + 4 + 1 = gpD c0 + 2 + 5 * (n2 + 1) ∧ o2 + 4 + 1 + (l2 - 4 - 1) = L ∧ (∀ k : Nat, (k : Int) < n2 + 1 → IntKind.wrap .i32 (rdZ (updZ q1 n2 (IntKind.wrap .i32 (beN c0 o2 4))) k) = IntKind.wrap .i32 (beN c0 (gpD c0 + 2 + 5 * k) 4)) ∧
    (∀ k : Nat, (k : Int) < n2 + 1 → (rdZ (updZ q2 n2 (qQq (beN c0 (o2 + 4) 1 == 1))) k ≠ 0 ↔ byt c0 (gpD c0 + 2 + 5 * k + 4) = 1)) ∧ (∀ k : Nat, (k : Int) < n2 + 1 → ¬ qXh c0 L k) ∧ m' = ((gnD c0 - n2) - 1).toNat + 1) ∨ (e ≠ 0 ∧ gtF c0 L = e ∧ m' = 0)) := fun g g4 => by
   refine ⟨((gnD c0 - n2) - 1).toNat + 1, by omega, by omega, rfl, .inl ⟨e0, by omega, by omega, by omega, by omega, fun k hk => ?_, fun k hk => ?_, fun k hk => ?_, rfl⟩⟩
   ·rw [qQn]
    by_cases e : (k : Int) = n2
    ·rw [if_pos (by omega), i32_2, e, d3]
    ·rw [if_neg (by omega)]; exact d5 k (by omega)
   ·rw [qQn]
    by_cases e : (k : Int) = n2
    ·rw [if_pos (by omega), b01_iff, beq_iff_eq, be1, e, d3]
    ·rw [if_neg (by omega)]; exact d6 k (by omega)
   ·by_cases e : (k : Int) = n2
    ·rintro ⟨_, hh⟩
     rw [be1, d3, ← e] at g4
     omega
    ·exact d7 k (by omega)
  refine ⟨fun g2 => ⟨by omega, by omega, by omega, by omega, by omega, ?_⟩, fun g2 => ⟨by omega, by omega, by omega, by omega, by omega, by omega, by omega, by omega, by omega, fun g3 => ⟨by omega, by omega, fun g4 => ⟨by omega, by omega, by omega, by omega, by omega, by omega, ?_⟩, fun g4 => ⟨by omega, by omega, by omega, fun g5 => ⟨by omega, by omega, by omega, by omega, by omega, by omega, by omega, ?_⟩, fun g5 => ⟨by omega, by omega, by omega, by omega, by omega, by omega, by omega, ?_⟩⟩⟩,
   fun g3 => ⟨by omega, by omega, fun g4 => ⟨by omega, by omega, by omega, by omega, by omega, by omega, ?_⟩, fun g4 => ⟨by omega, by omega, by omega, fun g5 => ⟨by omega, by omega, by omega, by omega, by omega, by omega, by omega, ?_⟩, fun g5 => ⟨by omega, by omega, by omega, by omega, by omega, by omega, by omega, ?_⟩⟩⟩⟩⟩
  ·exact ⟨0, by omega, by omega, rfl, .inr ⟨by decide, short (by omega), rfl⟩⟩
  ·exact ⟨0, by omega, by omega, rfl, .inr ⟨by decide, short (by omega), rfl⟩⟩
  ·exact ⟨0, by omega, by omega, rfl, .inr ⟨by decide, secb (by omega) g5, rfl⟩⟩
  ·exact next (by omega) g5
  ·exact ⟨0, by omega, by omega, rfl, .inr ⟨by decide, short (by omega), rfl⟩⟩
  ·exact ⟨0, by omega, by omega, rfl, .inr ⟨by decide, secb (by omega) g5, rfl⟩⟩
  ·exact next (by omega) g5
 rcases hI2 with ⟨_, rfl, d2, d3, d4, d5, d6, d7, rfl⟩ | ⟨h1, _⟩
 case inr => exact absurd e0 h1
 have en : n2 = gnD c0 := by omega
 subst en
 have hs : ∀ k : Nat, (k : Int) < gnD c0 → ¬ qXh c0 L k := fun k hk => d7 k hk
 refine ⟨fun g2 => f4 (g_s3 hm (by omega) hs (by omega)), fun g2 => ⟨by omega, by omega, by omega, by omega, by omega, ?_⟩⟩
 have eI : beN c0 o2 1 = gnI c0 := by rw [show o2 = gpI c0 by omega]; rfl
 rw [eI]
 clear hb bad
 subst e0
 refine ⟨fun r o l p e q n m => n ≤ 70000 ∧ ((e = 0 ∧ r = gnI c0 - n ∧ n ≤ gnI c0 ∧ o = gpI c0 + 1 + 2 * n ∧ o + l = L ∧ (∀ k : Nat, (k : Int) < n → IntKind.wrap .i64 (rdZ q k) = beN c0 (gpI c0 + 1 + 2 * k) 2) ∧ m = r.toNat + 1) ∨ (e ≠ 0 ∧ gtF c0 L = e ∧ m = 0)), ⟨_, by omega, .inl ⟨rfl, by omega, by omega, by omega, by omega, fun k hk => by omega, rfl⟩⟩, ?_⟩
 rintro r o3 l3 p3 e q3 n3 m hb ⟨hn3, hI3⟩
 have bad : ¬ e = 0 → leafP c0 n0 e := fun h0 => by
  rcases hI3 with ⟨h1, _⟩ | ⟨_, h2, _⟩
  ·exact absurd h1 h0
  ·exact lf h2 h0
 refine ⟨fun g1 => ⟨fun e0 => ?_, bad⟩, fun g1 => ⟨fun e0 => ?_, bad⟩⟩
 ·rcases hI3 with ⟨_, rfl, i2, i3, i4, i5, rfl⟩ | ⟨h1, _⟩
  ·refine ⟨fun g2 => ⟨by omega, by omega, by omega, _, ?_, by omega, .inr ⟨by decide, g_s4 hm hs (by omega) (by omega), rfl⟩⟩, fun g2 => ⟨by omega, by omega, by omega, by omega, by omega, by omega, by omega, by omega, by omega, by omega, _, ?_, by omega, .inl ⟨e0, by omega, by omega, by omega, by omega, fun k hk => ?_, rfl⟩⟩⟩
   ·omega
   ·omega
   ·rw [qQn]
    have hw : ∀ o, IntKind.wrap .i64 (beN c0 o 2) = beN c0 o 2 := fun o => by have := be2_bd c0 o; exact w64 (by omega) (by omega)
    by_cases e : (k : Int) = n3
    ·rw [if_pos (by omega), hw, e, i3]
    ·rw [if_neg (by omega)]; exact i5 k (by omega)
  ·exact absurd e0 h1
 rcases hI3 with ⟨_, rfl, i2, i3, i4, i5, rfl⟩ | ⟨h1, _⟩
 case inr => exact absurd e0 h1
 have en : n3 = gnI c0 := by omega
 subst en
 refine ⟨fun g2 => f4 (g_s4 hm hs (by omega) (by omega)), fun g2 => ⟨by omega, by omega, by omega, by omega, by omega, ?_⟩⟩
 have eO : beN c0 o3 1 = gnO c0 := by rw [show o3 = gpO c0 by omega]; rfl
 rw [eO]
 clear hb bad
 subst e0
 refine ⟨fun r o l p e q n m => n ≤ 70000 ∧ ((e = 0 ∧ r = gnO c0 - n ∧ n ≤ gnO c0 ∧ o = gpO c0 + 1 + 2 * n ∧ o + l = L ∧ (∀ k : Nat, (k : Int) < n → IntKind.wrap .i64 (rdZ q k) = beN c0 (gpO c0 + 1 + 2 * k) 2) ∧ m = r.toNat + 1) ∨ (e ≠ 0 ∧ gtF c0 L = e ∧ m = 0)), ⟨_, by omega, .inl ⟨rfl, by omega, by omega, by omega, by omega, fun k hk => by omega, rfl⟩⟩, ?_⟩
 rintro r o4 l4 p4 e q4 n4 m hb ⟨hn4, hI4⟩
 have bad : ¬ e = 0 → leafP c0 n0 e := fun h0 => by
  rcases hI4 with ⟨h1, _⟩ | ⟨_, h2, _⟩
  ·exact absurd h1 h0
  ·exact lf h2 h0
 refine ⟨fun g1 => ⟨fun e0 => ?_, bad⟩, fun g1 => ⟨fun e0 => ?_, bad⟩⟩
 ·rcases hI4 with ⟨_, rfl, j2, j3, j4, j5, rfl⟩ | ⟨h1, _⟩
  ·refine ⟨fun g2 => ⟨by omega, by omega, by omega, _, ?_, by omega, .inr ⟨by decide, g_s5 hm hs (by omega) (by omega), rfl⟩⟩, fun g2 => ⟨by omega, by omega, by omega, by omega, by omega, by omega, by omega, by omega, by omega, by omega, _, ?_, by omega, .inl ⟨e0, by omega, by omega, by omega, by omega, fun k hk => ?_, rfl⟩⟩⟩
   ·omega
   ·omega
   ·rw [qQn]
    have hw : ∀ o, IntKind.wrap .i64 (beN c0 o 2) = beN c0 o 2 := fun o => by have := be2_bd c0 o; exact w64 (by omega) (by omega)
    by_cases e : (k : Int) = n4
    ·rw [if_pos (by omega), hw, e, j3]
    ·rw [if_neg (by omega)]; exact j5 k (by omega)
  ·exact absurd e0 h1
 rcases hI4 with ⟨_, rfl, j2, j3, j4, j5, rfl⟩ | ⟨h1, _⟩
 case inr => exact absurd e0 h1
 have en : n4 = gnO c0 := by omega
 subst en
 refine ⟨fun g2 => f5 (g_long hm hs (by omega)), fun g2 => ?_⟩
 have hchk : gtF c0 L = chk7 (gnC c0) (gnD c0) (gnD c0) (gnI c0) (gnO c0) q3 q4 := by
  rw [g_chk hm hs (by omega)]
  refine chk_congr (fun k hk => ?_) (fun k hk => ?_)
  ·rw [i5 k hk, qKk c0 3 (show (k : Int) < gnF c0 3 from hk)]
   have := be2_bd c0 (gpI c0 + 1 + 2 * k)
   exact w64 (by show _ ≤ beN c0 (gpI c0 + 1 + 2 * k) 2; omega) (by show beN c0 (gpI c0 + 1 + 2 * k) 2 ≤ _; omega)
  ·rw [j5 k hk, qKk c0 4 (show (k : Int) < gnF c0 4 from hk)]
   have := be2_bd c0 (gpO c0 + 1 + 2 * k)
   exact w64 (by show _ ≤ beN c0 (gpO c0 + 1 + 2 * k) 2; omega) (by show beN c0 (gpO c0 + 1 + 2 * k) 2 ≤ _; omega)
 rintro y hy hyb
 rw [← hchk] at hy
 refine ⟨fun g => lf hy.symm g, fun g => ?_⟩
 exact leafOk (by rw [hg, ← hy, g]) h5 d5 d6 i5 j5
theorem plain (i v ro p) : statR 2 rc tree ⟨i, fN, v, ro, p⟩ = P (i 0) (i 1) (i 2) := by kernel_rfl
theorem ran : ranR us (fun f i => match f, i with | 9, 8 => .autoT mk9_8 | 9, 12 => .autoT mk9_12 | 9, 19 => .autoT mk9_19 | 9, 23 => .autoT mk9_23 | 9, 10 => .poly [] | 9, 14 => .poly [] | 9, 21 => .poly [] | 9, 25 => .poly [] | _, _ => if [24].contains f then .unroll 400 else .auto) rc 2 tree = true := by kernel_rfl
theorem fineT : fineR 2 rc tree = true := by kernel_rfl
theorem ok : RcOk (cxOf 2) rc := okR us_ok ran fineT okb fun i v ro p hρ hcap hpre => by rw [plain]; have q := hρ.hi; exact holds _ _ _ (q 0 _ rfl).1 (q 0 _ rfl).2 (hcap _ (mg 0 rfl)) (hpre _ (mg 0 rfl))
end CRGet22
end Go.Proofs.YtkjbmbmdmhfbeaaDoor
