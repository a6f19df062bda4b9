/-
  The law CorePlays answers true at every input: the law is run by the engine (a symbolic run, proved sound), the tree of its answers, as a plain statement, is shown to hold. No condition.
-/
import Derived.Test.YtbfgkimoobkpmaaGreatDoorGab
import Derived.Test.YtbfgkimoobkpmaaGreatDoorGib
import Derived.Test.YtbfgkimoobkpmaaGreatDoorCCStep
import Derived.Test.YtbfgkimoobkpmaaGreatDoorCRStep
import Derived.Test.YtbfgkimoobkpmaaGreatDoorCSame16
import Derived.Test.YtbfgkimoobkpmaaGreatDoorCCDec
import Derived.Test.YtbfgkimoobkpmaaGreatDoorCRSame16
import Derived.Test.YtbfgkimoobkpmaaGreatDoorCRSame15
import Derived.Test.YtbfgkimoobkpmaaGreatDoorCRCost16
import Derived.Test.YtbfgkimoobkpmaaGreatDoorCAwake16
import Derived.Test.YtbfgkimoobkpmaaGreatDoorCRStepS
import Derived.Test.YtbfgkimoobkpmaaGreatDoorCRStepI
import Derived.Test.YtbfgkimoobkpmaaGreatDoorGmD
import Derived.Test.YtbfgkimoobkpmaaGreatDoorGmE
import Derived.WalkKit
import Derived.ProofKit
import Derived.OpenShut
import Derived.LaidMore
import Derived.Stop.Joined
import Derived.SevenTiedAt
import Derived.SizedLaws
import Derived.Lay
import Derived.Test.YtbfgkimoobkpmaaGreatDoorCards
import Derived.Test.YtbfgkimoobkpmaaGreatDoorTie
namespace Go.Proofs.YtbfgkimoobkpmaaGreatDoor.corePlays
open Go.ChangeShapes Go.WideShapes Go.ChangeAt Go.Eng Go.RowKit
set_option linter.unusedVariables false
set_option linter.unusedSimpArgs false
set_option maxRecDepth 100000
def rc : Rc := ⟨3, [none, none, none], [.row [.int .u32] 140737488355328, .row [.int .i32] 140737488355328, .int .u8], [], .one, [.bool (.c 1)]⟩
theorem okb : rc.ok = true := by kernel_rfl
def mp8_0 : Marks := [([0, 10], .num (0) (4611686018427387904)), ([1, 29, 34], .num (-9223372036854775808) (9223372036854775807)), ([1, 29, 36], .arr [.int .i64, .int .i64, .int .i64] 47), ([0, 11], .wild), ([0, 33], .wild), ([0, 34], .wild), ([0, 35], .wild), ([0, 36], .wild), ([0, 37], .wild), ([0, 38], .wild), ([0, 39], .wild), ([0, 40], .wild), ([0, 41], .wild), ([0, 42], .wild), ([0, 43], .wild), ([0, 44], .wild), ([0, 45], .wild), ([0, 46], .wild), ([0, 47], .wild), ([0, 48], .wild), ([0, 49], .wild), ([0, 51], .wild), ([0, 52], .wild), ([0, 53], .wild), ([0, 54], .wild), ([1, 0, 0], .code), ([1, 2, 34], .num (-9223372036854775808) (9223372036854775807)), ([1, 2, 35], .num (-9223372036854775808) (9223372036854775807)), ([1, 2, 36], .num (-9223372036854775808) (9223372036854775807)), ([1, 2, 37], .arr [.int .i64, .int .i64, .int .i64] 47), ([1, 29, 35], .num (-9223372036854775808) (9223372036854775807)), ([1, 29, 2], .bank 32 .i32), ([1, 2, 2], .bank 32 .i32)]
def mp8_1 : Marks := [([0, 10], .num (0) (4611686018427387904)), ([1, 29, 34], .num (-9223372036854775808) (9223372036854775807)), ([0, 11], .wild), ([0, 42], .wild), ([0, 43], .wild), ([0, 46], .wild), ([0, 48], .wild), ([1, 29, 1], .arr [.int .i32] 21), ([1, 29, 36], .arr [.int .i64, .int .i64, .int .i64] 47), ([0, 33], .wild), ([0, 36], .wild), ([0, 37], .wild), ([0, 38], .wild), ([0, 45], .wild), ([0, 47], .wild), ([0, 53], .wild), ([0, 54], .wild), ([1, 0, 0], .code), ([1, 2, 34], .num (-9223372036854775808) (9223372036854775807)), ([1, 2, 35], .num (-9223372036854775808) (9223372036854775807)), ([1, 2, 36], .num (-9223372036854775808) (9223372036854775807)), ([1, 2, 37], .arr [.int .i64, .int .i64, .int .i64] 47), ([1, 29, 35], .num (-9223372036854775808) (9223372036854775807)), ([1, 29, 2], .bank 32 .i32), ([1, 2, 2], .bank 32 .i32)]
noncomputable def us : SMs := fun Γ ins n => smF (cxG n Γ ins) [(CRStepS.rk.rh, CRStepI.rk.rh)] (smH (cxG n Γ ins) [CCStep.rk.rh, CRStep.rk.rh, CSame16.rk.rh] (smAnd 37 (libClone37 Γ ins n) (smR (cxG n Γ ins) [CCDec.rc, CRSame16.rc, CRSame15.rc, CRCost16.rc, CAwake16.rc])))
theorem us_ok : SMsOk us := fun Γ ins n => smF_ok (tabsG n Γ ins) (rfs_cons CRStepS.okh (rh_n CRStepS.ok) CRStepI.okh (rh_n CRStepI.ok) (rfs_nil _)) (smH_ok (tabsG n Γ ins) (rhs_cons CCStep.okh (rh_n CCStep.ok) (rhs_cons CRStep.okh (rh_n CRStep.ok) (rhs_cons CSame16.okh (rh_n CSame16.ok) (rhs_nil _)))) (smAnd_ok (libClone37_ok Γ ins n) (smR_ok (tabsG n Γ ins) (rcs_cons CCDec.okb (rc_n CCDec.ok) (rcs_cons CRSame16.okb (rc_n CRSame16.ok) (rcs_cons CRSame15.okb (rc_n CRSame15.ok) (rcs_cons CRCost16.okb (rc_n CRCost16.ok) (rcs_cons CAwake16.okb (rc_n CAwake16.ok) (rcs_nil _)))))))))
def Q0 : E := (tl (.v 1) (.c 1000000))
def Q1 : E := (.cl 1000 0 4611686018427387904)
def Q2 : E := (tR (.v 3) Q1)
def Q3 : E := (.w .u32 Q2)
def Q4 : E := (.cl 1002 0 1000000)
def Q5 : E := (tp Q4 (.c 1))
def Q6 : E := (tl Q5 (.c 1000000))
def Q7 : E := (tp Q1 (.c 1))
def Q8 : E := (tC (.c 0) (tC (.c 0) (.c 0)))
def Q9 : E := (tC (.c 0) Q8)
def Q10 : E := (tC (.c 0) Q9)
def Q11 : E := (tC (.c 0) Q10)
def Q12 : E := (tC (.c 0) Q11)
def Q13 : E := (tC (.c 0) Q12)
def Q14 : E := (tC (.c 0) Q13)
def Q15 : E := (tC (.c 0) Q14)
def Q16 : E := (tC (.c 0) Q15)
def Q17 : E := (tC (.c 0) Q16)
def Q18 : E := (tC (.c 0) Q17)
def Q19 : E := (tC (.c 0) Q18)
def Q20 : E := (tC (.c 0) Q19)
def Q21 : E := (tC (.c 0) Q20)
def Q22 : E := (tC (.c 0) Q21)
def Q23 : E := (tC (.c 0) Q22)
def Q24 : E := (tC (.c 0) Q23)
def Q25 : E := (tC (.c 0) Q24)
def Q26 : E := (tC (.c 0) Q25)
def Q27 : E := (tC (.c 0) Q26)
def Q28 : E := (tC (.c 0) Q27)
def Q29 : E := (tC (.c 0) Q28)
def Q30 : E := (tC (.c 0) Q29)
def Q31 : E := (tC (.c 0) Q30)
def Q32 : E := (tC (.c 0) Q31)
def Q33 : E := (tC (.c 0) Q32)
def Q34 : E := (tC (.c 0) Q33)
def Q35 : E := (tC (.c 0) Q34)
def Q36 : E := (tC (.c 0) Q35)
def Q37 : E := (tC (.c 0) Q36)
def Q38 : E := (tC (.c 0) Q37)
def Q39 : E := (.cl 1012 0 4611686018427387904)
def Q40 : E := (.cl 1019 0 1000000)
def Q41 : E := (.cl 1016 (-9223372036854775808) 9223372036854775807)
def Q42 : E := (.cl 1022 (-9223372036854775808) 9223372036854775807)
def Q43 : E := (.cl 1021 (-9223372036854775808) 9223372036854775807)
def Q44 : E := (tl (.c 0) Q42)
def Q45 : E := (tl Q42 (.c 0))
def Q46 : E := (tl (.v 0) (.c 16384))
def Q47 : E := (.cl 1024 0 1000000)
def Q48 : E := (tl Q47 (.c 999999))
def Q49 : E := (.cl 1015 (-9223372036854775808) 9223372036854775807)
def Q50 : E := (.cl 1017 (-9223372036854775808) 9223372036854775807)
def Q51 : E := (tC Q40 (.c 0))
def Q52 : E := (tC (.v 1018) Q51)
def Q53 : E := (tC Q50 Q52)
def Q54 : E := (tC Q41 Q53)
def Q55 : E := (tC Q49 Q54)
def Q56 : E := (tC (.v 1) Q55)
def Q57 : E := (tC (.v 1013) Q56)
def Q58 : E := (tC (.v 1014) Q57)
def Q59 : E := (.f 69 (.v 1001) Q4 Q58)
def Q60 : E := (tR Q59 (.c 6))
def Q61 : E := (t6 Q60)
def Q62 : E := (tl (.c 0) Q61)
def Q63 : E := (tl Q61 (.c 999999))
def Q64 : E := (tR Q59 (.c 2))
def Q65 : E := (t6 Q64)
def Q66 : E := (tR Q59 (.c 3))
def Q67 : E := (t6 Q66)
def Q68 : E := (tR Q59 (.c 4))
def Q69 : E := (t6 Q68)
def Q70 : E := (tC Q47 (.c 0))
def Q71 : E := (tC (.v 1023) Q70)
def Q72 : E := (tC Q42 Q71)
def Q73 : E := (tC Q43 Q72)
def Q74 : E := (tC (.v 1) Q73)
def Q75 : E := (tC (.v 4) Q74)
def Q76 : E := (tC (.v 1020) Q75)
def Q77 : E := (.f 80 (.v 3) (.v 0) Q76)
def Q78 : E := (tR Q77 (.c 2))
def Q79 : E := (t6 Q78)
def Q80 : E := (tR Q77 (.c 3))
def Q81 : E := (t6 Q80)
def Q82 : E := (tR Q59 (.c 0))
def Q83 : E := (tR Q77 (.c 0))
def Q84 : E := (.f 72 Q82 Q83 (.c 32))
def Q85 : E := (.cl 1027 (-9223372036854775808) 9223372036854775807)
def Q86 : E := (.cl 1031 (-9223372036854775808) 9223372036854775807)
def Q87 : E := (te Q85 Q86)
def Q88 : E := (.b .pmul .i64 Q84 Q87)
def Q89 : E := (.cl 1026 (-9223372036854775808) 9223372036854775807)
def Q90 : E := (.cl 1030 (-9223372036854775808) 9223372036854775807)
def Q91 : E := (te Q89 Q90)
def Q92 : E := (.b .pmul .i64 Q88 Q91)
def Q93 : E := (.nt Q92)
def Q94 : E := (tp Q39 (.c 1))
def Q95 : E := (tl Q94 (.c 4611686018427387904))
def Q96 : E := (.cl 1029 (-9223372036854775808) 9223372036854775807)
def Q97 : E := (tl (.c 0) Q96)
def Q98 : E := (tl Q96 (.c 1000000))
def Q99 : E := (tR Q77 (.c 5))
def Q100 : E := (t6 Q99)
def Q101 : E := (tl (.c 0) Q100)
def Q102 : E := (tl Q100 (.c 1000000))
def Q103 : E := (tR Q59 (.c 1))
def Q104 : E := (.cl 1028 (-9223372036854775808) 9223372036854775807)
def Q105 : E := (tR Q59 (.c 5))
def Q106 : E := (tR Q77 (.c 4))
def Q107 : E := (.cl 1032 0 4611686018427387904)
def Q108 : E := (.cl 1039 0 1000000)
def Q109 : E := (.cl 1036 (-9223372036854775808) 9223372036854775807)
def Q110 : E := (.cl 1044 (-9223372036854775808) 9223372036854775807)
def Q111 : E := (.cl 1046 0 1000000)
def Q112 : E := (.cl 1041 0 1000000)
def Q113 : E := (.cl 1035 (-9223372036854775808) 9223372036854775807)
def Q114 : E := (.cl 1037 (-9223372036854775808) 9223372036854775807)
def Q115 : E := (tC Q108 (.c 0))
def Q116 : E := (tC (.v 1038) Q115)
def Q117 : E := (tC Q114 Q116)
def Q118 : E := (tC Q109 Q117)
def Q119 : E := (tC Q113 Q118)
def Q120 : E := (tC (.v 1) Q119)
def Q121 : E := (tC (.v 1033) Q120)
def Q122 : E := (tC (.v 1034) Q121)
def Q123 : E := (.f 69 (.v 1001) Q4 Q122)
def Q124 : E := (tR Q123 (.c 6))
def Q125 : E := (t6 Q124)
def Q126 : E := (tl (.c 0) Q125)
def Q127 : E := (tl Q125 (.c 999999))
def Q128 : E := (tR Q123 (.c 2))
def Q129 : E := (t6 Q128)
def Q130 : E := (tR Q123 (.c 3))
def Q131 : E := (t6 Q130)
def Q132 : E := (tR Q123 (.c 4))
def Q133 : E := (t6 Q132)
def Q134 : E := (.cl 1043 (-9223372036854775808) 9223372036854775807)
def Q135 : E := (tC Q111 (.c 0))
def Q136 : E := (tC (.v 1045) Q135)
def Q137 : E := (tC Q110 Q136)
def Q138 : E := (tC Q134 Q137)
def Q139 : E := (tC Q112 Q138)
def Q140 : E := (tC (.v 1040) Q139)
def Q141 : E := (tC (.v 1042) Q140)
def Q142 : E := (.f 80 (.v 3) (.v 0) Q141)
def Q143 : E := (tR Q123 (.c 0))
def Q144 : E := (tR Q142 (.c 0))
def Q145 : E := (.cl 1049 (-9223372036854775808) 9223372036854775807)
def Q146 : E := (.cl 1053 (-9223372036854775808) 9223372036854775807)
def Q147 : E := (.cl 1048 (-9223372036854775808) 9223372036854775807)
def Q148 : E := (.cl 1052 (-9223372036854775808) 9223372036854775807)
def Q149 : E := (tp Q107 (.c 1))
def Q150 : E := (tl Q149 (.c 4611686018427387904))
def Q151 : E := (.cl 1051 (-9223372036854775808) 9223372036854775807)
def Q152 : E := (tl (.c 0) Q151)
def Q153 : E := (tl Q151 (.c 1000000))
def Q154 : E := (tR Q142 (.c 5))
def Q155 : E := (t6 Q154)
def Q156 : E := (tR Q123 (.c 1))
def Q157 : E := (.cl 1050 (-9223372036854775808) 9223372036854775807)
def Q158 : E := (tR Q123 (.c 5))
def tree : TT (List E) :=
 (.br (tl (.v 0) (.c 200)) (.br (.nt (tl (.v 1) (.c 2048))) (.leaf [(.c 1)]) (.br (tk (.c 2048) (.v 1)) (.leaf [(.c 0)]) (.br Q0 (.br (tk (.c 16384) (.v 0)) (.leaf [(.c 0)]) (.loop ⟨1000, [some (0, 4611686018427387904), none, some (0, 1000000)], [(.c 0), (.c 0), (.c 0)], 1010⟩ (.br (tk Q1 (.v 0)) (.new 1004 (.f 67 Q3 (.c 0) (.c 0)) (.new 1005 (.f 67 Q3 (.c 1) (.c 0)) (.new 1006 (.f 67 Q3 (.c 2) (.c 0)) (.new 1007 (.f 67 Q3 (.c 3) (.c 0)) (.new 1008 (.f 67 Q3 (.c 4) (.c 0)) (.new 1009 (.f 67 Q3 (.c 5) (.c 0)) (.br Q6 (.br (tl Q7 (.c 4611686018427387904)) (.br Q6 (.back [Q7, (.f 14 (.v 1001) Q4 (tC (.cl 1004 (-32768) 65535) (tC (.cl 1005 (-32768) 65535) (tC (.cl 1006 (-32768) 65535) (tC (.cl 1007 (-32768) 65535) (tC (.cl 1008 (-32768) 65535) (tC (te (.cl 1009 (-32768) 65535) (.c 0)) (.c
 0)))))))), Q5]) (.bad 303)) (.bad 303)) (.bad 200)))))))) (.exit 0)) (.loop ⟨1012, [some (0, 4611686018427387904), none, none, some (-9223372036854775808, 9223372036854775807), some (-9223372036854775808, 9223372036854775807), some (-9223372036854775808, 9223372036854775807), none, some (0, 1000000), none, some (-9223372036854775808, 9223372036854775807), some (-9223372036854775808, 9223372036854775807), none, some (0, 1000000)], [(.c 0), (.v 4), Q38, (.c 0), (.c 0), (.c 0), (.c 0), (.c 0), Q38, (.c 0), (.c 0), (.c 0), (.c 0)], 1055⟩ (.br (tk Q39 (.v 2)) (.br (tl Q4 (.c 16384)) (.br (tl Q40 (.c 999999)) (.br (.f 68 (.v 1001) Q4 (.c 0)) (.br (tn (tn Q41 (.c 0)) (tn Q42 (.c 0))) (.exit 0) (.br (te Q42 (.c 0)) (.br (.f 83 (.v 3) (.v 0) (tC (.v 1020) (tC (.v 1) (tC Q43 (.c 0))))) (.br Q44
 (.br Q45 (.br Q46 (.br Q48 (.br Q62 (.br Q63 (.new 1026 Q65 (.new 1027 Q67 (.new 1028 Q69 (.new 1029 Q61 (.new 1030 Q79 (.new 1031 Q81 (.br Q93 (.exit 1) (.br Q95 (.br Q97 (.br Q98 (.br Q0 (.br Q101 (.br Q102 (.loop ⟨1032, [some (0, 4611686018427387904), none, none, some (-9223372036854775808, 9223372036854775807), some (-9223372036854775808, 9223372036854775807), some (-9223372036854775808, 9223372036854775807), none, some (0, 1000000), none, some (0, 1000000), none, some (-9223372036854775808, 9223372036854775807), some (-9223372036854775808, 9223372036854775807), none, some (0, 1000000)], [Q94, Q103, Q82, Q89, Q85, Q104, Q105, Q96, (tR Q77 (.c 1)), (.v 1), Q83, Q90, Q86, Q106, Q100], 1054⟩ (.br (tk Q107 (.v 2)) (.br (tl Q108 (.c 999999)) (.br (tn (tn Q109 (.c 0)) (tn Q110 (.c 0)))
 (.exit 0) (.br (te Q110 (.c 0)) (.br (tl (.c 0) Q110) (.br (tl Q110 (.c 0)) (.br (tl Q111 (.c 999999)) (.br (tl Q112 (.c 2048)) (.br Q126 (.br Q127 (.new 1048 Q129 (.new 1049 Q131 (.new 1050 Q133 (.new 1051 Q125 (.new 1052 (t6 (tR Q142 (.c 2))) (.new 1053 (t6 (tR Q142 (.c 3))) (.br (.nt (.b .pmul .i64 (.b .pmul .i64 (.f 72 Q143 Q144 (.c 32)) (te Q145 Q146)) (te Q147 Q148))) (.exit 1) (.br Q150 (.br Q152 (.br Q153 (.br (tl (.c 0) Q155) (.br (tl Q155 (.c 1000000)) (.back [Q149, Q156, Q143, Q147, Q145, Q157, Q158, Q151, (tR Q142 (.c 1)), Q112, Q144, Q148, Q146, (tR Q142 (.c 4)), Q155]) (.bad 303)) (.bad 303)) (.bad 303)) (.bad 303)) (.bad 303))))))))) (.bad 200)) (.bad 200)) (.bad 200)) (.bad 200)) (.bad 200)) (.bad 200)) (.br Q126 (.br Q127 (.new 1048 Q129 (.new 1049 Q131 (.new 1050 Q133
 (.new 1051 Q125 (.br (.nt (.b .pmul .i64 (.b .pmul .i64 (.f 72 Q143 (.v 1042) (.c 32)) (te Q145 Q110)) (te Q147 Q134))) (.exit 2) (.br Q150 (.br Q152 (.br Q153 (.back [Q149, Q156, Q143, Q147, Q145, Q157, Q158, Q151, (.v 1040), Q112, (.v 1042), Q134, Q110, (.v 1045), Q111]) (.bad 303)) (.bad 303)) (.bad 303))))))) (.bad 200)) (.bad 200)))) (.bad 200)) (.exit 3)) (.br (te (.v 1054) (.c 0)) (.exit 2) (.br (te (.v 1054) (.c 1)) (.exit 3) (.br (te (.v 1054) (.c 2)) (.exit 4) (.exit 5))))) (.bad 305)) (.bad 305)) (.bad 305)) (.bad 305)) (.bad 305)) (.bad 305))))))))) (.bad 200)) (.bad 200)) (.bad 200)) (.bad 200)) (.bad 200)) (.bad 200)) (.br Q44 (.br Q45 (.br Q46 (.br Q48 (.br Q62 (.br Q63 (.new 1026 Q65 (.new 1027 Q67 (.new 1028 Q69 (.new 1029 Q61 (.new 1030 Q79 (.new 1031 Q81 (.br Q93
 (.exit 6) (.br Q95 (.br Q97 (.br Q98 (.br Q101 (.br Q102 (.back [Q94, Q103, Q82, Q89, Q85, Q104, Q105, Q96, Q83, Q90, Q86, Q106, Q100]) (.bad 303)) (.bad 303)) (.bad 303)) (.bad 303)) (.bad 303))))))))) (.bad 200)) (.bad 200)) (.bad 200)) (.bad 200)) (.bad 200)) (.bad 200))) (.br Q62 (.br Q63 (.new 1026 Q65 (.new 1027 Q67 (.new 1028 Q69 (.new 1029 Q61 (.br (.nt (.b .pmul .i64 (.b .pmul .i64 (.f 72 Q82 (.v 1020) (.c 32)) (te Q85 Q42)) (te Q89 Q43))) (.exit 7) (.br Q95 (.br Q97 (.br Q98 (.back [Q94, Q103, Q82, Q89, Q85, Q104, Q105, Q96, (.v 1020), Q43, Q42, (.v 1023), Q47]) (.bad 303)) (.bad 303)) (.bad 303))))))) (.bad 200)) (.bad 200)))) (.bad 200)) (.bad 200)) (.bad 200)) (.exit 8)) (.br (te (.v 1055) (.c 0)) (.leaf [(.c 0)]) (.br (te (.v 1055) (.c 1)) (.leaf [(.c 0)]) (.br (te (.v
 1055) (.c 2)) (.leaf [(.c 0)]) (.br (te (.v 1055) (.c 3)) (.leaf [(.c 0)]) (.br (te (.v 1055) (.c 4)) (.leaf [(.c 0)]) (.br (te (.v 1055) (.c 5)) (.br (.ite (te Q108 Q111) (.f 71 (.v 1038) (.v 1045) Q108) (.c 0)) (.br (.ite (te (.v 1) Q112) (.f 72 (.v 1033) (.v 1040) (.v 1)) (.c 0)) (.br (te Q114 (.f 35 (.v 1045) Q111 (.c 0))) (.leaf [(.c 1)]) (.leaf [(.c 0)])) (.leaf [(.c 0)])) (.leaf [(.c 0)])) (.br (te (.v 1055) (.c 6)) (.leaf [(.c 0)]) (.br (te (.v 1055) (.c 7)) (.leaf [(.c 0)]) (.br (.ite (te Q40 Q47) (.f 71 (.v 1018) (.v 1023) Q40) (.c 0)) (.br (tl (.v 1) (.v 6)) (.br (.f 72 (.v 1013) (.v 4) (.v 1)) (.br (te Q50 (.f 35 (.v 1023) Q47 (.c 0))) (.leaf [(.c 1)]) (.leaf [(.c 0)])) (.leaf [(.c 0)])) (.bad 200)) (.leaf [(.c 0)]))))))))))))) (.bad 200)))) (.leaf [(.c 1)]))

noncomputable def sq0 (y1 y2 y14 y13 b y15 y16 y17 y18 y19 : Int) : Int := (stepZ y1 y2 (consZ y14 (consZ y13 (consZ b (consZ y15 (consZ y16 (consZ y17 (consZ y18 (consZ y19 0)))))))))
noncomputable def sq1 (y1 y2 y34 y33 b y35 y36 y37 y38 y39 : Int) : Int := (stepZ y1 y2 (consZ y34 (consZ y33 (consZ b (consZ y35 (consZ y36 (consZ y37 (consZ y38 (consZ y39 0)))))))))
noncomputable def sq2 (d a y20 e b y21 y22 y23 y24 : Int) : Int := (rstZ d a (consZ y20 (consZ e (consZ b (consZ y21 (consZ y22 (consZ y23 (consZ y24 0))))))))
noncomputable def sq3 : Int := (consZ 0 (consZ 0 (consZ 0 (consZ 0 (consZ 0 (consZ 0 (consZ 0 (consZ 0 (consZ 0 (consZ 0 (consZ 0 (consZ 0 (consZ 0 (consZ 0 (consZ 0 (consZ 0 (consZ 0 (consZ 0 (consZ 0 (consZ 0 (consZ 0 (consZ 0 (consZ 0 (consZ 0 (consZ 0 (consZ 0 (consZ 0 (consZ 0 (consZ 0 (consZ 0 (consZ 0 (consZ 0 0))))))))))))))))))))))))))))))))
noncomputable def sq4 (d a y42 y40 y41 y43 y44 y45 y46 : Int) : Int := (rstZ d a (consZ y42 (consZ y40 (consZ y41 (consZ y43 (consZ y44 (consZ y45 (consZ y46 0))))))))
def sq5 (y39 y46 y38 y45 b y41 y33 y40 y37 : Int) : Prop := (Pb (iteZ (Pe y39 y46) (sameM y38 y45 y39) 0) (Pb (iteZ (Pe b y41) (sameW y33 y40 b) 0) (Pb (Pe y37 (costZ y45 y46)) Pt Pf) Pf) Pf)
def P (a b c d e f g : Int) : Prop :=
 (Pb (PL a 200) (Pb (Pe (PL b 2048) 0) Pt (Pb (Pl 2048 b) Pf (Pm (PL b 1000000) (Pb (Pl 16384 a) Pf (∃ I1000 : Int → Int → Int → Nat → Prop, (∃ m, I1000 0 0 0 m) ∧ ∀ y0 y1 y2 : Int, ∀ m0, ((0 ≤ y0 ∧ y0 ≤ 4611686018427387904) ∧ True ∧ (0 ≤ y2 ∧ y2 ≤ 1000000) ∧ True) → I1000 y0 y1 y2 m0 → (Pb (Pl y0 a) (Pn (decZ (U3 (rdZ d y0)) 0) (-32768) 65535 fun y4 => Pn (decZ (U3 (rdZ d y0)) 1) (-32768) 65535 fun y5 => Pn (decZ (U3 (rdZ d y0)) 2) (-32768) 65535 fun y6 => Pn (decZ (U3 (rdZ d y0)) 3) (-32768) 65535 fun y7 => Pn (decZ (U3 (rdZ d y0)) 4) (-32768) 65535 fun y8 => Pn (decZ (U3 (rdZ d y0)) 5) (-32768) 65535 fun y9 => (Pm (PL (y2 + 1) 1000000) (Pm (PL (y0 + 1) 4611686018427387904) (Pm (PL (y2 + 1) 1000000) (∃ m', m' < m0 ∧ I1000 (y0 + 1) (updZ y1 y2 (consZ y4 (consZ y5 (consZ y6 (consZ y7
 (consZ y8 (consZ (Pe y9 0) 0))))))) (y2 + 1) m'))))) (∃ I1012 : Int → Int → Int → Int → Int → Int → Int → Int → Int → Int → Int → Int → Int → Nat → Prop, (∃ m, I1012 0 e sq3 0 0 0 0 0 sq3 0 0 0 0 m) ∧ ∀ y12 y13 y14 y15 y16 y17 y18 y19 y20 y21 y22 y23 y24 : Int, ∀ m12, ((0 ≤ y12 ∧ y12 ≤ 4611686018427387904) ∧ True ∧ True ∧ ((-9223372036854775808) ≤ y15 ∧ y15 ≤ 9223372036854775807) ∧ ((-9223372036854775808) ≤ y16 ∧ y16 ≤ 9223372036854775807) ∧ ((-9223372036854775808) ≤ y17 ∧ y17 ≤ 9223372036854775807) ∧ True ∧ (0 ≤ y19 ∧ y19 ≤ 1000000) ∧ True ∧ ((-9223372036854775808) ≤ y21 ∧ y21 ≤ 9223372036854775807) ∧ ((-9223372036854775808) ≤ y22 ∧ y22 ≤ 9223372036854775807) ∧ True ∧ (0 ≤ y24 ∧ y24 ≤ 1000000) ∧ True) → I1012 y12 y13 y14 y15 y16 y17 y18 y19 y20 y21 y22 y23 y24 m12 → (Pb (Pl y12 c) (Pm
 (PL y2 16384) (Pm (PL y19 999999) (Pm (okC y1 y2) (Pb (Pd (Pd y16 0) (Pd y22 0)) Pf (Pb (Pe y22 0) (Pb (swZ d a (consZ y20 (consZ b (consZ y21 0)))) (Pm (PL 0 y22) (Pm (PL y22 0) (Pm (PL a 16384) (Pm (PL y24 999999) (Pm (PL 0 (W6 (rdZ (sq0 y1 y2 y14 y13 b y15 y16 y17 y18 y19) 6))) (Pm (PL (W6 (rdZ (sq0 y1 y2 y14 y13 b y15 y16 y17 y18 y19) 6)) 999999) (Pn (W6 (rdZ (sq0 y1 y2 y14 y13 b y15 y16 y17 y18 y19) 2)) (-9223372036854775808) 9223372036854775807 fun y26 => Pn (W6 (rdZ (sq0 y1 y2 y14 y13 b y15 y16 y17 y18 y19) 3)) (-9223372036854775808) 9223372036854775807 fun y27 => Pn (W6 (rdZ (sq0 y1 y2 y14 y13 b y15 y16 y17 y18 y19) 4)) (-9223372036854775808) 9223372036854775807 fun y28 => Pn (W6 (rdZ (sq0 y1 y2 y14 y13 b y15 y16 y17 y18 y19) 6)) (-9223372036854775808) 9223372036854775807 fun y29
 => Pn (W6 (rdZ (sq2 d a y20 e b y21 y22 y23 y24) 2)) (-9223372036854775808) 9223372036854775807 fun y30 => Pn (W6 (rdZ (sq2 d a y20 e b y21 y22 y23 y24) 3)) (-9223372036854775808) 9223372036854775807 fun y31 => (Pb (Pe (((sameW (rdZ (sq0 y1 y2 y14 y13 b y15 y16 y17 y18 y19) 0) (rdZ (sq2 d a y20 e b y21 y22 y23 y24) 0) 32) * (Pe y27 y31)) * (Pe y26 y30)) 0) Pf (Pm (PL (y12 + 1) 4611686018427387904) (Pm (PL 0 y29) (Pm (PL y29 1000000) (Pm (PL b 1000000) (Pm (PL 0 (W6 (rdZ (sq2 d a y20 e b y21 y22 y23 y24) 5))) (Pm (PL (W6 (rdZ (sq2 d a y20 e b y21 y22 y23 y24) 5)) 1000000) (∃ I1032 : Int → Int → Int → Int → Int → Int → Int → Int → Int → Int → Int → Int → Int → Int → Int → Nat → Prop, (∃ m, I1032 (y12 + 1) (rdZ (sq0 y1 y2 y14 y13 b y15 y16 y17 y18 y19) 1) (rdZ (sq0 y1 y2 y14 y13 b y15 y16
 y17 y18 y19) 0) y26 y27 y28 (rdZ (sq0 y1 y2 y14 y13 b y15 y16 y17 y18 y19) 5) y29 (rdZ (sq2 d a y20 e b y21 y22 y23 y24) 1) b (rdZ (sq2 d a y20 e b y21 y22 y23 y24) 0) y30 y31 (rdZ (sq2 d a y20 e b y21 y22 y23 y24) 4) (W6 (rdZ (sq2 d a y20 e b y21 y22 y23 y24) 5)) m) ∧ ∀ y32 y33 y34 y35 y36 y37 y38 y39 y40 y41 y42 y43 y44 y45 y46 : Int, ∀ m32, ((0 ≤ y32 ∧ y32 ≤ 4611686018427387904) ∧ True ∧ True ∧ ((-9223372036854775808) ≤ y35 ∧ y35 ≤ 9223372036854775807) ∧ ((-9223372036854775808) ≤ y36 ∧ y36 ≤ 9223372036854775807) ∧ ((-9223372036854775808) ≤ y37 ∧ y37 ≤ 9223372036854775807) ∧ True ∧ (0 ≤ y39 ∧ y39 ≤ 1000000) ∧ True ∧ (0 ≤ y41 ∧ y41 ≤ 1000000) ∧ True ∧ ((-9223372036854775808) ≤ y43 ∧ y43 ≤ 9223372036854775807) ∧ ((-9223372036854775808) ≤ y44 ∧ y44 ≤ 9223372036854775807) ∧ True ∧ (0 ≤ y46
 ∧ y46 ≤ 1000000) ∧ True) → I1032 y32 y33 y34 y35 y36 y37 y38 y39 y40 y41 y42 y43 y44 y45 y46 m32 → (Pb (Pl y32 c) (Pm (PL y39 999999) (Pb (Pd (Pd y36 0) (Pd y44 0)) (Pb (Pe (0 : Int) 0) Pf (Pb (Pe (0 : Int) 1) Pf (Pb (Pe (0 : Int) 2) Pf (sq5 y39 y46 y38 y45 b y41 y33 y40 y37)))) (Pb (Pe y44 0) (Pm (PL 0 y44) (Pm (PL y44 0) (Pm (PL y46 999999) (Pm (PL y41 2048) (Pm (PL 0 (W6 (rdZ (sq1 y1 y2 y34 y33 b y35 y36 y37 y38 y39) 6))) (Pm (PL (W6 (rdZ (sq1 y1 y2 y34 y33 b y35 y36 y37 y38 y39) 6)) 999999) (Pn (W6 (rdZ (sq1 y1 y2 y34 y33 b y35 y36 y37 y38 y39) 2)) (-9223372036854775808) 9223372036854775807 fun y48 => Pn (W6 (rdZ (sq1 y1 y2 y34 y33 b y35 y36 y37 y38 y39) 3)) (-9223372036854775808) 9223372036854775807 fun y49 => Pn (W6 (rdZ (sq1 y1 y2 y34 y33 b y35 y36 y37 y38 y39) 4))
 (-9223372036854775808) 9223372036854775807 fun y50 => Pn (W6 (rdZ (sq1 y1 y2 y34 y33 b y35 y36 y37 y38 y39) 6)) (-9223372036854775808) 9223372036854775807 fun y51 => Pn (W6 (rdZ (sq4 d a y42 y40 y41 y43 y44 y45 y46) 2)) (-9223372036854775808) 9223372036854775807 fun y52 => Pn (W6 (rdZ (sq4 d a y42 y40 y41 y43 y44 y45 y46) 3)) (-9223372036854775808) 9223372036854775807 fun y53 => (Pb (Pe (((sameW (rdZ (sq1 y1 y2 y34 y33 b y35 y36 y37 y38 y39) 0) (rdZ (sq4 d a y42 y40 y41 y43 y44 y45 y46) 0) 32) * (Pe y49 y53)) * (Pe y48 y52)) 0) (Pb (Pe (1 : Int) 0) Pf (Pb (Pe (1 : Int) 1) Pf (Pb (Pe (1 : Int) 2) Pf (sq5 y39 y46 y38 y45 b y41 y33 y40 y37)))) (Pm (PL (y32 + 1) 4611686018427387904) (Pm (PL 0 y51) (Pm (PL y51 1000000) (Pm (PL 0 (W6 (rdZ (sq4 d a y42 y40 y41 y43 y44 y45 y46) 5))) (Pm (PL (W6
 (rdZ (sq4 d a y42 y40 y41 y43 y44 y45 y46) 5)) 1000000) (∃ m', m' < m32 ∧ I1032 (y32 + 1) (rdZ (sq1 y1 y2 y34 y33 b y35 y36 y37 y38 y39) 1) (rdZ (sq1 y1 y2 y34 y33 b y35 y36 y37 y38 y39) 0) y48 y49 y50 (rdZ (sq1 y1 y2 y34 y33 b y35 y36 y37 y38 y39) 5) y51 (rdZ (sq4 d a y42 y40 y41 y43 y44 y45 y46) 1) y41 (rdZ (sq4 d a y42 y40 y41 y43 y44 y45 y46) 0) y52 y53 (rdZ (sq4 d a y42 y40 y41 y43 y44 y45 y46) 4) (W6 (rdZ (sq4 d a y42 y40 y41 y43 y44 y45 y46) 5)) m')))))))))))))) (Pm (PL 0 (W6 (rdZ (sq1 y1 y2 y34 y33 b y35 y36 y37 y38 y39) 6))) (Pm (PL (W6 (rdZ (sq1 y1 y2 y34 y33 b y35 y36 y37 y38 y39) 6)) 999999) (Pn (W6 (rdZ (sq1 y1 y2 y34 y33 b y35 y36 y37 y38 y39) 2)) (-9223372036854775808) 9223372036854775807 fun y48 => Pn (W6 (rdZ (sq1 y1 y2 y34 y33 b y35 y36 y37 y38 y39) 3))
 (-9223372036854775808) 9223372036854775807 fun y49 => Pn (W6 (rdZ (sq1 y1 y2 y34 y33 b y35 y36 y37 y38 y39) 4)) (-9223372036854775808) 9223372036854775807 fun y50 => Pn (W6 (rdZ (sq1 y1 y2 y34 y33 b y35 y36 y37 y38 y39) 6)) (-9223372036854775808) 9223372036854775807 fun y51 => (Pb (Pe (((sameW (rdZ (sq1 y1 y2 y34 y33 b y35 y36 y37 y38 y39) 0) y42 32) * (Pe y49 y44)) * (Pe y48 y43)) 0) (Pb (Pe (2 : Int) 0) Pf (Pb (Pe (2 : Int) 1) Pf (Pb (Pe (2 : Int) 2) Pf (sq5 y39 y46 y38 y45 b y41 y33 y40 y37)))) (Pm (PL (y32 + 1) 4611686018427387904) (Pm (PL 0 y51) (Pm (PL y51 1000000) (∃ m', m' < m32 ∧ I1032 (y32 + 1) (rdZ (sq1 y1 y2 y34 y33 b y35 y36 y37 y38 y39) 1) (rdZ (sq1 y1 y2 y34 y33 b y35 y36 y37 y38 y39) 0) y48 y49 y50 (rdZ (sq1 y1 y2 y34 y33 b y35 y36 y37 y38 y39) 5) y51 y40 y41 y42 y43 y44
 y45 y46 m'))))))))))) (Pb (Pe (3 : Int) 0) Pf (Pb (Pe (3 : Int) 1) Pf (Pb (Pe (3 : Int) 2) Pf (sq5 y39 y46 y38 y45 b y41 y33 y40 y37)))))))))))))))))))) (Pm (PL 0 y22) (Pm (PL y22 0) (Pm (PL a 16384) (Pm (PL y24 999999) (Pm (PL 0 (W6 (rdZ (sq0 y1 y2 y14 y13 b y15 y16 y17 y18 y19) 6))) (Pm (PL (W6 (rdZ (sq0 y1 y2 y14 y13 b y15 y16 y17 y18 y19) 6)) 999999) (Pn (W6 (rdZ (sq0 y1 y2 y14 y13 b y15 y16 y17 y18 y19) 2)) (-9223372036854775808) 9223372036854775807 fun y26 => Pn (W6 (rdZ (sq0 y1 y2 y14 y13 b y15 y16 y17 y18 y19) 3)) (-9223372036854775808) 9223372036854775807 fun y27 => Pn (W6 (rdZ (sq0 y1 y2 y14 y13 b y15 y16 y17 y18 y19) 4)) (-9223372036854775808) 9223372036854775807 fun y28 => Pn (W6 (rdZ (sq0 y1 y2 y14 y13 b y15 y16 y17 y18 y19) 6)) (-9223372036854775808) 9223372036854775807 fun
 y29 => Pn (W6 (rdZ (sq2 d a y20 e b y21 y22 y23 y24) 2)) (-9223372036854775808) 9223372036854775807 fun y30 => Pn (W6 (rdZ (sq2 d a y20 e b y21 y22 y23 y24) 3)) (-9223372036854775808) 9223372036854775807 fun y31 => (Pb (Pe (((sameW (rdZ (sq0 y1 y2 y14 y13 b y15 y16 y17 y18 y19) 0) (rdZ (sq2 d a y20 e b y21 y22 y23 y24) 0) 32) * (Pe y27 y31)) * (Pe y26 y30)) 0) Pf (Pm (PL (y12 + 1) 4611686018427387904) (Pm (PL 0 y29) (Pm (PL y29 1000000) (Pm (PL 0 (W6 (rdZ (sq2 d a y20 e b y21 y22 y23 y24) 5))) (Pm (PL (W6 (rdZ (sq2 d a y20 e b y21 y22 y23 y24) 5)) 1000000) (∃ m', m' < m12 ∧ I1012 (y12 + 1) (rdZ (sq0 y1 y2 y14 y13 b y15 y16 y17 y18 y19) 1) (rdZ (sq0 y1 y2 y14 y13 b y15 y16 y17 y18 y19) 0) y26 y27 y28 (rdZ (sq0 y1 y2 y14 y13 b y15 y16 y17 y18 y19) 5) y29 (rdZ (sq2 d a y20 e b y21 y22 y23
 y24) 0) y30 y31 (rdZ (sq2 d a y20 e b y21 y22 y23 y24) 4) (W6 (rdZ (sq2 d a y20 e b y21 y22 y23 y24) 5)) m'))))))))))))))) (Pm (PL 0 (W6 (rdZ (sq0 y1 y2 y14 y13 b y15 y16 y17 y18 y19) 6))) (Pm (PL (W6 (rdZ (sq0 y1 y2 y14 y13 b y15 y16 y17 y18 y19) 6)) 999999) (Pn (W6 (rdZ (sq0 y1 y2 y14 y13 b y15 y16 y17 y18 y19) 2)) (-9223372036854775808) 9223372036854775807 fun y26 => Pn (W6 (rdZ (sq0 y1 y2 y14 y13 b y15 y16 y17 y18 y19) 3)) (-9223372036854775808) 9223372036854775807 fun y27 => Pn (W6 (rdZ (sq0 y1 y2 y14 y13 b y15 y16 y17 y18 y19) 4)) (-9223372036854775808) 9223372036854775807 fun y28 => Pn (W6 (rdZ (sq0 y1 y2 y14 y13 b y15 y16 y17 y18 y19) 6)) (-9223372036854775808) 9223372036854775807 fun y29 => (Pb (Pe (((sameW (rdZ (sq0 y1 y2 y14 y13 b y15 y16 y17 y18 y19) 0) y20 32) * (Pe y27
 y22)) * (Pe y26 y21)) 0) Pf (Pm (PL (y12 + 1) 4611686018427387904) (Pm (PL 0 y29) (Pm (PL y29 1000000) (∃ m', m' < m12 ∧ I1012 (y12 + 1) (rdZ (sq0 y1 y2 y14 y13 b y15 y16 y17 y18 y19) 1) (rdZ (sq0 y1 y2 y14 y13 b y15 y16 y17 y18 y19) 0) y26 y27 y28 (rdZ (sq0 y1 y2 y14 y13 b y15 y16 y17 y18 y19) 5) y29 y20 y21 y22 y23 y24 m'))))))))))))) (Pb (iteZ (Pe y19 y24) (sameM y18 y23 y19) 0) (Pm (PL b g) (Pb (sameW y13 e b) (Pb (Pe y17 (costZ y23 y24)) Pt Pf) Pf)) Pf))))))))) Pt)

set_option maxHeartbeats 8000000 in
theorem holds (n0 n1 p2 c0 c1 r0 r1 : Int) (l_n0 : 0 ≤ n0) (u_n0 : n0 ≤ 140737488355328) (l_n1 : 0 ≤ n1) (u_n1 : n1 ≤ 140737488355328) (l_p2 : 0 ≤ p2) (u_p2 : p2 ≤ 255) (h_n0 : n0 ≤ r0) (h_n1 : n1 ≤ r1) : P n0 n1 p2 c0 c1 r0 r1 := by
  delta P sq0 sq1 sq2 sq3 sq4 sq5 Pb Pm Pn Pf Pt PL Pl Pe Pd W6 U3
  simp (config := { maxSteps := 100000000 }) only [b01_eq, decide_eq_true_eq, decide_eq_false_iff_not, beq_iff_eq, beq_eq_false_iff_ne, bne_iff_ne, bne_eq_false_iff_eq, Int.not_le, Int.not_lt, true_and, and_true, iteZ_ne, ne_eq, Bool.not_eq_false, Bool.not_eq_true, not_true_eq_false, not_false_eq_true, Decidable.not_not, forall_const, false_implies, true_iff, iff_true, false_iff, iff_false, Int.reduceEq, Int.reduceNeg, eq_self, if_true, if_false, reduceIte, ob_le, ob_lt, ob_p, ob_n]
  refine ⟨fun g1 => ⟨fun _ => trivial, fun g2 => ⟨fun _ => by omega, fun g3 => ⟨by omega, fun _ => by omega, fun g4 => ?_⟩⟩⟩, fun _ => trivial⟩
  refine ⟨fun i q n m => ∃ k : Nat, i = k ∧ q = decC c0 k ∧ n = k ∧ i ≤ n0 ∧ m = (n0 - i).toNat, ⟨_, 0, rfl, rfl, rfl, l_n0, rfl⟩, fun i q n m hb hI => ?_⟩
  obtain ⟨k, rfl, rfl, rfl, hi, rfl⟩ := hI
  refine ⟨fun h1 => ?_, fun h1 => ?_⟩
  · rintro _ rfl _ _ rfl _ _ rfl _ _ rfl _ _ rfl _ _ rfl _
    exact ⟨by omega, by omega, by omega, _, by omega, k + 1, by omega, rfl, by omega, by omega, rfl⟩
  have hkn : n0 = k := by omega
  subst hkn
  have hok := okC_dec c0 k
  refine ⟨fun i rm rg pc st co mq nm xrg xpc xst xmq xnm m => Cp c0 c1 k n1 i ⟨rg, rm, pc, st, co, mq, nm⟩ ⟨xrg, c1, xpc, xst, co, xmq, xnm⟩ ∧ i ≤ p2 ∧ m = (p2 - i).toNat, ⟨_, cp_nu, l_p2, rfl⟩, fun i rm rg pc st co mq nm xrg xpc xst xmq xnm m hb2 hI => ?_⟩
  obtain ⟨hC, hip, rfl⟩ := hI
  clear hb h1 hi
  obtain ⟨g1, g2, g3, g4, g5, g6, g7⟩ := hC.sim
  have hn0 := cp_nm hC
  simp only at g1 g2 g3 g5 g6 hn0
  refine ⟨fun hlt => ⟨by omega, by omega, hok, fun g => g (by rw [g3]), fun _ => ⟨fun h0 => ⟨fun hsw => ⟨by omega, by omega, by omega, by omega, ?_⟩, fun hsw => ⟨by omega, by omega, by omega, by omega, ?_⟩⟩, fun h0 => ?_⟩⟩, fun hge => ?_⟩
  · refine cp_leaf hC (by omega) rfl (x_rst rfl) (memEq_refl _ _) ?_
    intro h; have h := cp_wm (by omega) h; have hn := cp_nm h; simp only at hn; rintro _ rfl _ _ rfl _; refine cp_two h ?_; refine ⟨by omega, by omega, by omega, by omega, by omega, by omega, ?_⟩
    refine ⟨fun i rm rg pc st co mq nm xrm xn1 xrg xpc xst xmq xnm m => n1 = xn1 ∧ Cp c0 c1 k n1 i ⟨rg, rm, pc, st, co, mq, nm⟩ ⟨xrg, xrm, xpc, xst, co, xmq, xnm⟩ ∧ i ≤ p2 ∧ m = (p2 - i).toNat, ⟨_, rfl, h, by omega, rfl⟩, ?_⟩
    clear h hn hC g1 g2 g3 g5 g6 g7 hb2 hn0
    intro i rm rg pc st co mq nm xrm xn1 xrg xpc xst xmq xnm m hb2 hI
    obtain ⟨hxn, hC, hip, rfl⟩ := hI
    subst hxn
    obtain ⟨g1, g2, g3, g4, g5, g6, g7⟩ := hC.sim
    have hn0 := cp_nm hC
    simp only at g1 g2 g3 g5 g6 hn0
    refine ⟨fun hlt => ⟨by omega, fun g => g (by rw [g3]), fun _ => ⟨fun h0 => ⟨by omega, by omega, by omega, by omega, ?_⟩, fun h0 => ?_⟩⟩, fun hge => ?_⟩
    · refine cp_leaf hC (by omega) rfl (x_rst rfl) (memEq_refl _ _) ?_
      intro h; have h := cp_wm (by omega) h; have hn := cp_nm h; simp only at hn; rintro _ rfl _ _ rfl _; refine cp_two h ?_; exact ⟨by omega, by omega, by omega, by omega, by omega, _, by omega, rfl, h, by omega, rfl⟩
    · refine cp_leaf hC (by omega) rfl (x_stop h0) (memEq_refl _ _) ?_
      intro h; have hn := cp_nm h; simp only at hn; refine cp_two h ?_; exact ⟨by omega, by omega, by omega, _, by omega, rfl, h, by omega, rfl⟩
    · exact ⟨(cp_fin (by omega) (by omega) hC).1, by rw [if_pos rfl]; exact (cp_fin (by omega) (by omega) hC).2.1, (cp_fin (by omega) (by omega) hC).2.2⟩
  · refine cp_leaf hC (by omega) rfl (x_rstI rfl hsw) (memEq_refl _ _) ?_
    intro h; have h := cp_wm (by omega) h; have hn := cp_nm h; simp only at hn; rintro _ rfl _ _ rfl _; refine cp_two h ?_; exact ⟨by omega, by omega, by omega, by omega, by omega, _, by omega, h, by omega, rfl⟩
  · refine cp_leaf hC (by omega) rfl (x_stop h0) (memEq_refl _ _) ?_
    intro h; have hn := cp_nm h; simp only at hn; refine cp_two h ?_; exact ⟨by omega, by omega, by omega, _, by omega, h, by omega, rfl⟩
  · exact ⟨(cp_fin (by omega) (by omega) hC).1, by omega, (cp_fin (by omega) (by omega) hC).2.1, (cp_fin (by omega) (by omega) hC).2.2⟩

theorem plain (i v ro p) : statR 2 rc tree ⟨i, fN, v, ro, p⟩ = P (i 0) (i 1) (i 2) (i 3) (i 4) (i 5) (i 6) := by kernel_rfl
theorem ran : ranR us (fun f i => if f = 3 then (match i with | 8 => .poly [some mp8_0, some mp8_1] | _ => .auto) else .auto) rc 2 tree = true := by kernel_rfl
theorem fineT : fineR 2 rc tree = true := by kernel_rfl
theorem ok : RcOk (cxOf 2) rc := okR us_ok ran fineT okb fun i v ro p hρ hcap hpre => by rw [plain]; exact holds (i 0) (i 1) (i 2) (i 3) (i 4) (i 5) (i 6) (hρ.hi 0 _ rfl).1 (hρ.hi 0 _ rfl).2 (hρ.hi 1 _ rfl).1 (hρ.hi 1 _ rfl).2 (hρ.hi 2 _ rfl).1 (hρ.hi 2 _ rfl).2 (hcap _ (List.mem_of_getElem? (i := 0) rfl)) (hcap _ (List.mem_of_getElem? (i := 1) rfl))
theorem listE_LZ (P : Program) (l : List Int) (ro : List RO) : ∀ zs : List Int, (listE (zs.map E.c)).ev (envR P l ro) = LZ zs
  | [] => rfl
  | z :: zs => by
    have h : (listE ((z :: zs).map E.c)).ev (envR P l ro) = consZ z ((listE (zs.map E.c)).ev (envR P l ro)) := rfl
    rw [h, listE_LZ P l ro zs]
    unfold consZ
    rw [ZL_LZ]
def tab0 : List Int := [1, 1, 1, 1, 1, 1, 1, 1, 1, 1, 1, 1, 1, 1, 1, 1, 1, 3, 3, 3, 3, 2, 2, 1, 1, 1, 1, 1, 1, 1, 1, 1, 1, 2, 2, 1, 1, 1, 3, 3, 3, 1, 1]
theorem tabG0 : Tryz.prog.globalNamed "astrolabe/ops.costs" = some 0 := by kernel_rfl
theorem tabW0 : ∀ z ∈ tab0, IntKind.wrap .i64 z = z := fun z hz => by
  have h := List.all_eq_true.1 (show tab0.all (fun z => decide (IntKind.wrap .i64 z = z)) = true by kernel_rfl) z hz
  simpa using h
theorem tabIs0 {W : World} (h : laidMetH Tryz.prog Rows.corePlaysRow.laid W) : Lib.TabIs Tryz.prog W "astrolabe/ops.costs" .i64 tab0 := by
  rw [MakeChecks.laidMetH_plain _ _ _ (by kernel_rfl)] at h
  exact Lib.tabIs_of_head (rest := []) tabG0 (t := 122) (e := 3) (n := 43) (by kernel_rfl) (by kernel_rfl) (by kernel_rfl) (by kernel_rfl) (by kernel_rfl) h

theorem walk (w : World) (a0 : RO) (k0 : a0.cks = [.int .u32]) (n0 : a0.a = none → a0.n = 0) (m0 : a0.n ≤ a0.cap) (t0 : RoAt w a0) (b0 : (a0.n : Int) ≤ 140737488355328) (a1 : RO) (k1 : a1.cks = [.int .i32]) (n1 : a1.a = none → a1.n = 0) (m1 : a1.n ≤ a1.cap) (t1 : RoAt w a1) (b1 : (a1.n : Int) ≤ 140737488355328) (a2 : Int) (w2 : (Lit.int .u8 a2).wf = true) (tb0 : Lib.TabIs Tryz.prog w "astrolabe/ops.costs" .i64 tab0) :
    Calls Tryz.prog 3 #[.slice a0.a a0.n a0.cap, .slice a1.a a1.n a1.cap, .int .u8 a2] w fun e w' => e = .returned (.bool true) ∧ Below w.heap.size w w' := by
  refine law_of (cx := cxOf 2) ok ⟨rfl, rfl, rfl⟩ (ρ := envR Tryz.prog [(a0.n : Int), (a1.n : Int), a2, a0.c, a1.c, (a0.cap : Int), (a1.cap : Int)] [a0, a1, tabRo 0 .i64 tab0]) (envR_ok (cx := rc.cx (cxOf 2)) rfl rfl (bnd_cons ⟨Int.natCast_nonneg _, b0⟩ (bnd_cons ⟨Int.natCast_nonneg _, b1⟩ (bnd_cons (wf_bd w2) (bnd_nil _)))) ⟨⟨k0, rfl, (Int.toNat_natCast _).symm, (Int.toNat_natCast _).symm, n0, fun g h => by cases h⟩, ⟨⟨k1, rfl, (Int.toNat_natCast _).symm, (Int.toNat_natCast _).symm, n1, fun g h => by cases h⟩, ⟨⟨rfl, (listE_LZ _ _ _ tab0).symm, rfl, rfl, (fun h => by cases h), fun g h => by cases h; rfl⟩, trivial⟩⟩⟩) (fun d hd => by
    simp only [show lfIns rc.b rc.c rc.ls 0 0 0 = [⟨[.int .u32], .v 3, .v 0, .v 5, none⟩, ⟨[.int .i32], .v 4, .v 1, .v 6, none⟩] from rfl, List.mem_cons, List.not_mem_nil, or_false] at hd
    rcases hd with rfl | rfl
    · exact Int.ofNat_le.2 m0
    · exact Int.ofNat_le.2 m1) (roOk_of ⟨t0, ⟨t1, ⟨tabRo_at tb0 tabG0 tabW0, trivial⟩⟩⟩) ?_
  rw [show rc.args = [.sl (.inp 0) 1 (.c 0) (.v 0) (some (.v 5)), .sl (.inp 1) 1 (.c 0) (.v 1) (some (.v 6)), .int .u8 (.v 2)] from rfl]
  simp only [SV.denL, SV.den, E.ev, map_addr_zero]
  rfl
theorem lifted (os : Os) (started : os.Started) (H : Type) (enc : TypeId × Value → H) :
    ReturnsInHanded {} Tryz.checked os 3 .any (fun w args => (Rows.corePlaysSpec.pre enc Tryz.prog Tryz.f3 Rows.corePlaysRow.domain false w args ∧ laidMetH Tryz.prog Rows.corePlaysRow.laid w) ∧ sizedMet enc Tryz.prog Tryz.f3 (OpenSpec.ofChange Rows.corePlaysSpec) false w args)
      (Rows.corePlaysSpec.post enc Tryz.prog Tryz.f3 false true false false) := by
  refine returnsInHanded_of_change_and (C := Tryz.checked) (X := fun w _ => laidMetH Tryz.prog Rows.corePlaysRow.laid w) (fun _ _ _ hh h => h.of_heap hh) own started (by kernel_rfl) Tryz.func3
    (ChangeSpec.witness_shaped (enc := enc) (C := Tryz.checked) (os := os) (X := fun w _ => laidMetH Tryz.prog Rows.corePlaysRow.laid w) false (World.laidAll Tryz.prog os Rows.corePlaysRow.laid) #[.slice none 0 0, .slice none 0 0, .int .u8 0] 8 (World.laidAll_os _ _ _)
      (World.shaped_of_ZipB (by kernel_rfl) (by kernel_rfl)) (by kernel_rfl) (by kernel_rfl) (by kernel_rfl)
      (by rw [MakeChecks.laidMetH_plain _ _ _ (by kernel_rfl)]; exact laidMet_laidAll _ (by kernel_rfl) (by kernel_rfl))) ?_
  intro W base args ds gs before hval0 hW hcnd hw0 hL _
  have hval : ∀ (j : Nat) t v, Tryz.f3.params[j]? = some t → args[j]? = some v → Value.okWide Tryz.prog W .any base t v := hval0
  have hW' := hW
  obtain ⟨p, q, hA0, hV, rfl, hfz, hnd⟩ := hW
  have hA : DataW.TrodAll enc Tryz.prog W 0 (fun _ => true) true Tryz.f3.params.toList args.toList ds p := hA0
  have hw := hw0
  rw [Tryz.params3] at hA hval hw
  obtain ⟨v0, vs0, d0, ds0, p0, q0, hargs, rfl, rfl, h0, r0⟩ := trodAll_cons hA
  have h0k := h0
  obtain ⟨v1, vs1, d1, ds1, p1, q1, rfl, rfl, rfl, h1, r1⟩ := trodAll_cons r0
  have h1k := h1
  obtain ⟨v2, vs2, d2, ds2, p2, q2, rfl, rfl, rfl, h2, r2⟩ := trodAll_cons r1
  have h2k := h2
  obtain ⟨rfl, rfl, rfl⟩ := trodAll_nil r2
  obtain rfl : args = #[v0, v1, v2] := by cases args; simp_all
  obtain ⟨rfl, rfl⟩ := trodVars_none hV
  obtain ⟨a0, k0, rfl, n0, m0, t0, b0, _⟩ := Go.Eng.open_row (ks := [.int .u32]) Tryz.underlying22 (ElT.one Tryz.underlying48 (by kernel_rfl)) (by decide) (of_decide_eq_true (by kernel_rfl)) (by kernel_rfl) (hval 0 22 v0 rfl rfl) h0 (weights_of (gs := []) hw (j := 0) (t := 22) rfl rfl)
  obtain ⟨a1, k1, rfl, n1, m1, t1, b1, _⟩ := Go.Eng.open_row (ks := [.int .i32]) Tryz.underlying23 (ElT.one Tryz.underlying21 (by kernel_rfl)) (by decide) (of_decide_eq_true (by kernel_rfl)) (by kernel_rfl) (hval 1 23 v1 rfl rfl) h1 (weights_of (gs := []) hw (j := 1) (t := 23) rfl rfl)
  obtain ⟨a2, rfl, rfl, rfl, w2⟩ := open_int Tryz.underlying5 (hval 2 5 v2 rfl rfl) h2
  clear hA0 hval0
  refine (walk W a0 k0 n0 m0 t0 b0 a1 k1 n1 m1 t1 b1 a2 w2 (tabIs0 hL)).mono fun e W' ⟨he, hg⟩ => ?_
  subst he
  have hin0 : ∀ x ∈ p0, x ∈ p0 ++ (p1 ++ ([] ++ [])) ++ [] := fun x hx => by simp [hx]
  have hlt0 : ∀ x ∈ p0, x.block < W.heap.size := fun x hx => by simpa using hW'.lt x (by simp [hx])
  have hin1 : ∀ x ∈ p1, x ∈ p0 ++ (p1 ++ ([] ++ [])) ++ [] := fun x hx => by simp [hx]
  have hlt1 : ∀ x ∈ p1, x.block < W.heap.size := fun x hx => by simpa using hW'.lt x (by simp [hx])
  exact ⟨_, rfl, post_below (pa := _) (pv := []) hW' hg (fun _ _ _ => (trodAll_cons_mk (shut_bool Tryz.underlying4 _) trodAll_mk0)) (fun sp hsp => (trodAll_cons_mk (WideElems.Trod_stays laidOut (by kernel_rfl) (of_decide_eq_true (by kernel_rfl)) h0k (fun x hx => hg.same (hlt0 x hx)) (fun x hx => hsp x (hin0 x hx))) (trodAll_cons_mk (WideElems.Trod_stays laidOut (by kernel_rfl) (of_decide_eq_true (by kernel_rfl)) h1k (fun x hx => hg.same (hlt1 x hx)) (fun x hx => hsp x (hin1 x hx))) (trodAll_cons_mk (shut_int Tryz.underlying5 w2) trodAll_mk0)))) (fun _ _ => rfl) (by simp)
    (ok_one (by kernel_rfl) rfl (okWide_bool_mk Tryz.underlying4 _))⟩

theorem over : Rows.corePlaysRow.holds Tryz.pinned (OpenSpec.ofChange Rows.corePlaysSpec) :=
  OpenClaim.holds_of_wide 3 Tryz.f3 rfl rfl rfl rfl rfl rfl rfl ⟨rfl, rfl, rfl, rfl, rfl⟩ rfl rfl rfl rfl rfl (by kernel_rfl) Tryz.func3 (by kernel_rfl)
    (of_decide_eq_true (by kernel_rfl)) (by unfold Func.isWrapper; first | (rw [if_pos (by decide +kernel)]; kernel_rfl) | (rw [if_neg (by decide +kernel)]; exact ⟨rfl, rfl⟩))
    (fun os started H enc _ => lifted os started H enc)

/-- the statement -/
theorem proved : Rows.CorePlaysCardSaid :=
  Claim7.holds_tied_plain_at .later [] [.data] true (true, "7bdb080db6dc5a3609dbd5a4da12b96889c0bfa1a2f606d6fb63f8b31670d652") false
    over (fun _ h => by cases h) (by kernel_rfl) (fun _ h => by cases h) corePlays_row_tie rfl ⟨rfl, rfl⟩ (by kernel_rfl) rfl
    (fun f fn hf hfn => by
      obtain rfl : f = 3 := Option.some.inj ((show Tryz.prog.funcNamed "astrolabe/astrolabelaw16.CorePlays" = some 3 by kernel_rfl).symm.trans hf) |>.symm
      obtain rfl : fn = Tryz.f3 := (Option.some.inj (Tryz.func3.symm.trans hfn)).symm
      exact ⟨by kernel_rfl, fun j t ht => by
        rw [Tryz.params3] at ht
        have h3 : t = 5 ∨ t = 22 ∨ t = 23 := by
          rcases j with _ | _ | _ | j
          · exact (.inr (.inl (by simpa using ht.symm)))
          · exact (.inr (.inr (by simpa using ht.symm)))
          · exact (.inl (by simpa using ht.symm))
          · simp at ht
        rcases h3 with rfl | rfl | rfl
        · exact (show Tryz.prog.wantsStandIn 5 = false by kernel_rfl)
        · exact (show Tryz.prog.wantsStandIn 22 = false by kernel_rfl)
        · exact (show Tryz.prog.wantsStandIn 23 = false by kernel_rfl)⟩)
    (by kernel_rfl)
#print axioms proved
end Go.Proofs.YtbfgkimoobkpmaaGreatDoor.corePlays
