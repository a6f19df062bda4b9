/-
  What functions of the program answer, as numbers of what they are handed: their runs by the engine, the plain statements behind them. No condition.
-/
import Derived.Test.YtkjbmbmdmhfbeacDoorKa
import Derived.Test.YtkjbmbmdmhfbeacDoorGab
import Derived.Test.YtkjbmbmdmhfbeacDoorGp3
import Derived.Test.YtkjbmbmdmhfbeacDoorGp1
set_option linter.unusedVariables false
set_option linter.unusedSimpArgs false
set_option maxRecDepth 100000
namespace Go.Proofs.YtkjbmbmdmhfbeacDoor
open Go.Eng Go.RowKit
namespace CIGet
def rc : Rc := ⟨7, [none], [.row [.int .u8] 900000], [], .tup [some 5, none], [.row [.int .u32] 41 (.f 128 (.v 1) (.c 0) (.c 0)) (.f 127 (.v 1) (.v 0) (.c 0)), .row [.int .i32] 21 (.f 128 (.v 1) (.c 1) (.c 0)) (.f 127 (.v 1) (.v 0) (.c 1)), .row [.bool] 4 (.f 128 (.v 1) (.c 2) (.c 0)) (.f 127 (.v 1) (.v 0) (.c 2)), .row [.int .i64] 3 (.f 128 (.v 1) (.c 3) (.c 0)) (.f 127 (.v 1) (.v 0) (.c 3)), .row [.int .i64] 3 (.f 128 (.v 1) (.c 4) (.c 0)) (.f 127 (.v 1) (.v 0) (.c 4)), .int .i64 (.f 126 (.v 1) (.v 0) (.c 0))]⟩
theorem okb : rc.ok = true := by kernel_rfl
noncomputable def us : SMs := fun Γ ins n => smH (cxG n Γ ins) [] (smR (cxG n Γ ins) [CICheck.rc, CKOpen.rc])
theorem us_ok : SMsOk us := fun Γ ins n => qZu (tabsG n Γ ins) (qZa _) (qZs (tabsG n Γ ins) (qQg CICheck.okb (rc_n CICheck.ok) (qQg CKOpen.okb (rc_n CKOpen.ok) (qZb _))))
def Q0 : E := (.f 121 (.v 1) (.v 0) (.c 0))
def Q1 : E := (te Q0 (.c 0))
def Q2 : E := (.cl 1000 (-2) 899998)
def Q3 : E := (.b .psub .i64 Q2 (.c 4))
def Q4 : E := (tp (.c 4) (.c 1))
def Q5 : E := (.b .psub .i64 Q3 (.c 2))
def Q6 : E := (.cl 1001 0 4611686018427387904)
def Q7 : E := (.cl 1003 0 1000000)
def Q8 : E := (.cl 1002 0 1000000)
def Q9 : E := (tp Q8 Q7)
def Q10 : E := (tl Q9 Q2)
def Q11 : E := (tk Q8 Q2)
def Q12 : E := (tp Q8 (.c 1))
def Q13 : E := (tk Q12 Q2)
def Q14 : E := (tp Q8 (.c 2))
def Q15 : E := (tp Q8 (.c 3))
def Q16 : E := (.cl 1006 0 1000000)
def Q17 : E := (tp Q16 (.c 1))
def Q18 : E := (tl Q17 (.c 1000000))
def Q19 : E := (tp Q6 (.c 1))
def Q20 : E := (tp Q8 (.c 4))
def Q21 : E := (.b .psub .i64 Q7 (.c 4))
def Q22 : E := (tR (.v 1) Q8)
def Q23 : E := (.w .u8 Q22)
def Q24 : E := (.b .or .i64 (.c 0) Q23)
def Q25 : E := (.b .shl .i64 Q24 (.c 8))
def Q26 : E := (tR (.v 1) Q12)
def Q27 : E := (.w .u8 Q26)
def Q28 : E := (.b .or .i64 Q25 Q27)
def Q29 : E := (.b .psub .i64 Q7 (.c 2))
def Q30 : E := (.cl 1010 0 4611686018427387904)
def Q31 : E := (.cl 1012 0 1000000)
def Q32 : E := (.cl 1011 0 1000000)
def Q33 : E := (tp Q32 Q31)
def Q34 : E := (tl Q33 Q2)
def Q35 : E := (tk Q32 Q2)
def Q36 : E := (tp Q32 (.c 1))
def Q37 : E := (tp Q32 (.c 2))
def Q38 : E := (tp Q32 (.c 3))
def Q39 : E := (.cl 1015 0 1000000)
def Q40 : E := (tp Q39 (.c 1))
def Q41 : E := (tl Q40 (.c 1000000))
def Q42 : E := (.b .psub .i64 Q31 (.c 4))
def Q43 : E := (tp Q32 (.c 4))
def Q44 : E := (tR (.v 1) Q43)
def Q45 : E := (.w .u8 Q44)
def Q46 : E := (.b .or .i64 (.c 0) Q45)
def Q47 : E := (.cl 1017 0 1000000)
def Q48 : E := (tp Q47 (.c 1))
def Q49 : E := (tl Q48 (.c 1000000))
def Q50 : E := (tp Q30 (.c 1))
def Q51 : E := (tp Q43 (.c 1))
def Q52 : E := (.b .psub .i64 Q42 (.c 1))
def Q53 : E := (tR (.v 1) Q32)
def Q54 : E := (.w .u8 Q53)
def Q55 : E := (.b .or .i64 (.c 0) Q54)
def Q56 : E := (.b .psub .i64 Q31 (.c 1))
def Q57 : E := (.cl 1023 0 4611686018427387904)
def Q58 : E := (.cl 1025 0 1000000)
def Q59 : E := (.cl 1024 0 1000000)
def Q60 : E := (tp Q59 Q58)
def Q61 : E := (tl Q60 Q2)
def Q62 : E := (tk Q59 Q2)
def Q63 : E := (tp Q59 (.c 1))
def Q64 : E := (.cl 1022 0 1000000)
def Q65 : E := (tp Q64 (.c 1))
def Q66 : E := (tl Q65 (.c 1000000))
def Q67 : E := (tp Q57 (.c 1))
def Q68 : E := (tp Q59 (.c 2))
def Q69 : E := (.b .psub .i64 Q58 (.c 2))
def Q70 : E := (tR (.v 1) Q59)
def Q71 : E := (.w .u8 Q70)
def Q72 : E := (.b .or .i64 (.c 0) Q71)
def Q73 : E := (.b .psub .i64 Q58 (.c 1))
def Q74 : E := (.cl 1032 0 4611686018427387904)
def Q75 : E := (.cl 1034 0 1000000)
def Q76 : E := (.cl 1033 0 1000000)
def Q77 : E := (tp Q76 (.c 1))
def Q78 : E := (.cl 1031 0 1000000)
def Q79 : E := (tp Q78 (.c 1))
def Q80 : E := (tl Q79 (.c 1000000))
def Q81 : E := (tp Q74 (.c 1))
def Q82 : E := (tp Q76 (.c 2))
def Q83 : E := (.b .psub .i64 Q75 (.c 2))
def tree : TT (List E) :=
 (.br (tl (.v 0) (.v 2)) (.new 1000 (.ite Q1 (.b .psub .i64 (.v 0) (.c 2)) (.c 0)) (.br (tn Q0 (.c 0)) (.br Q1 (.leaf [(.c 0), (.c 0), (.c 0), (.c 0), (.c 0), (.c 0), (.c 0), (.c 0), (.c 0), (.c 0), (.c 0)]) (.br (te Q0 (.c 1)) (.leaf [(.c 0), (.c 0), (.c 0), (.c 0), (.c 0), (.c 0), (.c 0), (.c 0), (.c 0), (.c 0), (.c 1)]) (.br (te Q0 (.c 2)) (.leaf [(.c 0), (.c 0), (.c 0), (.c 0), (.c 0), (.c 0), (.c 0), (.c 0), (.c 0), (.c 0), (.c 2)]) (.br (te Q0 (.c 3)) (.leaf [(.c 0), (.c 0), (.c 0), (.c 0), (.c 0), (.c 0), (.c 0), (.c 0), (.c 0), (.c 0), (.c 3)]) (.br (te Q0 (.c 4)) (.leaf [(.c 0), (.c 0), (.c 0), (.c 0), (.c 0), (.c 0), (.c 0), (.c 0), (.c 0), (.c 0), (.c 4)]) (.br (te Q0 (.c 5)) (.leaf [(.c 0), (.c 0), (.c 0), (.c 0), (.c 0), (.c 0), (.c 0), (.c 0), (.c 0), (.c 0), (.c 5)]) (.br
 (te Q0 (.c 6)) (.leaf [(.c 0), (.c 0), (.c 0), (.c 0), (.c 0), (.c 0), (.c 0), (.c 0), (.c 0), (.c 0), (.c 6)]) (.br (te Q0 (.c 7)) (.leaf [(.c 0), (.c 0), (.c 0), (.c 0), (.c 0), (.c 0), (.c 0), (.c 0), (.c 0), (.c 0), (.c 7)]) (.br (te Q0 (.c 8)) (.leaf [(.c 0), (.c 0), (.c 0), (.c 0), (.c 0), (.c 0), (.c 0), (.c 0), (.c 0), (.c 0), (.c 8)]) (.br (te Q0 (.c 9)) (.leaf [(.c 0), (.c 0), (.c 0), (.c 0), (.c 0), (.c 0), (.c 0), (.c 0), (.c 0), (.c 0), (.c 9)]) (.br (te Q0 (.c 10)) (.leaf [(.c 0), (.c 0), (.c 0), (.c 0), (.c 0), (.c 0), (.c 0), (.c 0), (.c 0), (.c 0), (.c 10)]) (.br (te Q0 (.c 11)) (.leaf [(.c 0), (.c 0), (.c 0), (.c 0), (.c 0), (.c 0), (.c 0), (.c 0), (.c 0), (.c 0), (.c 11)]) (.br (te Q0 (.c 12)) (.leaf [(.c 0), (.c 0), (.c 0), (.c 0), (.c 0), (.c 0), (.c 0), (.c 0), (.c
 0), (.c 0), (.c 12)]) (.br (te Q0 (.c 13)) (.leaf [(.c 0), (.c 0), (.c 0), (.c 0), (.c 0), (.c 0), (.c 0), (.c 0), (.c 0), (.c 0), (.c 13)]) (.br (te Q0 (.c 14)) (.leaf [(.c 0), (.c 0), (.c 0), (.c 0), (.c 0), (.c 0), (.c 0), (.c 0), (.c 0), (.c 0), (.c 14)]) (.br (te Q0 (.c 15)) (.leaf [(.c 0), (.c 0), (.c 0), (.c 0), (.c 0), (.c 0), (.c 0), (.c 0), (.c 0), (.c 0), (.c 15)]) (.bad 36))))))))))))))))) (.br (tl (.c 0) Q2) (.br (.nt (tl (.c 4) Q2)) (.leaf [(.c 0), (.c 0), (.c 0), (.c 0), (.c 0), (.c 0), (.c 0), (.c 0), (.c 0), (.c 0), (.c 4)]) (.br (.nt (.f 20 (tC (.c 4) (tC (.v 1) (.c 0))) (tC (.c 4) (tC (tC (.c 65) (tC (.c 83) (tC (.c 84) (tC (.c 49) (.c 0))))) (.c 0))) (.c 0))) (.leaf [(.c 0), (.c 0), (.c 0), (.c 0), (.c 0), (.c 0), (.c 0), (.c 0), (.c 0), (.c 0), (.c 3)]) (.br (tl (.c
 0) Q3) (.br (.nt (tl (.c 2) Q3)) (.leaf [(.c 0), (.c 0), (.c 0), (.c 0), (.c 0), (.c 0), (.c 0), (.c 0), (.c 0), (.c 0), (.c 4)]) (.br (tl (tp (.c 4) Q3) Q2) (.br (tk (.c 4) Q2) (.br (tk Q4 Q2) (.br (tl (.c 0) Q5) (.loop ⟨1001, [some (0, 4611686018427387904), some (0, 1000000), some (0, 1000000), some (0, 1000000), none, some (0, 1000000)], [(.c 0), (tp (.c 4) (.c 2)), Q5, (.c 4), (.c 0), (.c 0)], 1008⟩ (.br (tk Q6 (.b .or .i64 (.b .shl .i64 (.b .or .i64 (.c 0) (.w .u8 (tR (.v 1) (.c 4)))) (.c 8)) (.w .u8 (tR (.v 1) Q4)))) (.br (.nt (tl (.c 4) Q7)) (.exit 0) (.br Q10 (.br Q11 (.br Q13 (.br (tk Q14 Q2) (.br (tk Q15 Q2) (.br Q18 (.br (tl Q19 (.c 4611686018427387904)) (.br (tl Q20 (.c 1000000)) (.br (tl (.c 0) Q21) (.br Q18 (.back [Q19, Q20, Q21, Q8, (.f 14 (.v 1005) Q16 (.w .u32 (.b .or
 .i64 (.b .shl .i64 (.b .or .i64 (.b .shl .i64 Q28 (.c 8)) (.w .u8 (tR (.v 1) Q14))) (.c 8)) (.w .u8 (tR (.v 1) Q15))))), Q17]) (.bad 303)) (.bad 303)) (.bad 303)) (.bad 303)) (.bad 200)) (.bad 200)) (.bad 200)) (.bad 200)) (.bad 200)) (.bad 200))) (.exit 1)) (.br (te (.v 1008) (.c 0)) (.leaf [(.c 0), (.c 0), (.c 0), (.c 0), (.c 0), (.c 0), (.c 0), (.c 0), (.c 0), (.c 0), (.c 4)]) (.br (.nt (tl (.c 2) Q7)) (.leaf [(.c 0), (.c 0), (.c 0), (.c 0), (.c 0), (.c 0), (.c 0), (.c 0), (.c 0), (.c 0), (.c 4)]) (.br Q10 (.br Q11 (.br Q13 (.br (tl Q14 (.c 1000000)) (.br (tl (.c 0) Q29) (.loop ⟨1010, [some (0, 4611686018427387904), some (0, 1000000), some (0, 1000000), some (0, 1000000), none, some (0, 1000000), none, some (0, 1000000)], [(.c 0), Q14, Q29, Q8, (.c 0), (.c 0), (.c 0), (.c 0)], 1019⟩
 (.br (tk Q30 Q28) (.br (.nt (tl (.c 4) Q31)) (.exit 0) (.br Q34 (.br Q35 (.br (tk Q36 Q2) (.br (tk Q37 Q2) (.br (tk Q38 Q2) (.br Q41 (.br (tl (.c 0) Q42) (.br (.nt (tl (.c 1) Q42)) (.exit 1) (.br (tl (tp Q43 Q42) Q2) (.br (tk Q43 Q2) (.br (.nt (tl Q46 (.c 1))) (.exit 2) (.br Q49 (.br (tl Q50 (.c 4611686018427387904)) (.br (tl Q51 (.c 1000000)) (.br (tl (.c 0) Q52) (.br (tl Q43 (.c 1000000)) (.br Q41 (.br Q49 (.back [Q50, Q51, Q52, Q43, (.f 14 (.v 1014) Q39 (t3 (.b .or .i64 (.b .shl .i64 (.b .or .i64 (.b .shl .i64 (.b .or .i64 (.b .shl .i64 Q55 (.c 8)) (.w .u8 (tR (.v 1) Q36))) (.c 8)) (.w .u8 (tR (.v 1) Q37))) (.c 8)) (.w .u8 (tR (.v 1) Q38))))), Q40, (.f 14 (.v 1016) Q47 (te Q46 (.c 1))), Q48]) (.bad 303)) (.bad 303)) (.bad 303)) (.bad 303)) (.bad 303)) (.bad 303)) (.bad 200))) (.bad
 200)) (.bad 200))) (.bad 200)) (.bad 200)) (.bad 200)) (.bad 200)) (.bad 200)) (.bad 200)) (.bad 200))) (.exit 3)) (.br (te (.v 1019) (.c 0)) (.leaf [(.c 0), (.c 0), (.c 0), (.c 0), (.c 0), (.c 0), (.c 0), (.c 0), (.c 0), (.c 0), (.c 4)]) (.br (te (.v 1019) (.c 1)) (.leaf [(.c 0), (.c 0), (.c 0), (.c 0), (.c 0), (.c 0), (.c 0), (.c 0), (.c 0), (.c 0), (.c 4)]) (.br (te (.v 1019) (.c 2)) (.leaf [(.c 0), (.c 0), (.c 0), (.c 0), (.c 0), (.c 0), (.c 0), (.c 0), (.c 0), (.c 0), (.c 3)]) (.br (.nt (tl (.c 1) Q31)) (.leaf [(.c 0), (.c 0), (.c 0), (.c 0), (.c 0), (.c 0), (.c 0), (.c 0), (.c 0), (.c 0), (.c 4)]) (.br Q34 (.br Q35 (.br (tl Q36 (.c 1000000)) (.br (tl (.c 0) Q56) (.loop ⟨1021, [none, some (0, 1000000), some (0, 4611686018427387904), some (0, 1000000), some (0, 1000000), some (0,
 1000000)], [(.c 0), (.c 0), (.c 0), Q36, Q56, Q32], 1028⟩ (.br (tk Q57 Q55) (.br (.nt (tl (.c 2) Q58)) (.exit 0) (.br Q61 (.br Q62 (.br (tk Q63 Q2) (.br Q66 (.br Q66 (.br (tl Q67 (.c 4611686018427387904)) (.br (tl Q68 (.c 1000000)) (.br (tl (.c 0) Q69) (.back [(.f 14 (.v 1021) Q64 (.b .or .i64 (.b .shl .i64 Q72 (.c 8)) (.w .u8 (tR (.v 1) Q63)))), Q65, Q67, Q68, Q69, Q59]) (.bad 303)) (.bad 303)) (.bad 303)) (.bad 303)) (.bad 200)) (.bad 200)) (.bad 200)) (.bad 200))) (.exit 1)) (.br (te (.v 1028) (.c 0)) (.leaf [(.c 0), (.c 0), (.c 0), (.c 0), (.c 0), (.c 0), (.c 0), (.c 0), (.c 0), (.c 0), (.c 4)]) (.br (.nt (tl (.c 1) Q58)) (.leaf [(.c 0), (.c 0), (.c 0), (.c 0), (.c 0), (.c 0), (.c 0), (.c 0), (.c 0), (.c 0), (.c 4)]) (.br Q61 (.br Q62 (.br (tl Q63 (.c 1000000)) (.br (tl (.c 0) Q73)
 (.loop ⟨1030, [none, some (0, 1000000), some (0, 4611686018427387904), some (0, 1000000), some (0, 1000000), some (0, 1000000)], [(.c 0), (.c 0), (.c 0), Q63, Q73, Q59], 1037⟩ (.br (tk Q74 Q72) (.br (.nt (tl (.c 2) Q75)) (.exit 0) (.br (tl (tp Q76 Q75) Q2) (.br (tk Q76 Q2) (.br (tk Q77 Q2) (.br Q80 (.br Q80 (.br (tl Q81 (.c 4611686018427387904)) (.br (tl Q82 (.c 1000000)) (.br (tl (.c 0) Q83) (.back [(.f 14 (.v 1030) Q78 (.b .or .i64 (.b .shl .i64 (.b .or .i64 (.c 0) (.w .u8 (tR (.v 1) Q76))) (.c 8)) (.w .u8 (tR (.v 1) Q77)))), Q79, Q81, Q82, Q83, Q76]) (.bad 303)) (.bad 303)) (.bad 303)) (.bad 303)) (.bad 200)) (.bad 200)) (.bad 200)) (.bad 200))) (.exit 1)) (.br (te (.v 1037) (.c 0)) (.leaf [(.c 0), (.c 0), (.c 0), (.c 0), (.c 0), (.c 0), (.c 0), (.c 0), (.c 0), (.c 0), (.c 4)]) (.br
 (tn Q75 (.c 0)) (.leaf [(.c 0), (.c 0), (.c 0), (.c 0), (.c 0), (.c 0), (.c 0), (.c 0), (.c 0), (.c 0), (.c 5)]) (.new 1039 (.f 84 Q16 Q39 (tC Q47 (tC Q64 (tC Q78 (tC (.v 1021) (tC (.v 1030) (.c 0))))))) (.br (tn (.cl 1039 0 9) (.c 0)) (.br (te (.cl 1039 0 9) (.c 0)) (.leaf [(.c 0), (.c 0), (.c 0), (.c 0), (.c 0), (.c 0), (.c 0), (.c 0), (.c 0), (.c 0), (.c 0)]) (.br (te (.cl 1039 0 9) (.c 1)) (.leaf [(.c 0), (.c 0), (.c 0), (.c 0), (.c 0), (.c 0), (.c 0), (.c 0), (.c 0), (.c 0), (.c 1)]) (.br (te (.cl 1039 0 9) (.c 2)) (.leaf [(.c 0), (.c 0), (.c 0), (.c 0), (.c 0), (.c 0), (.c 0), (.c 0), (.c 0), (.c 0), (.c 2)]) (.br (te (.cl 1039 0 9) (.c 3)) (.leaf [(.c 0), (.c 0), (.c 0), (.c 0), (.c 0), (.c 0), (.c 0), (.c 0), (.c 0), (.c 0), (.c 3)]) (.br (te (.cl 1039 0 9) (.c 4)) (.leaf [(.c
 0), (.c 0), (.c 0), (.c 0), (.c 0), (.c 0), (.c 0), (.c 0), (.c 0), (.c 0), (.c 4)]) (.br (te (.cl 1039 0 9) (.c 5)) (.leaf [(.c 0), (.c 0), (.c 0), (.c 0), (.c 0), (.c 0), (.c 0), (.c 0), (.c 0), (.c 0), (.c 5)]) (.br (te (.cl 1039 0 9) (.c 6)) (.leaf [(.c 0), (.c 0), (.c 0), (.c 0), (.c 0), (.c 0), (.c 0), (.c 0), (.c 0), (.c 0), (.c 6)]) (.br (te (.cl 1039 0 9) (.c 7)) (.leaf [(.c 0), (.c 0), (.c 0), (.c 0), (.c 0), (.c 0), (.c 0), (.c 0), (.c 0), (.c 0), (.c 7)]) (.br (te (.cl 1039 0 9) (.c 8)) (.leaf [(.c 0), (.c 0), (.c 0), (.c 0), (.c 0), (.c 0), (.c 0), (.c 0), (.c 0), (.c 0), (.c 8)]) (.br (te (.cl 1039 0 9) (.c 9)) (.leaf [(.c 0), (.c 0), (.c 0), (.c 0), (.c 0), (.c 0), (.c 0), (.c 0), (.c 0), (.c 0), (.c 9)]) (.br (te (.cl 1039 0 9) (.c 10)) (.leaf [(.c 0), (.c 0), (.c 0), (.c
 0), (.c 0), (.c 0), (.c 0), (.c 0), (.c 0), (.c 0), (.c 10)]) (.br (te (.cl 1039 0 9) (.c 11)) (.leaf [(.c 0), (.c 0), (.c 0), (.c 0), (.c 0), (.c 0), (.c 0), (.c 0), (.c 0), (.c 0), (.c 11)]) (.br (te (.cl 1039 0 9) (.c 12)) (.leaf [(.c 0), (.c 0), (.c 0), (.c 0), (.c 0), (.c 0), (.c 0), (.c 0), (.c 0), (.c 0), (.c 12)]) (.br (te (.cl 1039 0 9) (.c 13)) (.leaf [(.c 0), (.c 0), (.c 0), (.c 0), (.c 0), (.c 0), (.c 0), (.c 0), (.c 0), (.c 0), (.c 13)]) (.br (te (.cl 1039 0 9) (.c 14)) (.leaf [(.c 0), (.c 0), (.c 0), (.c 0), (.c 0), (.c 0), (.c 0), (.c 0), (.c 0), (.c 0), (.c 14)]) (.br (te (.cl 1039 0 9) (.c 15)) (.leaf [(.c 0), (.c 0), (.c 0), (.c 0), (.c 0), (.c 0), (.c 0), (.c 0), (.c 0), (.c 0), (.c 15)]) (.bad 36))))))))))))))))) (.leaf [Q16, (.v 1005), Q39, (.v 1014), Q47, (.v 1016),
 Q64, (.v 1021), Q78, (.v 1030), (.c 0)])))))) (.bad 305)) (.bad 305)) (.bad 200)) (.bad 200))))) (.bad 305)) (.bad 305)) (.bad 200)) (.bad 200))))))) (.bad 305)) (.bad 305)) (.bad 200)) (.bad 200)) (.bad 200))))) (.bad 305)) (.bad 200)) (.bad 200)) (.bad 200))) (.bad 200)))) (.bad 200)))) (.bad 200))
noncomputable def sq0 (y30 y31 b y33 : Int) : Int := (updZ y30 y31 (bor .i64 (shlZ .i64 (bor .i64 0 (IntKind.wrap .u8 (rdZ b y33))) 8) (IntKind.wrap .u8 (rdZ b (y33 + 1)))))
noncomputable def sq1 (y6 y15 y17 y22 y31 y21 y30 : Int) : Int := (chkZ y6 y15 (kZ y17 (kZ y22 (kZ y31 (kZ y21 (kZ y30 0))))))
noncomputable def sq2 (y21 y22 b y24 : Int) : Int := (updZ y21 y22 (bor .i64 (shlZ .i64 (bor .i64 0 (IntKind.wrap .u8 (rdZ b y24))) 8) (IntKind.wrap .u8 (rdZ b (y24 + 1)))))
noncomputable def sq3 (y32 b y24 : Int) : Int := (Pl y32 (bor .i64 0 (IntKind.wrap .u8 (rdZ b y24))))
def sL0 (b a z0 z2 z4 z5 z7 z9 z10 z12 z14 z15 z17 z19 z20 z22 z24 z25 : Int) : Prop := (z0 : Int) = (gtN b a 0) ∧ qZi [.int .u32] z2 (gtC b 0) z4 ∧ (z5 : Int) = (gtN b a 1) ∧ qZi [.int .i32] z7 (gtC b 1) z9 ∧ (z10 : Int) = (gtN b a 2) ∧ qZi [.bool] z12 (gtC b 2) z14 ∧ (z15 : Int) = (gtN b a 3) ∧ qZi [.int .i64] z17 (gtC b 3) z19 ∧ (z20 : Int) = (gtN b a 4) ∧ qZi [.int .i64] z22 (gtC b 4) z24 ∧ (z25 : Int) = (gtE b a) ∧ True
def sq4 (y12 b a y11 y0 y6 y15 y17 y5 y14 y16 : Int) : Prop := (Pb (Pe (PL 1 y12) 0) (sL0 b a 0 0 0 0 0 0 0 0 0 0 0 0 0 0 0 4) (Pm (PL (y11 + y12) y0) (Pm (Pl y11 y0) (Pm (PL (y11 + 1) 1000000) (Pm (PL 0 (y12 - 1)) (∃ I1021 : Int → Int → Int → Int → Int → Int → Nat → Prop, (∃ m, I1021 0 0 0 (y11 + 1) (y12 - 1) y11 m) ∧ ∀ y21 y22 y23 y24 y25 y26 : Int, ∀ m21, (True ∧ (0 ≤ y22 ∧ y22 ≤ 1000000) ∧ (0 ≤ y23 ∧ y23 ≤ 4611686018427387904) ∧ (0 ≤ y24 ∧ y24 ≤ 1000000) ∧ (0 ≤ y25 ∧ y25 ≤ 1000000) ∧ (0 ≤ y26 ∧ y26 ≤ 1000000) ∧ True) → I1021 y21 y22 y23 y24 y25 y26 m21 → (Pb (Pl y23 (bor .i64 0 (IntKind.wrap .u8 (rdZ b y11)))) (Pb (Pe (PL 2 y25) 0) (Pb (Pe (0 : Int) 0) (sL0 b a 0 0 0 0 0 0 0 0 0 0 0 0 0 0 0 4) (Pb (Pe (PL 1 y25) 0) (sL0 b a 0 0 0 0 0 0 0 0 0 0 0 0 0 0 0 4) (Pm (PL (y24 + y25) y0) (Pm
 (Pl y24 y0) (Pm (PL (y24 + 1) 1000000) (Pm (PL 0 (y25 - 1)) (∃ I1030 : Int → Int → Int → Int → Int → Int → Nat → Prop, (∃ m, I1030 0 0 0 (y24 + 1) (y25 - 1) y24 m) ∧ ∀ y30 y31 y32 y33 y34 y35 : Int, ∀ m30, (True ∧ (0 ≤ y31 ∧ y31 ≤ 1000000) ∧ (0 ≤ y32 ∧ y32 ≤ 4611686018427387904) ∧ (0 ≤ y33 ∧ y33 ≤ 1000000) ∧ (0 ≤ y34 ∧ y34 ≤ 1000000) ∧ (0 ≤ y35 ∧ y35 ≤ 1000000) ∧ True) → I1030 y30 y31 y32 y33 y34 y35 m30 → (Pb (sq3 y32 b y24) (Pb (Pe (PL 2 y34) 0) (Pb (Pe (0 : Int) 0) (sL0 b a 0 0 0 0 0 0 0 0 0 0 0 0 0 0 0 4) (Pb (Pd y34 0) (sL0 b a 0 0 0 0 0 0 0 0 0 0 0 0 0 0 0 5) (Pn (sq1 y6 y15 y17 y22 y31 y21 y30) 0 9 fun y39 => (Pb (Pd y39 0) (Pb (Pe y39 0) (sL0 b a 0 0 0 0 0 0 0 0 0 0 0 0 0 0 0 0) (Pb (Pe y39 1) (sL0 b a 0 0 0 0 0 0 0 0 0 0 0 0 0 0 0 1) (Pb (Pe y39 2) (sL0 b a 0 0 0 0 0 0 0 0 0 0 0
 0 0 0 0 2) (Pb (Pe y39 3) (sL0 b a 0 0 0 0 0 0 0 0 0 0 0 0 0 0 0 3) (Pb (Pe y39 4) (sL0 b a 0 0 0 0 0 0 0 0 0 0 0 0 0 0 0 4) (Pb (Pe y39 5) (sL0 b a 0 0 0 0 0 0 0 0 0 0 0 0 0 0 0 5) (Pb (Pe y39 6) (sL0 b a 0 0 0 0 0 0 0 0 0 0 0 0 0 0 0 6) (Pb (Pe y39 7) (sL0 b a 0 0 0 0 0 0 0 0 0 0 0 0 0 0 0 7) (Pb (Pe y39 8) (sL0 b a 0 0 0 0 0 0 0 0 0 0 0 0 0 0 0 8) (Pb (Pe y39 9) (sL0 b a 0 0 0 0 0 0 0 0 0 0 0 0 0 0 0 9) (Pb (Pe y39 10) (sL0 b a 0 0 0 0 0 0 0 0 0 0 0 0 0 0 0 10) (Pb (Pe y39 11) (sL0 b a 0 0 0 0 0 0 0 0 0 0 0 0 0 0 0 11) (Pb (Pe y39 12) (sL0 b a 0 0 0 0 0 0 0 0 0 0 0 0 0 0 0 12) (Pb (Pe y39 13) (sL0 b a 0 0 0 0 0 0 0 0 0 0 0 0 0 0 0 13) (Pb (Pe y39 14) (sL0 b a 0 0 0 0 0 0 0 0 0 0 0 0 0 0 0 14) (Pm (Pe y39 15) (sL0 b a 0 0 0 0 0 0 0 0 0 0 0 0 0 0 0 15))))))))))))))))) (sL0 b a y6 y5 y6
 y15 y14 y15 y17 y16 y17 y22 y21 y22 y31 y30 y31 0))))) (Pm (PL (y33 + y34) y0) (Pm (Pl y33 y0) (Pm (Pl (y33 + 1) y0) (Pm (PL (y31 + 1) 1000000) (Pm (PL (y31 + 1) 1000000) (Pm (PL (y32 + 1) 4611686018427387904) (Pm (PL (y33 + 2) 1000000) (Pm (PL 0 (y34 - 2)) (∃ m', m' < m30 ∧ I1030 (sq0 y30 y31 b y33) (y31 + 1) (y32 + 1) (y33 + 2) (y34 - 2) y33 m')))))))))) (Pb (Pe (1 : Int) 0) (sL0 b a 0 0 0 0 0 0 0 0 0 0 0 0 0 0 0 4) (Pb (Pd y34 0) (sL0 b a 0 0 0 0 0 0 0 0 0 0 0 0 0 0 0 5) (Pn (sq1 y6 y15 y17 y22 y31 y21 y30) 0 9 fun y39 => (Pb (Pd y39 0) (Pb (Pe y39 0) (sL0 b a 0 0 0 0 0 0 0 0 0 0 0 0 0 0 0 0) (Pb (Pe y39 1) (sL0 b a 0 0 0 0 0 0 0 0 0 0 0 0 0 0 0 1) (Pb (Pe y39 2) (sL0 b a 0 0 0 0 0 0 0 0 0 0 0 0 0 0 0 2) (Pb (Pe y39 3) (sL0 b a 0 0 0 0 0 0 0 0 0 0 0 0 0 0 0 3) (Pb (Pe y39 4) (sL0 b a
 0 0 0 0 0 0 0 0 0 0 0 0 0 0 0 4) (Pb (Pe y39 5) (sL0 b a 0 0 0 0 0 0 0 0 0 0 0 0 0 0 0 5) (Pb (Pe y39 6) (sL0 b a 0 0 0 0 0 0 0 0 0 0 0 0 0 0 0 6) (Pb (Pe y39 7) (sL0 b a 0 0 0 0 0 0 0 0 0 0 0 0 0 0 0 7) (Pb (Pe y39 8) (sL0 b a 0 0 0 0 0 0 0 0 0 0 0 0 0 0 0 8) (Pb (Pe y39 9) (sL0 b a 0 0 0 0 0 0 0 0 0 0 0 0 0 0 0 9) (Pb (Pe y39 10) (sL0 b a 0 0 0 0 0 0 0 0 0 0 0 0 0 0 0 10) (Pb (Pe y39 11) (sL0 b a 0 0 0 0 0 0 0 0 0 0 0 0 0 0 0 11) (Pb (Pe y39 12) (sL0 b a 0 0 0 0 0 0 0 0 0 0 0 0 0 0 0 12) (Pb (Pe y39 13) (sL0 b a 0 0 0 0 0 0 0 0 0 0 0 0 0 0 0 13) (Pb (Pe y39 14) (sL0 b a 0 0 0 0 0 0 0 0 0 0 0 0 0 0 0 14) (Pm (Pe y39 15) (sL0 b a 0 0 0 0 0 0 0 0 0 0 0 0 0 0 0 15))))))))))))))))) (sL0 b a y6 y5 y6 y15 y14 y15 y17 y16 y17 y22 y21 y22 y31 y30 y31 0))))))))))))) (Pm (PL (y24 + y25) y0) (Pm
 (Pl y24 y0) (Pm (Pl (y24 + 1) y0) (Pm (PL (y22 + 1) 1000000) (Pm (PL (y22 + 1) 1000000) (Pm (PL (y23 + 1) 4611686018427387904) (Pm (PL (y24 + 2) 1000000) (Pm (PL 0 (y25 - 2)) (∃ m', m' < m21 ∧ I1021 (sq2 y21 y22 b y24) (y22 + 1) (y23 + 1) (y24 + 2) (y25 - 2) y24 m')))))))))) (Pb (Pe (1 : Int) 0) (sL0 b a 0 0 0 0 0 0 0 0 0 0 0 0 0 0 0 4) (Pb (Pe (PL 1 y25) 0) (sL0 b a 0 0 0 0 0 0 0 0 0 0 0 0 0 0 0 4) (Pm (PL (y24 + y25) y0) (Pm (Pl y24 y0) (Pm (PL (y24 + 1) 1000000) (Pm (PL 0 (y25 - 1)) (∃ I1030 : Int → Int → Int → Int → Int → Int → Nat → Prop, (∃ m, I1030 0 0 0 (y24 + 1) (y25 - 1) y24 m) ∧ ∀ y30 y31 y32 y33 y34 y35 : Int, ∀ m30, (True ∧ (0 ≤ y31 ∧ y31 ≤ 1000000) ∧ (0 ≤ y32 ∧ y32 ≤ 4611686018427387904) ∧ (0 ≤ y33 ∧ y33 ≤ 1000000) ∧ (0 ≤ y34 ∧ y34 ≤ 1000000) ∧ (0 ≤ y35 ∧ y35 ≤ 1000000) ∧
 True) → I1030 y30 y31 y32 y33 y34 y35 m30 → (Pb (sq3 y32 b y24) (Pb (Pe (PL 2 y34) 0) (Pb (Pe (0 : Int) 0) (sL0 b a 0 0 0 0 0 0 0 0 0 0 0 0 0 0 0 4) (Pb (Pd y34 0) (sL0 b a 0 0 0 0 0 0 0 0 0 0 0 0 0 0 0 5) (Pn (sq1 y6 y15 y17 y22 y31 y21 y30) 0 9 fun y39 => (Pb (Pd y39 0) (Pb (Pe y39 0) (sL0 b a 0 0 0 0 0 0 0 0 0 0 0 0 0 0 0 0) (Pb (Pe y39 1) (sL0 b a 0 0 0 0 0 0 0 0 0 0 0 0 0 0 0 1) (Pb (Pe y39 2) (sL0 b a 0 0 0 0 0 0 0 0 0 0 0 0 0 0 0 2) (Pb (Pe y39 3) (sL0 b a 0 0 0 0 0 0 0 0 0 0 0 0 0 0 0 3) (Pb (Pe y39 4) (sL0 b a 0 0 0 0 0 0 0 0 0 0 0 0 0 0 0 4) (Pb (Pe y39 5) (sL0 b a 0 0 0 0 0 0 0 0 0 0 0 0 0 0 0 5) (Pb (Pe y39 6) (sL0 b a 0 0 0 0 0 0 0 0 0 0 0 0 0 0 0 6) (Pb (Pe y39 7) (sL0 b a 0 0 0 0 0 0 0 0 0 0 0 0 0 0 0 7) (Pb (Pe y39 8) (sL0 b a 0 0 0 0 0 0 0 0 0 0 0 0 0 0 0 8) (Pb (Pe y39
 9) (sL0 b a 0 0 0 0 0 0 0 0 0 0 0 0 0 0 0 9) (Pb (Pe y39 10) (sL0 b a 0 0 0 0 0 0 0 0 0 0 0 0 0 0 0 10) (Pb (Pe y39 11) (sL0 b a 0 0 0 0 0 0 0 0 0 0 0 0 0 0 0 11) (Pb (Pe y39 12) (sL0 b a 0 0 0 0 0 0 0 0 0 0 0 0 0 0 0 12) (Pb (Pe y39 13) (sL0 b a 0 0 0 0 0 0 0 0 0 0 0 0 0 0 0 13) (Pb (Pe y39 14) (sL0 b a 0 0 0 0 0 0 0 0 0 0 0 0 0 0 0 14) (Pm (Pe y39 15) (sL0 b a 0 0 0 0 0 0 0 0 0 0 0 0 0 0 0 15))))))))))))))))) (sL0 b a y6 y5 y6 y15 y14 y15 y17 y16 y17 y22 y21 y22 y31 y30 y31 0))))) (Pm (PL (y33 + y34) y0) (Pm (Pl y33 y0) (Pm (Pl (y33 + 1) y0) (Pm (PL (y31 + 1) 1000000) (Pm (PL (y31 + 1) 1000000) (Pm (PL (y32 + 1) 4611686018427387904) (Pm (PL (y33 + 2) 1000000) (Pm (PL 0 (y34 - 2)) (∃ m', m' < m30 ∧ I1030 (sq0 y30 y31 b y33) (y31 + 1) (y32 + 1) (y33 + 2) (y34 - 2) y33 m')))))))))) (Pb
 (Pe (1 : Int) 0) (sL0 b a 0 0 0 0 0 0 0 0 0 0 0 0 0 0 0 4) (Pb (Pd y34 0) (sL0 b a 0 0 0 0 0 0 0 0 0 0 0 0 0 0 0 5) (Pn (sq1 y6 y15 y17 y22 y31 y21 y30) 0 9 fun y39 => (Pb (Pd y39 0) (Pb (Pe y39 0) (sL0 b a 0 0 0 0 0 0 0 0 0 0 0 0 0 0 0 0) (Pb (Pe y39 1) (sL0 b a 0 0 0 0 0 0 0 0 0 0 0 0 0 0 0 1) (Pb (Pe y39 2) (sL0 b a 0 0 0 0 0 0 0 0 0 0 0 0 0 0 0 2) (Pb (Pe y39 3) (sL0 b a 0 0 0 0 0 0 0 0 0 0 0 0 0 0 0 3) (Pb (Pe y39 4) (sL0 b a 0 0 0 0 0 0 0 0 0 0 0 0 0 0 0 4) (Pb (Pe y39 5) (sL0 b a 0 0 0 0 0 0 0 0 0 0 0 0 0 0 0 5) (Pb (Pe y39 6) (sL0 b a 0 0 0 0 0 0 0 0 0 0 0 0 0 0 0 6) (Pb (Pe y39 7) (sL0 b a 0 0 0 0 0 0 0 0 0 0 0 0 0 0 0 7) (Pb (Pe y39 8) (sL0 b a 0 0 0 0 0 0 0 0 0 0 0 0 0 0 0 8) (Pb (Pe y39 9) (sL0 b a 0 0 0 0 0 0 0 0 0 0 0 0 0 0 0 9) (Pb (Pe y39 10) (sL0 b a 0 0 0 0 0 0 0 0 0 0
 0 0 0 0 0 10) (Pb (Pe y39 11) (sL0 b a 0 0 0 0 0 0 0 0 0 0 0 0 0 0 0 11) (Pb (Pe y39 12) (sL0 b a 0 0 0 0 0 0 0 0 0 0 0 0 0 0 0 12) (Pb (Pe y39 13) (sL0 b a 0 0 0 0 0 0 0 0 0 0 0 0 0 0 0 13) (Pb (Pe y39 14) (sL0 b a 0 0 0 0 0 0 0 0 0 0 0 0 0 0 0 14) (Pm (Pe y39 15) (sL0 b a 0 0 0 0 0 0 0 0 0 0 0 0 0 0 0 15))))))))))))))))) (sL0 b a y6 y5 y6 y15 y14 y15 y17 y16 y17 y22 y21 y22 y31 y30 y31 0))))))))))))))))))))
def sq5 (y3 b a y2 y0 y6 y5 : Int) : Prop := (Pb (Pe (PL 2 y3) 0) (sL0 b a 0 0 0 0 0 0 0 0 0 0 0 0 0 0 0 4) (Pm (PL (y2 + y3) y0) (Pm (Pl y2 y0) (Pm (Pl (y2 + 1) y0) (Pm (PL (y2 + 2) 1000000) (Pm (PL 0 (y3 - 2)) (∃ I1010 : Int → Int → Int → Int → Int → Int → Int → Int → Nat → Prop, (∃ m, I1010 0 (y2 + 2) (y3 - 2) y2 0 0 0 0 m) ∧ ∀ y10 y11 y12 y13 y14 y15 y16 y17 : Int, ∀ m10, ((0 ≤ y10 ∧ y10 ≤ 4611686018427387904) ∧ (0 ≤ y11 ∧ y11 ≤ 1000000) ∧ (0 ≤ y12 ∧ y12 ≤ 1000000) ∧ (0 ≤ y13 ∧ y13 ≤ 1000000) ∧ True ∧ (0 ≤ y15 ∧ y15 ≤ 1000000) ∧ True ∧ (0 ≤ y17 ∧ y17 ≤ 1000000) ∧ True) → I1010 y10 y11 y12 y13 y14 y15 y16 y17 m10 → (Pb (Pl y10 (bor .i64 (shlZ .i64 (bor .i64 0 (IntKind.wrap .u8 (rdZ b y2))) 8) (IntKind.wrap .u8 (rdZ b (y2 + 1))))) (Pb (Pe (PL 4 y12) 0) (Pb (Pe (0 : Int) 0) (sL0 b a 0 0
 0 0 0 0 0 0 0 0 0 0 0 0 0 4) (Pb (Pe (0 : Int) 1) (sL0 b a 0 0 0 0 0 0 0 0 0 0 0 0 0 0 0 4) (Pb (Pe (0 : Int) 2) (sL0 b a 0 0 0 0 0 0 0 0 0 0 0 0 0 0 0 3) (sq4 y12 b a y11 y0 y6 y15 y17 y5 y14 y16)))) (Pm (PL (y11 + y12) y0) (Pm (Pl y11 y0) (Pm (Pl (y11 + 1) y0) (Pm (Pl (y11 + 2) y0) (Pm (Pl (y11 + 3) y0) (Pm (PL (y15 + 1) 1000000) (Pm (PL 0 (y12 - 4)) (Pb (Pe (PL 1 (y12 - 4)) 0) (Pb (Pe (1 : Int) 0) (sL0 b a 0 0 0 0 0 0 0 0 0 0 0 0 0 0 0 4) (Pb (Pe (1 : Int) 1) (sL0 b a 0 0 0 0 0 0 0 0 0 0 0 0 0 0 0 4) (Pb (Pe (1 : Int) 2) (sL0 b a 0 0 0 0 0 0 0 0 0 0 0 0 0 0 0 3) (sq4 y12 b a y11 y0 y6 y15 y17 y5 y14 y16)))) (Pm (PL ((y11 + 4) + (y12 - 4)) y0) (Pm (Pl (y11 + 4) y0) (Pb (Pe (PL (bor .i64 0 (IntKind.wrap .u8 (rdZ b (y11 + 4)))) 1) 0) (Pb (Pe (2 : Int) 0) (sL0 b a 0 0 0 0 0 0 0 0 0 0 0 0
 0 0 0 4) (Pb (Pe (2 : Int) 1) (sL0 b a 0 0 0 0 0 0 0 0 0 0 0 0 0 0 0 4) (Pb (Pe (2 : Int) 2) (sL0 b a 0 0 0 0 0 0 0 0 0 0 0 0 0 0 0 3) (sq4 y12 b a y11 y0 y6 y15 y17 y5 y14 y16)))) (Pm (PL (y17 + 1) 1000000) (Pm (PL (y10 + 1) 4611686018427387904) (Pm (PL ((y11 + 4) + 1) 1000000) (Pm (PL 0 ((y12 - 4) - 1)) (Pm (PL (y11 + 4) 1000000) (Pm (PL (y15 + 1) 1000000) (Pm (PL (y17 + 1) 1000000) (∃ m', m' < m10 ∧ I1010 (y10 + 1) ((y11 + 4) + 1) ((y12 - 4) - 1) (y11 + 4) (updZ y14 y15 (W3 (bor .i64 (shlZ .i64 (bor .i64 (shlZ .i64 (bor .i64 (shlZ .i64 (bor .i64 0 (IntKind.wrap .u8 (rdZ b y11))) 8) (IntKind.wrap .u8 (rdZ b (y11 + 1)))) 8) (IntKind.wrap .u8 (rdZ b (y11 + 2)))) 8) (IntKind.wrap .u8 (rdZ b (y11 + 3)))))) (y15 + 1) (updZ y16 y17 (Pe (bor .i64 0 (IntKind.wrap .u8 (rdZ b (y11 + 4)))) 1))
 (y17 + 1) m')))))))))))))))))))) (Pb (Pe (3 : Int) 0) (sL0 b a 0 0 0 0 0 0 0 0 0 0 0 0 0 0 0 4) (Pb (Pe (3 : Int) 1) (sL0 b a 0 0 0 0 0 0 0 0 0 0 0 0 0 0 0 4) (Pb (Pe (3 : Int) 2) (sL0 b a 0 0 0 0 0 0 0 0 0 0 0 0 0 0 0 3) (sq4 y12 b a y11 y0 y6 y15 y17 y5 y14 y16))))))))))))
def P (a b c : Int) : Prop :=
 (Pm (PL a c) (Pn (iteZ (Pe (opeZ b a) 0) (a - 2) 0) (-2) 899998 fun y0 => (Pb (Pd (opeZ b a) 0) (Pb (Pe (opeZ b a) 0) (sL0 b a 0 0 0 0 0 0 0 0 0 0 0 0 0 0 0 0) (Pb (Pe (opeZ b a) 1) (sL0 b a 0 0 0 0 0 0 0 0 0 0 0 0 0 0 0 1) (Pb (Pe (opeZ b a) 2) (sL0 b a 0 0 0 0 0 0 0 0 0 0 0 0 0 0 0 2) (Pb (Pe (opeZ b a) 3) (sL0 b a 0 0 0 0 0 0 0 0 0 0 0 0 0 0 0 3) (Pb (Pe (opeZ b a) 4) (sL0 b a 0 0 0 0 0 0 0 0 0 0 0 0 0 0 0 4) (Pb (Pe (opeZ b a) 5) (sL0 b a 0 0 0 0 0 0 0 0 0 0 0 0 0 0 0 5) (Pb (Pe (opeZ b a) 6) (sL0 b a 0 0 0 0 0 0 0 0 0 0 0 0 0 0 0 6) (Pb (Pe (opeZ b a) 7) (sL0 b a 0 0 0 0 0 0 0 0 0 0 0 0 0 0 0 7) (Pb (Pe (opeZ b a) 8) (sL0 b a 0 0 0 0 0 0 0 0 0 0 0 0 0 0 0 8) (Pb (Pe (opeZ b a) 9) (sL0 b a 0 0 0 0 0 0 0 0 0 0 0 0 0 0 0 9) (Pb (Pe (opeZ b a) 10) (sL0 b a 0 0 0 0 0 0 0 0 0 0 0 0 0 0 0
 10) (Pb (Pe (opeZ b a) 11) (sL0 b a 0 0 0 0 0 0 0 0 0 0 0 0 0 0 0 11) (Pb (Pe (opeZ b a) 12) (sL0 b a 0 0 0 0 0 0 0 0 0 0 0 0 0 0 0 12) (Pb (Pe (opeZ b a) 13) (sL0 b a 0 0 0 0 0 0 0 0 0 0 0 0 0 0 0 13) (Pb (Pe (opeZ b a) 14) (sL0 b a 0 0 0 0 0 0 0 0 0 0 0 0 0 0 0 14) (Pm (Pe (opeZ b a) 15) (sL0 b a 0 0 0 0 0 0 0 0 0 0 0 0 0 0 0 15))))))))))))))))) (Pm (PL 0 y0) (Pb (Pe (PL 4 y0) 0) (sL0 b a 0 0 0 0 0 0 0 0 0 0 0 0 0 0 0 4) (Pb (Pe (seqZ (kZ 4 (kZ b 0)) (kZ 4 (kZ (kZ 65 (kZ 83 (kZ 84 (kZ 49 0)))) 0))) 0) (sL0 b a 0 0 0 0 0 0 0 0 0 0 0 0 0 0 0 3) (Pm (PL 0 (y0 - 4)) (Pb (Pe (PL 2 (y0 - 4)) 0) (sL0 b a 0 0 0 0 0 0 0 0 0 0 0 0 0 0 0 4) (Pm (PL (4 + (y0 - 4)) y0) (Pm (Pl 4 y0) (Pm (Pl (4 + 1) y0) (Pm (PL 0 ((y0 - 4) - 2)) (∃ I1001 : Int → Int → Int → Int → Int → Int → Nat → Prop, (∃ m, I1001
 0 (4 + 2) ((y0 - 4) - 2) 4 0 0 m) ∧ ∀ y1 y2 y3 y4 y5 y6 : Int, ∀ m1, ((0 ≤ y1 ∧ y1 ≤ 4611686018427387904) ∧ (0 ≤ y2 ∧ y2 ≤ 1000000) ∧ (0 ≤ y3 ∧ y3 ≤ 1000000) ∧ (0 ≤ y4 ∧ y4 ≤ 1000000) ∧ True ∧ (0 ≤ y6 ∧ y6 ≤ 1000000) ∧ True) → I1001 y1 y2 y3 y4 y5 y6 m1 → (Pb (Pl y1 (bor .i64 (shlZ .i64 (bor .i64 0 (IntKind.wrap .u8 (rdZ b 4))) 8) (IntKind.wrap .u8 (rdZ b (4 + 1))))) (Pb (Pe (PL 4 y3) 0) (Pb (Pe (0 : Int) 0) (sL0 b a 0 0 0 0 0 0 0 0 0 0 0 0 0 0 0 4) (sq5 y3 b a y2 y0 y6 y5)) (Pm (PL (y2 + y3) y0) (Pm (Pl y2 y0) (Pm (Pl (y2 + 1) y0) (Pm (Pl (y2 + 2) y0) (Pm (Pl (y2 + 3) y0) (Pm (PL (y6 + 1) 1000000) (Pm (PL (y1 + 1) 4611686018427387904) (Pm (PL (y2 + 4) 1000000) (Pm (PL 0 (y3 - 4)) (Pm (PL (y6 + 1) 1000000) (∃ m', m' < m1 ∧ I1001 (y1 + 1) (y2 + 4) (y3 - 4) y2 (updZ y5 y6 (U3 (bor .i64
 (shlZ .i64 (bor .i64 (shlZ .i64 (bor .i64 (shlZ .i64 (bor .i64 0 (IntKind.wrap .u8 (rdZ b y2))) 8) (IntKind.wrap .u8 (rdZ b (y2 + 1)))) 8) (IntKind.wrap .u8 (rdZ b (y2 + 2)))) 8) (IntKind.wrap .u8 (rdZ b (y2 + 3)))))) (y6 + 1) m')))))))))))) (Pb (Pe (1 : Int) 0) (sL0 b a 0 0 0 0 0 0 0 0 0 0 0 0 0 0 0 4) (sq5 y3 b a y2 y0 y6 y5))))))))))))))))
theorem holds (n0 c0 r0 : Int) (l_n0 : 0 ≤ n0) (u_n0 : n0 ≤ 900000) (h_n0 : n0 ≤ r0) : P n0 c0 r0 := by
 delta P sq0 sq1 sq2 sq3 sq4 sq5 sL0 Pb Pm Pn PL Pl Pe Pd W3 U3 kZ
 simp only [nrm, nro, Int.reduceEq, Int.reduceNeg, reduceIte]
 simp only [bor0, borB, borC, borD]
 simp only [w4]
 simp only [w2]
 simp only [w1, mag_seq, Decidable.not_not, chk_ev]
 refine ⟨by omega, ?_⟩
 rintro L hL _
 refine ⟨fun h => ?_, fun h => ?_⟩
 ·have hb := opeZ_bd c0 n0
  exact enum16 (F := leafP c0 n0) hb.1 (by omega) (leafP_of (gtE_open h) h)
 rw [if_pos h] at hL
 have hn2 := ope_len h
 have hg : gtE c0 n0 = gtF c0 L := by rw [gtE_in h, hL]
 have hC := gnC_bd c0
 have hD := gnD_bd c0
 have hI := gnI_bd c0
 have hO := gnO_bd c0
 have pD := gpD_ev c0
 have pI := gpI_ev c0
 have pO := gpO_ev c0
 have pE := gpE_ev c0
 have lf : ∀ {e : Int}, gtF c0 L = e → ¬ e = 0 → leafP c0 n0 e := fun he h0 => leafP_of (hg.trans he) h0
 have f4 : gtF c0 L = 4 → leafP c0 n0 4 := fun he => lf he (by decide)
 have f3 : gtF c0 L = 3 → leafP c0 n0 3 := fun he => lf he (by decide)
 have f5 : gtF c0 L = 5 → leafP c0 n0 5 := fun he => lf he (by decide)
 have eC : beN c0 4 2 = gnC c0 := rfl
 rw [eC]
 refine ⟨by omega, fun g => f4 (g_s0 g), fun L4 => ⟨fun g => f3 (g_form L4 g), fun hm => ⟨by omega, fun g => f4 (g_s1 L4 hm (by omega)), fun g => ⟨by omega, by omega, by omega, by omega, ?_⟩⟩⟩⟩
 refine ⟨fun i o l p q n m => i ≤ gnC c0 ∧ o = 6 + 4 * i ∧ o + l = L ∧ n = i ∧ (∀ k : Nat, (k : Int) < i → IntKind.wrap .u32 (rdZ q k) = beN c0 (6 + 4 * k) 4) ∧ m = (gnC c0 - i).toNat, ⟨_, by omega, by omega, by omega, rfl, fun k hk => by omega, rfl⟩, ?_⟩
 rintro i o l p q0 n m hb ⟨h1, h2, h3, rfl, h5, rfl⟩
 refine ⟨fun g1 => ⟨fun g2 => f4 (g_s2 hm (by omega) (by omega)), fun g2 => ⟨by omega, by omega, by omega, by omega, by omega, by omega, by omega, by omega, by omega, by omega, _, ?_, by omega, by omega, by omega, rfl, fun k hk => ?_, rfl⟩⟩, fun g1 => ⟨fun g2 => f4 (g_s2 hm (by omega) (by omega)), fun g2 => ⟨by omega, by omega, by omega, by omega, by omega, ?_⟩⟩⟩
 ·omega
 ·rw [qQt]
  have hw : ∀ o, IntKind.wrap .u32 (beN c0 o 4) = beN c0 o 4 := fun o => by have := be4_bd c0 o; exact qZc .u32 _ this.1 this.2
  by_cases e : (k : Int) = n
  ·rw [if_pos (by omega), hw, hw, e, h2]
  ·rw [if_neg (by omega)]; exact h5 k (by omega)
 have en : n = gnC c0 := by omega
 subst en
 have eD : beN c0 o 2 = gnD c0 := by rw [h2, ← pD]; rfl
 rw [eD]
 clear hb
 refine ⟨fun i o l p q n q2 n2 m => i ≤ gnD c0 ∧ o = gpD c0 + 2 + 5 * i ∧ o + l = L ∧ n = i ∧ n2 = i ∧ (∀ k : Nat, (k : Int) < i → IntKind.wrap .i32 (rdZ q k) = IntKind.wrap .i32 (beN c0 (gpD c0 + 2 + 5 * k) 4)) ∧
  (∀ k : Nat, (k : Int) < i → (rdZ q2 k ≠ 0 ↔ byt c0 (gpD c0 + 2 + 5 * k + 4) = 1)) ∧ (∀ k : Nat, (k : Int) < i → ¬ badSec c0 L k) ∧ m = (gnD c0 - i).toNat, ⟨_, by omega, by omega, by omega, rfl, rfl, fun k hk => by omega, fun k hk => by omega, fun k hk => by omega, rfl⟩, ?_⟩
 rintro i o2 l2 p2 q1 n1 q2 n2 m hb ⟨d1, d2, d3, rfl, rfl, d5, d6, d7, rfl⟩
 -- behind the bytes nothing is bad
 have nobad : ∀ k : Nat, (k : Int) < gnD c0 → L < gpD c0 + 2 + 5 * (n2 + 1) → ¬ badSec c0 L k := fun k hk hl hbad => by
  rcases Int.lt_or_le (k : Int) n2 with g | g
  ·exact d7 k g hbad
  ·have := hbad.1; omega
 refine ⟨fun g1 => ⟨fun g2 => f4 (g_s3 hm (by omega) (fun k hk => nobad k hk (by omega)) (by omega)), fun g2 => ⟨by omega, by omega, by omega, by omega, by omega, by omega, by omega, fun g3 => f4 (g_s3 hm (by omega) (fun k hk => nobad k hk (by omega)) (by omega)), fun g3 => ⟨by omega, by omega, fun g4 => ?_, fun g4 => ⟨by omega, by omega, by omega, by omega, by omega, by omega, by omega, _, ?_, by omega, by omega, by omega, rfl, rfl, fun k hk => ?_, fun k hk => ?_, fun k hk => ?_, rfl⟩⟩⟩⟩, fun g1 => ⟨fun g2 => ?_, fun g2 => ⟨by omega, by omega, by omega, by omega, ?_⟩⟩⟩
 ·refine f3 (g_sec hm (by omega) (i := n2.toNat) (by omega) ⟨by omega, ?_⟩)
  rw [be1] at g4
  rw [show gpD c0 + 2 + 5 * ((n2.toNat : Nat) : Int) + 4 = o2 + 4 by omega]
  exact g4
 ·omega
 ·rw [qQt]
  by_cases e : (k : Int) = n2
  ·rw [if_pos (by omega), e, d2]; exact Go.Eng.wrap_wrap .i32 .i32 _ (by decide)
  ·rw [if_neg (by omega)]; exact d5 k (by omega)
 ·rw [qQt]
  by_cases e : (k : Int) = n2
  ·rw [if_pos (by omega), b01_iff, beq_iff_eq, be1, e, d2]
  ·rw [if_neg (by omega)]; exact d6 k (by omega)
 ·by_cases e : (k : Int) = n2
  ·rintro ⟨_, hh⟩
   rw [be1, d2, ← e] at g4
   omega
  ·exact d7 k (by omega)
 ·exact f4 (g_s3 hm (by omega) (fun k hk => d7 k (by omega)) (by omega))
 have en : n2 = gnD c0 := by omega
 subst en
 have hs : ∀ k : Nat, (k : Int) < gnD c0 → ¬ badSec c0 L k := fun k hk => d7 k hk
 have eI : beN c0 o2 1 = gnI c0 := by rw [show o2 = gpI c0 by omega]; rfl
 rw [eI]
 clear hb nobad
 refine ⟨fun q n i o l p m => i ≤ gnI c0 ∧ o = gpI c0 + 1 + 2 * i ∧ o + l = L ∧ n = i ∧ (∀ k : Nat, (k : Int) < i → IntKind.wrap .i64 (rdZ q k) = beN c0 (gpI c0 + 1 + 2 * k) 2) ∧ m = (gnI c0 - i).toNat, ⟨_, by omega, by omega, by omega, rfl, fun k hk => by omega, rfl⟩, ?_⟩
 rintro q3 n3 i o3 l3 p3 m hb ⟨i1, i2, i3, rfl, i5, rfl⟩
 refine ⟨fun g1 => ⟨fun g2 => f4 (g_s4 hm hs (by omega) (by omega)), fun g2 => ⟨by omega, by omega, by omega, by omega, by omega, by omega, by omega, by omega, _, ?_, by omega, by omega, by omega, rfl, fun k hk => ?_, rfl⟩⟩, fun g1 => ⟨fun g2 => f4 (g_s4 hm hs (by omega) (by omega)), fun g2 => ⟨by omega, by omega, by omega, by omega, ?_⟩⟩⟩
 ·omega
 ·rw [qQt]
  have hw : ∀ o, IntKind.wrap .i64 (beN c0 o 2) = beN c0 o 2 := fun o => by have := be2_bd c0 o; exact w64 (by omega) (by omega)
  by_cases e : (k : Int) = n3
  ·rw [if_pos (by omega), hw, e, i2]
  ·rw [if_neg (by omega)]; exact i5 k (by omega)
 have en : n3 = gnI c0 := by omega
 subst en
 have eO : beN c0 o3 1 = gnO c0 := by rw [show o3 = gpO c0 by omega]; rfl
 rw [eO]
 clear hb
 refine ⟨fun q n i o l p m => i ≤ gnO c0 ∧ o = gpO c0 + 1 + 2 * i ∧ o + l = L ∧ n = i ∧ (∀ k : Nat, (k : Int) < i → IntKind.wrap .i64 (rdZ q k) = beN c0 (gpO c0 + 1 + 2 * k) 2) ∧ m = (gnO c0 - i).toNat, ⟨_, by omega, by omega, by omega, rfl, fun k hk => by omega, rfl⟩, ?_⟩
 rintro q4 n4 i o4 l4 p4 m hb ⟨o1, o2', o3', rfl, o5, rfl⟩
 refine ⟨fun g1 => ⟨fun g2 => f4 (g_s5 hm hs (by omega) (by omega)), fun g2 => ⟨by omega, by omega, by omega, by omega, by omega, by omega, by omega, by omega, _, ?_, by omega, by omega, by omega, rfl, fun k hk => ?_, rfl⟩⟩, fun g1 => ⟨fun g2 => f5 (g_long hm hs (by omega)), fun g2 => ?_⟩⟩
 ·omega
 ·rw [qQt]
  have hw : ∀ o, IntKind.wrap .i64 (beN c0 o 2) = beN c0 o 2 := fun o => by have := be2_bd c0 o; exact w64 (by omega) (by omega)
  by_cases e : (k : Int) = n4
  ·rw [if_pos (by omega), hw, e, o2']
  ·rw [if_neg (by omega)]; exact o5 k (by omega)
 have en : n4 = gnO c0 := by omega
 subst en
 have hchk : gtF c0 L = chk7 (gnC c0) (gnD c0) (gnD c0) (gnI c0) (gnO c0) q3 q4 := by
  rw [g_chk hm hs (by omega)]
  refine chk_congr (fun k hk => ?_) (fun k hk => ?_)
  ·rw [i5 k hk, gtC_rd c0 3 (show (k : Int) < gnF c0 3 from hk)]
   have := be2_bd c0 (gpI c0 + 1 + 2 * k)
   exact w64 (by show _ ≤ beN c0 (gpI c0 + 1 + 2 * k) 2; omega) (by show beN c0 (gpI c0 + 1 + 2 * k) 2 ≤ _; omega)
  ·rw [o5 k hk, gtC_rd c0 4 (show (k : Int) < gnF c0 4 from hk)]
   have := be2_bd c0 (gpO c0 + 1 + 2 * k)
   exact w64 (by show _ ≤ beN c0 (gpO c0 + 1 + 2 * k) 2; omega) (by show beN c0 (gpO c0 + 1 + 2 * k) 2 ≤ _; omega)
 rintro y hy hyb
 rw [← hchk] at hy
 refine ⟨fun g => enum16 (F := leafP c0 n0) hyb.1 hyb.2 (lf hy.symm g), fun g => ?_⟩
 exact leafOk (by rw [hg, ← hy, g]) h5 d5 d6 i5 o5
theorem plain (i v ro p) : statR 2 rc tree ⟨i, fN, v, ro, p⟩ = P (i 0) (i 1) (i 2) := by kernel_rfl
theorem ran : ranR us (fun f i => match f, i with | 17, 7 => .poly [] | 17, 11 => .poly [] | _, _ => if [34].contains f then .unroll 400 else .auto) rc 2 tree = true := by kernel_rfl
theorem fineT : fineR 2 rc tree = true := by kernel_rfl
theorem ok : RcOk (cxOf 2) rc := okR us_ok ran fineT okb fun i v ro p hρ hcap hpre => by rw [plain]; have q := hρ.hi; exact holds _ _ _ (q 0 _ rfl).1 (q 0 _ rfl).2 (hcap _ (mg 0 rfl))
end CIGet
namespace CRWords
def rc : Rc := ⟨19, [none, none], [.row [.int .u32] 1000000, .row [.int .u32] 1000000], [], .one, [.bool (.ite (.b .eq .i64 (.v 0) (.v 1)) (.f 72 (.v 2) (.v 3) (.v 0)) (.c 0))]⟩
theorem okb : rc.ok = true := by kernel_rfl
noncomputable def us : SMs := fun Γ ins n => smH (cxG n Γ ins) [] (smR (cxG n Γ ins) [])
theorem us_ok : SMsOk us := fun Γ ins n => qZu (tabsG n Γ ins) (qZa _) (qZs (tabsG n Γ ins) (qZb _))
def tree : TT (List E) :=
(.br (.b .ne .i64 (.v 0) (.v 1))
 (.leaf [(.c 0)])
 (.loop ⟨1000, [some (0, 4611686018427387904)], [(.c 0)], 1002⟩
 (.br (.b .lt .i64 (.cl 1000 0 4611686018427387904) (.v 0))
 (.br (.b .lt .i64 (.cl 1000 0 4611686018427387904) (.v 1))
 (.br (.b .ne .i64 (.w .u32 (.f 13 (.v 2) (.cl 1000 0 4611686018427387904) (.c 0))) (.w .u32 (.f 13 (.v 3) (.cl 1000 0 4611686018427387904) (.c 0))))
 (.exit 0)
 (.br (.b .le .i64 (.b .padd .i64 (.cl 1000 0 4611686018427387904) (.c 1)) (.c 4611686018427387904))
 (.back [(.b .padd .i64 (.cl 1000 0 4611686018427387904) (.c 1))])
 (.bad 303)))
 (.bad 200))
 (.exit 1))
 (.br (.b .eq .i64 (.v 1002) (.c 0))
 (.leaf [(.c 0)])
 (.leaf [(.c 1)]))))
def P (n0 n1 c0 c1 r0 r1 : Int) : Prop :=
 (((qQq (n0 != n1)) ≠ 0 →
  ((0 : Int) ≠ 0 ↔ ((iteZ (qQq (n0 == n1)) (qJp c0 c1 n0) 0) : Int) ≠ 0) ∧ True) ∧ ((qQq (n0 != n1)) = 0 →
  ∃ I1000 : Int → Nat → Prop, (∃ m, I1000 0 m) ∧
  ∀ y1000 : Int, ∀ m1000, ((0 ≤ y1000 ∧ y1000 ≤ 4611686018427387904) ∧ True) → I1000 y1000 m1000 →
   (((qQq (decide (y1000 < n0))) ≠ 0 →
    (((qQq (decide (y1000 < n1))) ≠ 0 →
     (((qQq ((IntKind.wrap .u32 (rdZ c0 y1000)) != (IntKind.wrap .u32 (rdZ c1 y1000)))) ≠ 0 →
      (((qQq ((0 : Int) == 0)) ≠ 0 →
       ((0 : Int) ≠ 0 ↔ ((iteZ (qQq (n0 == n1)) (qJp c0 c1 n0) 0) : Int) ≠ 0) ∧ True) ∧ ((qQq ((0 : Int) == 0)) = 0 →
       ((1 : Int) ≠ 0 ↔ ((iteZ (qQq (n0 == n1)) (qJp c0 c1 n0) 0) : Int) ≠ 0) ∧ True))) ∧ ((qQq ((IntKind.wrap .u32 (rdZ c0 y1000)) != (IntKind.wrap .u32 (rdZ c1 y1000)))) = 0 →
      (((qQq (decide ((y1000 + 1) ≤ 4611686018427387904))) ≠ 0 →
       ∃ m', m' < m1000 ∧ I1000 (y1000 + 1) m') ∧ ((qQq (decide ((y1000 + 1) ≤ 4611686018427387904))) = 0 →
       False))))) ∧ ((qQq (decide (y1000 < n1))) = 0 →
     False))) ∧ ((qQq (decide (y1000 < n0))) = 0 →
    (((qQq ((1 : Int) == 0)) ≠ 0 →
     ((0 : Int) ≠ 0 ↔ ((iteZ (qQq (n0 == n1)) (qJp c0 c1 n0) 0) : Int) ≠ 0) ∧ True) ∧ ((qQq ((1 : Int) == 0)) = 0 →
     ((1 : Int) ≠ 0 ↔ ((iteZ (qQq (n0 == n1)) (qJp c0 c1 n0) 0) : Int) ≠ 0) ∧ True))))))
theorem sameU_iff (c d n : Int) : qJp c d n ≠ 0 ↔ ∀ i : Nat, (i : Int) < n → IntKind.wrap .u32 (rdZ c i) = IntKind.wrap .u32 (rdZ d i) := by
 have w : ∀ a b : Int, IntKind.wrap .i32 a = IntKind.wrap .i32 b ↔ IntKind.wrap .u32 a = IntKind.wrap .u32 b := fun a b =>
  ⟨fun h => by have := congrArg (IntKind.wrap .u32) h; rwa [Go.Eng.wrap_wrap .u32 .i32 _ (by decide), Go.Eng.wrap_wrap .u32 .i32 _ (by decide)] at this,
   fun h => by have := congrArg (IntKind.wrap .i32) h; rwa [Go.Eng.wrap_wrap .i32 .u32 _ (by decide), Go.Eng.wrap_wrap .i32 .u32 _ (by decide)] at this⟩
 unfold qJp
 split
 ·rename_i h; exact ⟨fun _ i hi => (w _ _).1 (h i hi), fun _ => by decide⟩
 ·rename_i h; exact ⟨fun k => absurd rfl k, fun k => absurd (fun i hi => (w _ _).2 (k i hi)) h⟩
theorem holds (n0 n1 c0 c1 r0 r1 : Int) (l_n0 : 0 ≤ n0) (u_n0 : n0 ≤ 1000000) (l_n1 : 0 ≤ n1) (u_n1 : n1 ≤ 1000000) (h_n0 : n0 ≤ r0) (h_n1 : n1 ≤ r1) : P n0 n1 c0 c1 r0 r1 := by
 unfold P
 simp only [nrm, Int.reduceEq, Int.reduceNeg, reduceIte]
 refine ⟨fun h => by simp [h], fun h => ?_⟩
 subst h
 simp only [if_true]
 have hs := sameU_iff c0 c1 n0
 refine ⟨fun i m => (∀ k : Nat, (k : Int) < i → IntKind.wrap .u32 (rdZ c0 k) = IntKind.wrap .u32 (rdZ c1 k)) ∧ i ≤ n0 ∧ m = (n0 - i).toNat, ⟨_, fun k hk => by omega, l_n0, rfl⟩, fun i m hb hI => ?_⟩
 obtain ⟨hI, hi, rfl⟩ := hI
 obtain ⟨j, rfl⟩ : ∃ j : Nat, i = j := ⟨i.toNat, by omega⟩
 refine ⟨fun h1 => ⟨fun h2 => ⟨fun h3 => by have : ¬ (qJp c0 c1 n0 ≠ 0) := fun h => h3 (hs.1 h j h1); simp_all, fun h3 => ⟨fun h4 => ⟨_, ?_, fun k hk => ?_, by omega, rfl⟩, fun h4 => by omega⟩⟩, fun h2 => by omega⟩, fun h1 => by have := hs.2 fun k hk => hI k (by omega); simp_all⟩
 ·omega
 ·by_cases e : k = j
  ·subst e; exact h3
  ·exact hI k (by omega)
theorem plain (i v ro p) : statR 2 rc tree ⟨i, fN, v, ro, p⟩ = P (i 0) (i 1) (i 2) (i 3) (i 4) (i 5) := by kernel_rfl
theorem ran : ranR us (fun _ _ => .auto) rc 2 tree = true := by kernel_rfl
theorem fineT : fineR 2 rc tree = true := by kernel_rfl
theorem ok : RcOk (cxOf 2) rc := okR us_ok ran fineT okb fun i v ro p hρ hcap hpre => by rw [plain]; have q := hρ.hi; exact holds _ _ _ _ _ _ (q 0 _ rfl).1 (q 0 _ rfl).2 (q 1 _ rfl).1 (q 1 _ rfl).2 (hcap _ (mg 0 rfl)) (hcap _ (mg 1 rfl))
end CRWords
namespace CRSame15
def rc : Rc := ⟨20, [none, none], [.row [.int .i32] 1000000, .row [.int .i32] 1000000], [], .one, [.bool (.ite (.b .eq .i64 (.v 0) (.v 1)) (.f 72 (.v 2) (.v 3) (.v 0)) (.c 0))]⟩
theorem okb : rc.ok = true := by kernel_rfl
noncomputable def us : SMs := fun Γ ins n => smH (cxG n Γ ins) [] (smR (cxG n Γ ins) [])
theorem us_ok : SMsOk us := fun Γ ins n => qZu (tabsG n Γ ins) (qZa _) (qZs (tabsG n Γ ins) (qZb _))
def tree : TT (List E) :=
(.br (.b .ne .i64 (.v 0) (.v 1))
 (.leaf [(.c 0)])
 (.loop ⟨1000, [some (0, 4611686018427387904)], [(.c 0)], 1002⟩
 (.br (.b .lt .i64 (.cl 1000 0 4611686018427387904) (.v 0))
 (.br (.b .lt .i64 (.cl 1000 0 4611686018427387904) (.v 1))
 (.br (.b .ne .i64 (.w .i32 (.f 13 (.v 2) (.cl 1000 0 4611686018427387904) (.c 0))) (.w .i32 (.f 13 (.v 3) (.cl 1000 0 4611686018427387904) (.c 0))))
 (.exit 0)
 (.br (.b .le .i64 (.b .padd .i64 (.cl 1000 0 4611686018427387904) (.c 1)) (.c 4611686018427387904))
 (.back [(.b .padd .i64 (.cl 1000 0 4611686018427387904) (.c 1))])
 (.bad 303)))
 (.bad 200))
 (.exit 1))
 (.br (.b .eq .i64 (.v 1002) (.c 0))
 (.leaf [(.c 0)])
 (.leaf [(.c 1)]))))
def P (n0 n1 c0 c1 r0 r1 : Int) : Prop :=
 (((qQq (n0 != n1)) ≠ 0 →
  ((0 : Int) ≠ 0 ↔ ((iteZ (qQq (n0 == n1)) (qJp c0 c1 n0) 0) : Int) ≠ 0) ∧ True) ∧ ((qQq (n0 != n1)) = 0 →
  ∃ I1000 : Int → Nat → Prop, (∃ m, I1000 0 m) ∧
  ∀ y1000 : Int, ∀ m1000, ((0 ≤ y1000 ∧ y1000 ≤ 4611686018427387904) ∧ True) → I1000 y1000 m1000 →
   (((qQq (decide (y1000 < n0))) ≠ 0 →
    (((qQq (decide (y1000 < n1))) ≠ 0 →
     (((qQq ((IntKind.wrap .i32 (rdZ c0 y1000)) != (IntKind.wrap .i32 (rdZ c1 y1000)))) ≠ 0 →
      (((qQq ((0 : Int) == 0)) ≠ 0 →
       ((0 : Int) ≠ 0 ↔ ((iteZ (qQq (n0 == n1)) (qJp c0 c1 n0) 0) : Int) ≠ 0) ∧ True) ∧ ((qQq ((0 : Int) == 0)) = 0 →
       ((1 : Int) ≠ 0 ↔ ((iteZ (qQq (n0 == n1)) (qJp c0 c1 n0) 0) : Int) ≠ 0) ∧ True))) ∧ ((qQq ((IntKind.wrap .i32 (rdZ c0 y1000)) != (IntKind.wrap .i32 (rdZ c1 y1000)))) = 0 →
      (((qQq (decide ((y1000 + 1) ≤ 4611686018427387904))) ≠ 0 →
       ∃ m', m' < m1000 ∧ I1000 (y1000 + 1) m') ∧ ((qQq (decide ((y1000 + 1) ≤ 4611686018427387904))) = 0 →
       False))))) ∧ ((qQq (decide (y1000 < n1))) = 0 →
     False))) ∧ ((qQq (decide (y1000 < n0))) = 0 →
    (((qQq ((1 : Int) == 0)) ≠ 0 →
     ((0 : Int) ≠ 0 ↔ ((iteZ (qQq (n0 == n1)) (qJp c0 c1 n0) 0) : Int) ≠ 0) ∧ True) ∧ ((qQq ((1 : Int) == 0)) = 0 →
     ((1 : Int) ≠ 0 ↔ ((iteZ (qQq (n0 == n1)) (qJp c0 c1 n0) 0) : Int) ≠ 0) ∧ True))))))
theorem sameW_iff (c d n : Int) : qJp c d n ≠ 0 ↔ ∀ i : Nat, (i : Int) < n → IntKind.wrap .i32 (rdZ c i) = IntKind.wrap .i32 (rdZ d i) := by
 unfold qJp; split <;> simp_all
theorem holds (n0 n1 c0 c1 r0 r1 : Int) (l_n0 : 0 ≤ n0) (u_n0 : n0 ≤ 1000000) (l_n1 : 0 ≤ n1) (u_n1 : n1 ≤ 1000000) (h_n0 : n0 ≤ r0) (h_n1 : n1 ≤ r1) : P n0 n1 c0 c1 r0 r1 := by
 unfold P
 simp only [nrm, Int.reduceEq, Int.reduceNeg, reduceIte]
 refine ⟨fun h => by simp [h], fun h => ?_⟩
 subst h
 simp only [if_true]
 have hs := sameW_iff c0 c1 n0
 refine ⟨fun i m => (∀ k : Nat, (k : Int) < i → IntKind.wrap .i32 (rdZ c0 k) = IntKind.wrap .i32 (rdZ c1 k)) ∧ i ≤ n0 ∧ m = (n0 - i).toNat, ⟨_, fun k hk => by omega, l_n0, rfl⟩, fun i m hb hI => ?_⟩
 obtain ⟨hI, hi, rfl⟩ := hI
 obtain ⟨j, rfl⟩ : ∃ j : Nat, i = j := ⟨i.toNat, by omega⟩
 refine ⟨fun h1 => ⟨fun h2 => ⟨fun h3 => by have : ¬ (qJp c0 c1 n0 ≠ 0) := fun h => h3 (hs.1 h j h1); simp_all, fun h3 => ⟨fun h4 => ⟨_, ?_, fun k hk => ?_, by omega, rfl⟩, fun h4 => by omega⟩⟩, fun h2 => by omega⟩, fun h1 => by have := hs.2 fun k hk => hI k (by omega); simp_all⟩
 ·omega
 ·by_cases e : k = j
  ·subst e; exact h3
  ·exact hI k (by omega)
theorem plain (i v ro p) : statR 2 rc tree ⟨i, fN, v, ro, p⟩ = P (i 0) (i 1) (i 2) (i 3) (i 4) (i 5) := by kernel_rfl
theorem ran : ranR us (fun _ _ => .auto) rc 2 tree = true := by kernel_rfl
theorem fineT : fineR 2 rc tree = true := by kernel_rfl
theorem ok : RcOk (cxOf 2) rc := okR us_ok ran fineT okb fun i v ro p hρ hcap hpre => by rw [plain]; have q := hρ.hi; exact holds _ _ _ _ _ _ (q 0 _ rfl).1 (q 0 _ rfl).2 (q 1 _ rfl).1 (q 1 _ rfl).2 (hcap _ (mg 0 rfl)) (hcap _ (mg 1 rfl))
end CRSame15
namespace CRBools
def rc : Rc := ⟨21, [none, none], [.row [.bool] 1000000, .row [.bool] 1000000], [], .one, [.bool (.ite (.b .eq .i64 (.v 0) (.v 1)) (.f 62 (.v 2) (.v 3) (.v 0)) (.c 0))]⟩
theorem okb : rc.ok = true := by kernel_rfl
noncomputable def us : SMs := fun Γ ins n => smH (cxG n Γ ins) [] (smR (cxG n Γ ins) [])
theorem us_ok : SMsOk us := fun Γ ins n => qZu (tabsG n Γ ins) (qZa _) (qZs (tabsG n Γ ins) (qZb _))
def tree : TT (List E) :=
(.br (.b .ne .i64 (.v 0) (.v 1))
 (.leaf [(.c 0)])
 (.loop ⟨1000, [some (0, 4611686018427387904)], [(.c 0)], 1002⟩
 (.br (.b .lt .i64 (.cl 1000 0 4611686018427387904) (.v 0))
 (.br (.b .lt .i64 (.cl 1000 0 4611686018427387904) (.v 1))
 (.br (.b .ne .i64 (.nt (.f 13 (.v 2) (.cl 1000 0 4611686018427387904) (.c 0))) (.nt (.f 13 (.v 3) (.cl 1000 0 4611686018427387904) (.c 0))))
 (.exit 0)
 (.br (.b .le .i64 (.b .padd .i64 (.cl 1000 0 4611686018427387904) (.c 1)) (.c 4611686018427387904))
 (.back [(.b .padd .i64 (.cl 1000 0 4611686018427387904) (.c 1))])
 (.bad 303)))
 (.bad 200))
 (.exit 1))
 (.br (.b .eq .i64 (.v 1002) (.c 0))
 (.leaf [(.c 0)])
 (.leaf [(.c 1)]))))
def P (n0 n1 c0 c1 r0 r1 : Int) : Prop :=
 (((qQq (n0 != n1)) ≠ 0 →
  ((0 : Int) ≠ 0 ↔ ((iteZ (qQq (n0 == n1)) (sameB c0 c1 n0) 0) : Int) ≠ 0) ∧ True) ∧ ((qQq (n0 != n1)) = 0 →
  ∃ I1000 : Int → Nat → Prop, (∃ m, I1000 0 m) ∧
  ∀ y1000 : Int, ∀ m1000, ((0 ≤ y1000 ∧ y1000 ≤ 4611686018427387904) ∧ True) → I1000 y1000 m1000 →
   (((qQq (decide (y1000 < n0))) ≠ 0 →
    (((qQq (decide (y1000 < n1))) ≠ 0 →
     (((qQq ((qQq ((rdZ c0 y1000) == 0)) != (qQq ((rdZ c1 y1000) == 0)))) ≠ 0 →
      (((qQq ((0 : Int) == 0)) ≠ 0 →
       ((0 : Int) ≠ 0 ↔ ((iteZ (qQq (n0 == n1)) (sameB c0 c1 n0) 0) : Int) ≠ 0) ∧ True) ∧ ((qQq ((0 : Int) == 0)) = 0 →
       ((1 : Int) ≠ 0 ↔ ((iteZ (qQq (n0 == n1)) (sameB c0 c1 n0) 0) : Int) ≠ 0) ∧ True))) ∧ ((qQq ((qQq ((rdZ c0 y1000) == 0)) != (qQq ((rdZ c1 y1000) == 0)))) = 0 →
      (((qQq (decide ((y1000 + 1) ≤ 4611686018427387904))) ≠ 0 →
       ∃ m', m' < m1000 ∧ I1000 (y1000 + 1) m') ∧ ((qQq (decide ((y1000 + 1) ≤ 4611686018427387904))) = 0 →
       False))))) ∧ ((qQq (decide (y1000 < n1))) = 0 →
     False))) ∧ ((qQq (decide (y1000 < n0))) = 0 →
    (((qQq ((1 : Int) == 0)) ≠ 0 →
     ((0 : Int) ≠ 0 ↔ ((iteZ (qQq (n0 == n1)) (sameB c0 c1 n0) 0) : Int) ≠ 0) ∧ True) ∧ ((qQq ((1 : Int) == 0)) = 0 →
     ((1 : Int) ≠ 0 ↔ ((iteZ (qQq (n0 == n1)) (sameB c0 c1 n0) 0) : Int) ≠ 0) ∧ True))))))
theorem holds (n0 n1 c0 c1 r0 r1 : Int) (l_n0 : 0 ≤ n0) (u_n0 : n0 ≤ 1000000) (l_n1 : 0 ≤ n1) (u_n1 : n1 ≤ 1000000) (h_n0 : n0 ≤ r0) (h_n1 : n1 ≤ r1) : P n0 n1 c0 c1 r0 r1 := by
 unfold P
 simp only [nrm, Int.reduceEq, Int.reduceNeg, reduceIte]
 refine ⟨fun h => by simp [h], fun h => ?_⟩
 subst h
 simp only [if_true, sameB_ne]
 refine ⟨fun i m => i ≤ n0 ∧ (∀ j : Nat, (j : Int) < i → (rdZ c0 j ≠ 0 ↔ rdZ c1 j ≠ 0)) ∧ m = (n0 - i).toNat, ⟨_, l_n0, fun j hj => by omega, rfl⟩, fun i m hb hI => ?_⟩
 obtain ⟨hi, hj, rfl⟩ := hI
 have hi0 := nat_i hb.1
 refine ⟨fun h1 => ⟨fun _ => ⟨fun h2 => ?_, fun h2 => ⟨fun _ => ⟨_, ?_, ?_, fun j g => ?_, rfl⟩, fun _ => ?_⟩⟩, fun _ => ?_⟩, fun h1 => ?_⟩
 ·intro g
  have := g i.toNat (by omega)
  rw [hi0] at this
  apply h2
  by_cases a : rdZ c0 i = 0 <;> by_cases b : rdZ c1 i = 0 <;> simp_all [qQq]
 ·omega
 ·omega
 ·by_cases g2 : (j : Int) < i
  ·exact hj j g2
  ·rw [show (j : Int) = i by omega]
   by_cases a : rdZ c0 i = 0 <;> by_cases b : rdZ c1 i = 0 <;> simp_all [qQq]
 ·omega
 ·omega
 ·intro g; exact g fun j g => hj j (by omega)
theorem plain (i v ro p) : statR 2 rc tree ⟨i, fN, v, ro, p⟩ = P (i 0) (i 1) (i 2) (i 3) (i 4) (i 5) := by kernel_rfl
theorem ran : ranR us (fun _ _ => .auto) rc 2 tree = true := by kernel_rfl
theorem fineT : fineR 2 rc tree = true := by kernel_rfl
theorem ok : RcOk (cxOf 2) rc := okR us_ok ran fineT okb fun i v ro p hρ hcap hpre => by rw [plain]; have q := hρ.hi; exact holds _ _ _ _ _ _ (q 0 _ rfl).1 (q 0 _ rfl).2 (q 1 _ rfl).1 (q 1 _ rfl).2 (hcap _ (mg 0 rfl)) (hcap _ (mg 1 rfl))
end CRBools
end Go.Proofs.YtkjbmbmdmhfbeacDoor
