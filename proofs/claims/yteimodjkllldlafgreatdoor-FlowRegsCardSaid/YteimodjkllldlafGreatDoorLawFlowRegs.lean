/-
  The law FlowRegs answers true at every input: the law is run by the engine (a symbolic run, proved sound), the tree of its answers, as a plain statement, is shown to hold. No condition.
-/
import Derived.Test.YteimodjkllldlafGreatDoorKd
import Derived.Test.YteimodjkllldlafGreatDoorKe
import Derived.Test.YteimodjkllldlafGreatDoorKg
import Derived.Test.YteimodjkllldlafGreatDoorGab
import Derived.Test.YteimodjkllldlafGreatDoorGp6
import Derived.Test.YteimodjkllldlafGreatDoorGp3
import Derived.WalkKit
import Derived.ProofKit
import Derived.OpenShut
import Derived.LaidMore
import Derived.Stop.Joined
import Derived.SevenTiedAt
import Derived.SizedLaws
import Derived.Lay
import Derived.Test.YteimodjkllldlafGreatDoorCards
import Derived.Test.YteimodjkllldlafGreatDoorTie
namespace Go.Proofs.YteimodjkllldlafGreatDoor.flowRegs
open Go.ChangeShapes Go.WideShapes Go.ChangeAt Go.Eng Go.RowKit
set_option linter.unusedVariables false
set_option linter.unusedSimpArgs false
set_option maxRecDepth 100000
def rc : Rc := ⟨3, [some 5, none, none, none], [.row [.int .u32] 140737488355328, .row [.int .i32] 140737488355328, .row [.bool] 140737488355328, .row [.int .i64] 140737488355328, .row [.int .i64] 140737488355328, .row [.int .i32] 140737488355328, .row [.int .i32] 140737488355328, .int .u8], [], .one, [.bool (.c 1)]⟩
theorem okb : rc.ok = true := by kernel_rfl
def mk3_9 : qZh := [([0, 14], .num (0) (4611686018427387904)), ([1, 4, 34], .num (-9223372036854775808) (9223372036854775807)), ([1, 4, 35], .num (-9223372036854775808) (9223372036854775807)), ([1, 4, 36], .num (-9223372036854775808) (9223372036854775807)), ([1, 4, 37], .arr [.int .i64, .int .i64, .int .i64] 140), ([1, 7, 0], .code), ([1, 10, 34], .num (-9223372036854775808) (9223372036854775807)), ([1, 10, 35], .num (-9223372036854775808) (9223372036854775807)), ([1, 10, 36], .num (-9223372036854775808) (9223372036854775807)), ([1, 10, 37], .arr [.int .i64, .int .i64, .int .i64] 140), ([1, 13, 0], .code), ([1, 4, 2], .bank 32 [.int .i32]), ([1, 10, 2], .bank 32 [.int .i32]), ([0, 15], .wilds 2), ([0, 61], .wilds 50)]
def mk3_15 : qZh := [([0, 16], .num (0) (4611686018427387904)), ([0, 79], .wilds 28)]
noncomputable def us : SMs := fun Γ ins n => smH (cxG n Γ ins) [CCNewO.rk.rh, CCStep.rk.rh] (smR (cxG n Γ ins) [CAwake24.rc, CFCheck.rc, CFSecrets.rc, CRLike.rc])
theorem us_ok : SMsOk us := fun Γ ins n => qJi (tabsG n Γ ins) (qJp CCNewO.okh (rh_n CCNewO.ok) (qJp CCStep.okh (rh_n CCStep.ok) (qJq _))) (qJg (tabsG n Γ ins) (qZg CAwake24.okb (rc_n CAwake24.ok) (qZg CFCheck.okb (rc_n CFCheck.ok) (qZg CFSecrets.okb (rc_n CFSecrets.ok) (qZg CRLike.okb (rc_n CRLike.ok) (qJz _))))))
def Q0 : E := (tC (.v 12) (.c 0))
def Q1 : E := (tC (.v 11) Q0)
def Q2 : E := (tC (.v 4) Q1)
def Q3 : E := (tC (.v 3) Q2)
def Q4 : E := (tC (.v 2) Q3)
def Q5 : E := (.f 84 (.v 0) (.v 1) Q4)
def Q6 : E := (tn Q5 (.c 0))
def Q7 : E := (tC (.c 0) (tC (.c 0) (.c 0)))
def Q8 : E := (tC (.c 0) Q7)
def Q9 : E := (tC (.c 0) Q8)
def Q10 : E := (tC (.c 0) Q9)
def Q11 : E := (tC (.c 0) Q10)
def Q12 : E := (tC (.c 0) Q11)
def Q13 : E := (tC (.c 0) Q12)
def Q14 : E := (tC (.c 0) Q13)
def Q15 : E := (tC (.c 0) Q14)
def Q16 : E := (tC (.c 0) Q15)
def Q17 : E := (tC (.c 0) Q16)
def Q18 : E := (tC (.c 0) Q17)
def Q19 : E := (tC (.c 0) Q18)
def Q20 : E := (tC (.c 0) Q19)
def Q21 : E := (tC (.c 0) Q20)
def Q22 : E := (tC (.c 0) Q21)
def Q23 : E := (tC (.c 0) Q22)
def Q24 : E := (tC (.c 0) Q23)
def Q25 : E := (tC (.c 0) Q24)
def Q26 : E := (tC (.c 0) Q25)
def Q27 : E := (tC (.c 0) Q26)
def Q28 : E := (tC (.c 0) Q27)
def Q29 : E := (tC (.c 0) Q28)
def Q30 : E := (tC (.c 0) Q29)
def Q31 : E := (tC (.c 0) Q30)
def Q32 : E := (tC (.c 0) Q31)
def Q33 : E := (tC (.c 0) Q32)
def Q34 : E := (tC (.c 0) Q33)
def Q35 : E := (tC (.c 0) Q34)
def Q36 : E := (tC (.c 0) Q35)
def Q37 : E := (tC (.c 0) Q36)
def Q38 : E := (.cl 1002 0 4611686018427387904)
def Q39 : E := (.cl 1005 (-9223372036854775808) 9223372036854775807)
def Q40 : E := (.cl 1004 (-9223372036854775808) 9223372036854775807)
def Q41 : E := (.cl 1011 (-9223372036854775808) 9223372036854775807)
def Q42 : E := (.cl 1018 0 4611686018427387904)
def Q43 : E := (tp Q42 (.c 1))
def Q44 : E := (tl Q43 (.c 4611686018427387904))
def Q45 : E := (.cl 1008 0 1000000)
def Q46 : E := (tl Q45 (.c 999999))
def Q47 : E := (.f 88 (.v 8) (.v 0) (.c 0))
def Q48 : E := (.f 68 Q47 (.v 0) (.c 0))
def Q49 : E := (.cl 1015 0 1000000)
def Q50 : E := (tl Q49 (.c 999999))
def Q51 : E := (tp Q38 (.c 1))
def Q52 : E := (tl Q51 (.c 4611686018427387904))
def Q53 : E := (.cl 1006 (-9223372036854775808) 9223372036854775807)
def Q54 : E := (tC Q45 (.c 0))
def Q55 : E := (tC (.v 1007) Q54)
def Q56 : E := (tC Q53 Q55)
def Q57 : E := (tC Q39 Q56)
def Q58 : E := (tC Q40 Q57)
def Q59 : E := (tC (.v 1) Q58)
def Q60 : E := (tC (.v 1009) Q59)
def Q61 : E := (tC (.v 1003) Q60)
def Q62 : E := (.f 69 Q47 (.v 0) Q61)
def Q63 : E := (tR Q62 (.c 6))
def Q64 : E := (t6 Q63)
def Q65 : E := (tl (.c 0) Q64)
def Q66 : E := (tl Q64 (.c 1000000))
def Q67 : E := (.cl 1012 (-9223372036854775808) 9223372036854775807)
def Q68 : E := (.cl 1013 (-9223372036854775808) 9223372036854775807)
def Q69 : E := (tC Q49 (.c 0))
def Q70 : E := (tC (.v 1014) Q69)
def Q71 : E := (tC Q68 Q70)
def Q72 : E := (tC Q67 Q71)
def Q73 : E := (tC Q41 Q72)
def Q74 : E := (tC (.v 1) Q73)
def Q75 : E := (tC (.v 1016) Q74)
def Q76 : E := (tC (.v 1010) Q75)
def Q77 : E := (.f 69 Q47 (.v 0) Q76)
def Q78 : E := (tR Q77 (.c 6))
def Q79 : E := (t6 Q78)
def Q80 : E := (tl (.c 0) Q79)
def Q81 : E := (tl Q79 (.c 1000000))
def Q82 : E := (tR Q62 (.c 0))
def Q83 : E := (tR Q62 (.c 2))
def Q84 : E := (t6 Q83)
def Q85 : E := (tR Q62 (.c 3))
def Q86 : E := (t6 Q85)
def Q87 : E := (tR Q62 (.c 4))
def Q88 : E := (t6 Q87)
def Q89 : E := (tR Q62 (.c 5))
def Q90 : E := (tR Q62 (.c 1))
def Q91 : E := (tR Q77 (.c 0))
def Q92 : E := (tR Q77 (.c 2))
def Q93 : E := (t6 Q92)
def Q94 : E := (tR Q77 (.c 3))
def Q95 : E := (t6 Q94)
def Q96 : E := (tR Q77 (.c 4))
def Q97 : E := (t6 Q96)
def Q98 : E := (tR Q77 (.c 5))
def Q99 : E := (tR Q77 (.c 1))
def tree : TT (List E) :=
 (.br (tl (.v 0) (.c 200)) (.br (tl (.v 1) (.c 2100)) (.br (tl (.v 2) (.c 2100)) (.br (tl (.v 3) (.c 300)) (.br (.nt (tl (.v 4) (.c 300))) (.leaf [(.c 1)]) (.br (tl (.v 0) (.c 1000000)) (.br (tl (.v 1) (.c 1000000)) (.br (tl (.v 2) (.c 1000000)) (.br (tl (.v 3) (.c 1000000)) (.br (tl (.v 4) (.c 1000000)) (.br (tl (.v 0) (.v 15)) (.br (tl (.v 1) (.v 16)) (.br (tl (.v 2) (.v 17)) (.br (tl (.v 3) (.v 18)) (.br (tl (.v 4) (.v 19)) (.new 1000 (.ite Q6 Q5 (.f 104 (.v 8) (.v 0) (tC (.v 1) (tC (.v 10) (tC (.v 11) (tC (.v 3) (.c 0))))))) (.br (tn (.cl 1000 0 12) (.c 0)) (.leaf [(.c 1)]) (.new 1001 (.ite Q6 (.c 0) (.v 0)) (.br (tl (.v 5) (.v 20)) (.br (tl (.v 1) (.c 2048)) (.br (tl (.v 0) (.c 16384)) (.br (tl (.v 6) (.v 21)) (.br (tn (.cl 1001 0 140737488355328) (.v 0)) (.leaf [(.c 0)]) (.loop
 ⟨1002, [some (0, 4611686018427387904), none, some (-9223372036854775808, 9223372036854775807), some (-9223372036854775808, 9223372036854775807), some (-9223372036854775808, 9223372036854775807), none, some (0, 1000000), none, none, some (-9223372036854775808, 9223372036854775807), some (-9223372036854775808, 9223372036854775807), some (-9223372036854775808, 9223372036854775807), none, some (0, 1000000), none], [(.c 0), Q37, (.c 0), (.c 0), (.c 0), (.c 0), (.c 0), (.f 102 (.v 9) (.v 1) (tC (.v 10) (tC (.v 2) (tC (.v 13) (tC (.v 5) (.c 0)))))), Q37, (.c 0), (.c 0), (.c 0), (.c 0), (.c 0), (.f 102 (.v 9) (.v 1) (tC (.v 10) (tC (.v 2) (tC (.v 14) (tC (.v 6) (.c 0))))))], 1021⟩ (.br (tk Q38 (.b .rem .i64 (.v 7) (.c 64))) (.br (te Q39 (.c 0)) (.br (tn Q40 Q41) (.exit 0) (.loop ⟨1018, [some (0,
 4611686018427387904)], [(.c 0)], 1020⟩ (.br (tk Q42 (.c 32)) (.br (tk Q40 (.cl 1001 0 140737488355328)) (.br (tl (.c 0) Q40) (.br (te (.b .and .u32 (.b .shr .u32 (.w .u32 (tR (.f 109 (.v 8) (.v 0) (tC (.v 1) (tC (.v 10) (.c 0)))) Q40)) Q42) (.c 1)) (.c 0)) (.br (tl (.c 32) Q42) (.br Q44 (.back [Q43]) (.bad 303)) (.br (tn (t3 (tR (.v 1003) Q42)) (t3 (tR (.v 1010) Q42))) (.exit 0) (.br Q44 (.back [Q43]) (.bad 303)))) (.br Q44 (.back [Q43]) (.bad 303))) (.bad 200)) (.exit 1)) (.exit 2)) (.br (te (.v 1020) (.c 0)) (.exit 1) (.br (te (.v 1020) (.c 1)) (.br Q46 (.br Q48 (.br Q50 (.br Q52 (.br Q65 (.br Q66 (.br Q80 (.br Q81 (.back [Q51, Q82, Q84, Q86, Q88, Q89, Q64, Q90, Q91, Q93, Q95, Q97, Q98, Q79, Q99]) (.bad 303)) (.bad 303)) (.bad 303)) (.bad 303)) (.bad 303)) (.bad 200)) (.bad 200)) (.bad
 200)) (.br Q46 (.br Q48 (.br Q50 (.br Q52 (.br Q65 (.br Q66 (.br Q80 (.br Q81 (.back [Q51, Q82, Q84, Q86, Q88, Q89, Q64, Q90, Q91, Q93, Q95, Q97, Q98, Q79, Q99]) (.bad 303)) (.bad 303)) (.bad 303)) (.bad 303)) (.bad 303)) (.bad 200)) (.bad 200)) (.bad 200)))))) (.exit 2)) (.exit 3)) (.br (te (.v 1021) (.c 0)) (.leaf [(.c 0)]) (.br (te (.v 1021) (.c 1)) (.leaf [(.c 0)]) (.br (te (.v 1021) (.c 2)) (.leaf [(.c 1)]) (.leaf [(.c 1)])))))) (.bad 200)) (.bad 200)) (.bad 200)) (.bad 200))))) (.bad 200)) (.bad 200)) (.bad 200)) (.bad 200)) (.bad 200)) (.bad 200)) (.bad 200)) (.bad 200)) (.bad 200)) (.bad 200))) (.leaf [(.c 1)])) (.leaf [(.c 1)])) (.leaf [(.c 1)])) (.leaf [(.c 1)]))

noncomputable def sq0 (i a y10 y16 b y11 y12 y13 y14 y15 : Int) : Int := (stepZ (decW i a) a (kZ y10 (kZ y16 (kZ b (kZ y11 (kZ y12 (kZ y13 (kZ y14 (kZ y15 0)))))))))
noncomputable def sq1 (i a y3 y9 b y4 y5 y6 y7 y8 : Int) : Int := (stepZ (decW i a) a (kZ y3 (kZ y9 (kZ b (kZ y4 (kZ y5 (kZ y6 (kZ y7 (kZ y8 0)))))))))
noncomputable def sq2 : Int := z32
def sq3 (y8 i a y15 y2 y3 y9 b y4 y5 y6 y7 y10 y16 y11 y12 y13 y14 : Int) (m2 : Nat) (I1002 : Int → Int → Int → Int → Int → Int → Int → Int → Int → Int → Int → Int → Int → Int → Int → Nat → Prop) : Prop := (Pm (PL y8 999999) (Pm (okC (decW i a) a) (Pm (PL y15 999999) (Pm (PL (y2 + 1) 4611686018427387904) (Pm (PL 0 (W6 (rdZ (sq1 i a y3 y9 b y4 y5 y6 y7 y8) 6))) (Pm (PL (W6 (rdZ (sq1 i a y3 y9 b y4 y5 y6 y7 y8) 6)) 1000000) (Pm (PL 0 (W6 (rdZ (sq0 i a y10 y16 b y11 y12 y13 y14 y15) 6))) (Pm (PL (W6 (rdZ (sq0 i a y10 y16 b y11 y12 y13 y14 y15) 6)) 1000000) (∃ m', m' < m2 ∧ I1002 (y2 + 1) (rdZ (sq1 i a y3 y9 b y4 y5 y6 y7 y8) 0) (W6 (rdZ (sq1 i a y3 y9 b y4 y5 y6 y7 y8) 2)) (W6 (rdZ (sq1 i a y3 y9 b y4 y5 y6 y7 y8) 3)) (W6 (rdZ (sq1 i a y3 y9 b y4 y5 y6 y7 y8) 4)) (rdZ (sq1 i a y3 y9 b y4 y5
 y6 y7 y8) 5) (W6 (rdZ (sq1 i a y3 y9 b y4 y5 y6 y7 y8) 6)) (rdZ (sq1 i a y3 y9 b y4 y5 y6 y7 y8) 1) (rdZ (sq0 i a y10 y16 b y11 y12 y13 y14 y15) 0) (W6 (rdZ (sq0 i a y10 y16 b y11 y12 y13 y14 y15) 2)) (W6 (rdZ (sq0 i a y10 y16 b y11 y12 y13 y14 y15) 3)) (W6 (rdZ (sq0 i a y10 y16 b y11 y12 y13 y14 y15) 4)) (rdZ (sq0 i a y10 y16 b y11 y12 y13 y14 y15) 5) (W6 (rdZ (sq0 i a y10 y16 b y11 y12 y13 y14 y15) 6)) (rdZ (sq0 i a y10 y16 b y11 y12 y13 y14 y15) 1) m')))))))))
def P (a b c d e f g h i j k l n o p q r s t u v w : Int) : Prop :=
 (Pb (PL a 200) (Pb (PL b 2100) (Pb (PL c 2100) (Pb (PL d 300) (Pb (Pe (PL e 300) 0) Pt (Pm (PL a 1000000) (Pm (PL b 1000000) (Pm (PL c 1000000) (Pm (PL d 1000000) (Pm (PL e 1000000) (Pm (PL a q) (Pm (PL b r) (Pm (PL c s) (Pm (PL d t) (Pm (PL e u) (Pn (iteZ (Pd (chkZ a b (kZ c (kZ d (kZ e (kZ l (kZ n 0)))))) 0) (chkZ a b (kZ c (kZ d (kZ e (kZ l (kZ n 0)))))) (fwhZ i a (kZ b (kZ k (kZ l (kZ d 0)))))) 0 12 fun y0 => (Pb (Pd y0 0) Pt (Pn (iteZ (Pd (chkZ a b (kZ c (kZ d (kZ e (kZ l (kZ n 0)))))) 0) 0 a) 0 140737488355328 fun y1 => (Pm (PL f v) (Pm (PL b 2048) (Pm (PL a 16384) (Pm (PL g w) (Pb (Pd y1 a) Pf (∃ I1002 : Int → Int → Int → Int → Int → Int → Int → Int → Int → Int → Int → Int → Int → Int → Int → Nat → Prop, (∃ m, I1002 0 sq2 0 0 0 0 0 (likZ j b (kZ k (kZ c (kZ o (kZ f 0))))) sq2 0 0
 0 0 0 (likZ j b (kZ k (kZ c (kZ p (kZ g 0))))) m) ∧ ∀ y2 y3 y4 y5 y6 y7 y8 y9 y10 y11 y12 y13 y14 y15 y16 : Int, ∀ m2, ((0 ≤ y2 ∧ y2 ≤ 4611686018427387904) ∧ True ∧ ((-9223372036854775808) ≤ y4 ∧ y4 ≤ 9223372036854775807) ∧ ((-9223372036854775808) ≤ y5 ∧ y5 ≤ 9223372036854775807) ∧ ((-9223372036854775808) ≤ y6 ∧ y6 ≤ 9223372036854775807) ∧ True ∧ (0 ≤ y8 ∧ y8 ≤ 1000000) ∧ True ∧ True ∧ ((-9223372036854775808) ≤ y11 ∧ y11 ≤ 9223372036854775807) ∧ ((-9223372036854775808) ≤ y12 ∧ y12 ≤ 9223372036854775807) ∧ ((-9223372036854775808) ≤ y13 ∧ y13 ≤ 9223372036854775807) ∧ True ∧ (0 ≤ y15 ∧ y15 ≤ 1000000) ∧ True ∧ True) → I1002 y2 y3 y4 y5 y6 y7 y8 y9 y10 y11 y12 y13 y14 y15 y16 m2 → (Pb (Pl y2 (BO.ev .rem .i64 h 64)) (Pb (Pe y5 0) (Pb (Pd y4 y11) (Pb (Pe (0 : Int) 0) Pf (Pb (Pe (0 : Int) 1) Pf
 (Pb (Pe (0 : Int) 2) Pt Pt))) (∃ I1018 : Int → Nat → Prop, (∃ m, I1018 0 m) ∧ ∀ y18 : Int, ∀ m18, ((0 ≤ y18 ∧ y18 ≤ 4611686018427387904) ∧ True) → I1018 y18 m18 → (Pb (Pl y18 32) (Pb (Pl y4 y1) (Pm (PL 0 y4) (Pb (Pe (band .u32 (shrZ .u32 (U3 (rdZ (sctZ i a (kZ b (kZ k 0))) y4)) y18) 1) 0) (Pb (PL 32 y18) (Pm (PL (y18 + 1) 4611686018427387904) (∃ m', m' < m18 ∧ I1018 (y18 + 1) m')) (Pb (Pd (W3 (rdZ y3 y18)) (W3 (rdZ y10 y18))) (Pb (Pe (0 : Int) 0) (Pb (Pe (1 : Int) 0) Pf (Pb (Pe (1 : Int) 1) Pf (Pb (Pe (1 : Int) 2) Pt Pt))) (Pb (Pe (0 : Int) 1) (sq3 y8 i a y15 y2 y3 y9 b y4 y5 y6 y7 y10 y16 y11 y12 y13 y14 m2 I1002) (sq3 y8 i a y15 y2 y3 y9 b y4 y5 y6 y7 y10 y16 y11 y12 y13 y14 m2 I1002))) (Pm (PL (y18 + 1) 4611686018427387904) (∃ m', m' < m18 ∧ I1018 (y18 + 1) m')))) (Pm (PL (y18 + 1)
 4611686018427387904) (∃ m', m' < m18 ∧ I1018 (y18 + 1) m')))) (Pb (Pe (1 : Int) 0) (Pb (Pe (1 : Int) 0) Pf (Pb (Pe (1 : Int) 1) Pf (Pb (Pe (1 : Int) 2) Pt Pt))) (Pb (Pe (1 : Int) 1) (sq3 y8 i a y15 y2 y3 y9 b y4 y5 y6 y7 y10 y16 y11 y12 y13 y14 m2 I1002) (sq3 y8 i a y15 y2 y3 y9 b y4 y5 y6 y7 y10 y16 y11 y12 y13 y14 m2 I1002)))) (Pb (Pe (2 : Int) 0) (Pb (Pe (1 : Int) 0) Pf (Pb (Pe (1 : Int) 1) Pf (Pb (Pe (1 : Int) 2) Pt Pt))) (Pb (Pe (2 : Int) 1) (sq3 y8 i a y15 y2 y3 y9 b y4 y5 y6 y7 y10 y16 y11 y12 y13 y14 m2 I1002) (sq3 y8 i a y15 y2 y3 y9 b y4 y5 y6 y7 y10 y16 y11 y12 y13 y14 m2 I1002)))))) (Pb (Pe (2 : Int) 0) Pf (Pb (Pe (2 : Int) 1) Pf (Pb (Pe (2 : Int) 2) Pt Pt)))) (Pb (Pe (3 : Int) 0) Pf (Pb (Pe (3 : Int) 1) Pf (Pb (Pe (3 : Int) 2) Pt Pt)))))))))))))))))))))))) Pt) Pt) Pt) Pt)

set_option maxHeartbeats 4000000 in
theorem holds (n0_0 n0_1 n0_2 n0_3 n0_4 n1 n2 p3 c0_0 c0_1 c0_2 c0_3 c0_4 c1 c2 r0_0 r0_1 r0_2 r0_3 r0_4 r1 r2 : Int) (l_n0_0 : 0 ≤ n0_0) (u_n0_0 : n0_0 ≤ 140737488355328) (l_n0_1 : 0 ≤ n0_1) (u_n0_1 : n0_1 ≤ 140737488355328) (l_n0_2 : 0 ≤ n0_2) (u_n0_2 : n0_2 ≤ 140737488355328) (l_n0_3 : 0 ≤ n0_3) (u_n0_3 : n0_3 ≤ 140737488355328) (l_n0_4 : 0 ≤ n0_4) (u_n0_4 : n0_4 ≤ 140737488355328) (l_n1 : 0 ≤ n1) (u_n1 : n1 ≤ 140737488355328) (l_n2 : 0 ≤ n2) (u_n2 : n2 ≤ 140737488355328) (l_p3 : 0 ≤ p3) (u_p3 : p3 ≤ 255) (h_n0_0 : n0_0 ≤ r0_0) (h_n0_1 : n0_1 ≤ r0_1) (h_n0_2 : n0_2 ≤ r0_2) (h_n0_3 : n0_3 ≤ r0_3) (h_n0_4 : n0_4 ≤ r0_4) (h_n1 : n1 ≤ r1) (h_n2 : n2 ≤ r2) : P n0_0 n0_1 n0_2 n0_3 n0_4 n1 n2 p3 c0_0 c0_1 c0_2 c0_3 c0_4 c1 c2 r0_0 r0_1 r0_2 r0_3 r0_4 r1 r2 := by
  delta P sq0 sq1 sq2 sq3 Pb Pm Pn Pf Pt PL Pl Pe Pd W6 W3 U3 kZ z32
  simp only [nrm, nro, Int.reduceEq, Int.reduceNeg, reduceIte]
  simp only [chk_ev]
  have s1 : ¬ (1 : Int) = 0 := by decide
  simp only [s1, not_false_eq_true, implies_true, true_and, and_true]
  intro g1 g2 g3 g4 g5
  refine ⟨by omega, by omega, by omega, by omega, by omega, h_n0_0, h_n0_1, h_n0_2, h_n0_3, h_n0_4, ?_⟩
  rintro x hx - hx0
  have hC : chk7 n0_0 n0_1 n0_2 n0_3 n0_4 c0_3 c0_4 = 0 := Classical.byContradiction fun g => g (by rw [if_pos g] at hx; rw [← hx]; exact hx0)
  have hF : fwhZ c0_0 n0_0 (qQq n0_1 (qQq c0_2 (qQq c0_3 (qQq n0_3 0)))) = 0 := by rw [if_neg (fun g => g hC)] at hx; rw [← hx]; exact hx0
  obtain ⟨k1, k2, k3, k4, k5, k6, k7, k8⟩ := chk_zero hC
  obtain ⟨ho, hn⟩ := taken_ok l_n0_0 hF
  clear hx hx0 hF
  simp only [hC, not_true_eq_false, if_false]
  rintro y hy -
  refine ⟨h_n1, k2, k1, h_n2, fun g => absurd hy g, fun _ => ?_⟩
  obtain rfl : n0_0 = y := hy.symm
  obtain ⟨k, rfl⟩ : ∃ k : Nat, n0_0 = k := ⟨n0_0.toNat, by omega⟩
  have hd : decW c0_0 (k : Int) = decC c0_0 k := by unfold decW; rw [Int.toNat_natCast]
  have hok : okC (decC c0_0 k) k ≠ 0 := okC_dec c0_0 k
  rw [hd]
  generalize hLA : likZ c0_1 n0_1 (qQq c0_2 (qQq n0_2 (qQq c1 (qQq n1 0)))) = LA
  generalize hLB : likZ c0_1 n0_1 (qQq c0_2 (qQq n0_2 (qQq c2 (qQq n2 0)))) = LB
  have hA : ∀ j : Int, 0 ≤ j → j < n0_1 → rdZ c0_2 j = 0 → IntKind.wrap .i32 (rdZ LA j) = IntKind.wrap .i32 (rdZ c0_1 j) := fun j j0 j1 e => by rw [← hLA]; exact lik_open j0 j1 e
  have hB : ∀ j : Int, 0 ≤ j → j < n0_1 → rdZ c0_2 j = 0 → IntKind.wrap .i32 (rdZ LB j) = IntKind.wrap .i32 (rdZ c0_1 j) := fun j j0 j1 e => by rw [← hLB]; exact lik_open j0 j1 e
  have z := rq_start (w := c0_0) (nc := k) ho (M := LA) (N := LB) (fun j j0 j1 e => (hB j j0 j1 e).trans (hA j j0 j1 e).symm)
  clear hLA hLB hA hB
  have hz : qQq 0 (zeroZ 31) = zeroZ 32 := rfl
  have hrem : BO.ev .rem .i64 p3 64 ≤ 64 := by
    show p3.tmod 64 ≤ 64
    rw [Int.tmod_eq_emod_of_nonneg l_p3]; omega
  have hp := qKq n0_1 c0_2
  refine ⟨fun i arg ap az ac aq an arm brg bp bs bc bq bn brm m => 0 ≤ i ∧ Rq c0_0 n0_1 c0_2 k (qZy c0_0 k n0_1 c0_2) i ⟨arg, arm, ap, az, ac, aq, an⟩ ⟨brg, brm, bp, bs, bc, bq, bn⟩ ∧ m = (100 - i).toNat, ⟨_, by decide, z, rfl⟩, ?_⟩
  rintro i arg ap az ac aq an arm brg bp bs bc bq bn brm m - ⟨i0, hR, rfl⟩ hi hs
  have hpc : bp = ap := hR.q.ne.pc
  refine ⟨fun g => g hpc.symm, fun _ => ?_⟩
  have hp0 : 0 ≤ ap := hR.pc
  generalize hRA : stepZ (decC c0_0 k) k (qQq arg (qQq arm (qQq n0_1 (qQq ap (qQq az (qQq ac (qQq aq (qQq an 0)))))))) = RA
  generalize hRB : stepZ (decC c0_0 k) k (qQq brg (qQq brm (qQq n0_1 (qQq bp (qQq bs (qQq bc (qQq bq (qQq bn 0)))))))) = RB
  obtain ⟨t1, ⟨t2, t3⟩, ⟨t4, t5⟩, t6, t7⟩ := rq_step (by omega) ho hR (by omega) hs hRA.symm hRB.symm
  have back : an ≤ 999999 ∧ ¬ okC (decC c0_0 k) k = 0 ∧ bn ≤ 999999 ∧ i + 1 ≤ 4611686018427387904 ∧ 0 ≤ IntKind.wrap .i64 (rdZ RA 6) ∧ IntKind.wrap .i64 (rdZ RA 6) ≤ 1000000 ∧ 0 ≤ IntKind.wrap .i64 (rdZ RB 6) ∧ IntKind.wrap .i64 (rdZ RB 6) ≤ 1000000 ∧
      ∃ m', m' < (100 - i).toNat ∧ 0 ≤ i + 1 ∧ Rq c0_0 n0_1 c0_2 k (qZy c0_0 k n0_1 c0_2) (i + 1) ⟨rdZ RA 0, rdZ RA 1, IntKind.wrap .i64 (rdZ RA 2), IntKind.wrap .i64 (rdZ RA 3), IntKind.wrap .i64 (rdZ RA 4), rdZ RA 5, IntKind.wrap .i64 (rdZ RA 6)⟩
        ⟨rdZ RB 0, rdZ RB 1, IntKind.wrap .i64 (rdZ RB 2), IntKind.wrap .i64 (rdZ RB 3), IntKind.wrap .i64 (rdZ RB 4), rdZ RB 5, IntKind.wrap .i64 (rdZ RB 6)⟩ ∧ m' = (100 - (i + 1)).toNat :=
    ⟨t2, hok, t3, by omega, t4, t5, t6, t7, _, by omega, by omega, t1, rfl⟩
  refine ⟨fun r m => 0 ≤ r ∧ m = (32 - r).toNat, ⟨_, by decide, rfl⟩, ?_⟩
  rintro r m - ⟨r0, rfl⟩
  refine ⟨fun hr => ⟨fun hlt => ⟨hp0, fun hb => ⟨fun h => absurd h (by omega), fun _ => ⟨fun hne => ?_, fun _ => ⟨by omega, _, by omega, by omega, rfl⟩⟩⟩, fun _ => ⟨by omega, _, by omega, by omega, rfl⟩⟩, fun _ => back⟩, fun _ => back⟩
  obtain ⟨e1, e2⟩ := sct_rd (w := c0_0) hp.1 hp.2 hp0 hlt
  have hw := qXt .u32 (rdZ (sctZ c0_0 k (qQq n0_1 (qQq c0_2 0))) ap)
  have hnb := (shr_bit (x := IntKind.wrap .u32 (rdZ (sctZ c0_0 k (qQq n0_1 (qQq c0_2 0))) ap)) hw.1 hw.2 r0 hr).1 hb
  rw [qXo, e2 r r0 hr] at hnb
  have hreg := hR.q.ne.rg r r0 hr (fun g => g.elim (fun g => g ⟨hp0, hlt⟩) hnb)
  exact hne hreg.symm

theorem plain (i v ro p) : statR 2 rc tree ⟨i, fN, v, ro, p⟩ = P (i 0) (i 1) (i 2) (i 3) (i 4) (i 5) (i 6) (i 7) (i 8) (i 9) (i 10) (i 11) (i 12) (i 13) (i 14) (i 15) (i 16) (i 17) (i 18) (i 19) (i 20) (i 21) := by kernel_rfl
theorem ran : ranR us (fun f i => if f = 3 then (match i with | 9 => .tmpl (some mk3_9) | 15 => .tmpl (some mk3_15) | _ => .auto) else .auto) rc 2 tree = true := by kernel_rfl
theorem fineT : fineR 2 rc tree = true := by kernel_rfl
theorem ok : RcOk (cxOf 2) rc := okR us_ok ran fineT okb fun i v ro p hρ hcap hpre => by rw [plain]; have q := hρ.hi; exact holds _ _ _ _ _ _ _ _ _ _ _ _ _ _ _ _ _ _ _ _ _ _ (q 0 _ rfl).1 (q 0 _ rfl).2 (q 1 _ rfl).1 (q 1 _ rfl).2 (q 2 _ rfl).1 (q 2 _ rfl).2 (q 3 _ rfl).1 (q 3 _ rfl).2 (q 4 _ rfl).1 (q 4 _ rfl).2 (q 5 _ rfl).1 (q 5 _ rfl).2 (q 6 _ rfl).1 (q 6 _ rfl).2 (q 7 _ rfl).1 (q 7 _ rfl).2 (hcap _ (mg 0 rfl)) (hcap _ (mg 1 rfl)) (hcap _ (mg 2 rfl)) (hcap _ (mg 3 rfl)) (hcap _ (mg 4 rfl)) (hcap _ (mg 5 rfl)) (hcap _ (mg 6 rfl))
theorem laidMet_tail {P : Program} {x : String × DataW Unit} {rest : List (String × DataW Unit)} {W : World} (h : laidMet P (x :: rest) W) : laidMet P rest W := by
  obtain ⟨ps, hl, hn, hf⟩ := h
  obtain ⟨n, d⟩ := x
  obtain ⟨g, t, cs, fuel, p, q, _, _, _, _, hq, rfl⟩ := hl
  exact ⟨q, hq, (List.nodup_append.1 hn).2.1, fun b off hm => hf b off (List.mem_append_right _ hm)⟩
theorem listE_LZ (P : Program) (l : List Int) (ro : List RO) : ∀ zs : List Int, (qQn (zs.map E.c)).ev (envR P l ro) = LZ zs
  | [] => rfl
  | z :: zs => by
    have h : (qQn ((z :: zs).map E.c)).ev (envR P l ro) = qQq z ((qQn (zs.map E.c)).ev (envR P l ro)) := rfl
    rw [h, listE_LZ P l ro zs]
    unfold qQq
    rw [ZL_LZ]
def tab0 : List Int := [1, 1, 1, 1, 1, 1, 1, 1, 1, 1, 1, 1, 1, 1, 1, 1, 1, 3, 3, 3, 3, 2, 2, 1, 1, 1, 1, 1, 1, 1, 1, 1, 1, 2, 2, 1, 1, 1, 3, 3, 3, 1, 1]
theorem tabG0 : Tryz.prog.globalNamed "astrolabe/ops.costs" = some 0 := by kernel_rfl
theorem tabW0 : ∀ z ∈ tab0, IntKind.wrap .i64 z = z := fun z hz => by
  have h := List.all_eq_true.1 (show tab0.all (fun z => decide (IntKind.wrap .i64 z = z)) = true by kernel_rfl) z hz
  simpa using h
theorem tabIs0 {W : World} (h : laidMetH Tryz.prog Rows.flowRegsRow.laid W) : Lib.TabIs Tryz.prog W "astrolabe/ops.costs" .i64 tab0 := by
  rw [MakeChecks.laidMetH_plain _ _ _ (by kernel_rfl)] at h
  exact Lib.tabIs_of_head tabG0 (t := 141) (e := 3) (n := 43) (by kernel_rfl) (by kernel_rfl) (by kernel_rfl) (by kernel_rfl) (by kernel_rfl) h

theorem walk (w : World) (a0_0 : RO) (k0_0 : a0_0.cks = [.int .u32]) (n0_0 : a0_0.a = none → a0_0.n = 0) (m0_0 : a0_0.n ≤ a0_0.cap) (t0_0 : RoAt w a0_0) (b0_0 : (a0_0.n : Int) ≤ 140737488355328) (a0_1 : RO) (k0_1 : a0_1.cks = [.int .i32]) (n0_1 : a0_1.a = none → a0_1.n = 0) (m0_1 : a0_1.n ≤ a0_1.cap) (t0_1 : RoAt w a0_1) (b0_1 : (a0_1.n : Int) ≤ 140737488355328) (a0_2 : RO) (k0_2 : a0_2.cks = [.bool]) (n0_2 : a0_2.a = none → a0_2.n = 0) (m0_2 : a0_2.n ≤ a0_2.cap) (t0_2 : RoAt w a0_2) (b0_2 : (a0_2.n : Int) ≤ 140737488355328) (a0_3 : RO) (k0_3 : a0_3.cks = [.int .i64]) (n0_3 : a0_3.a = none → a0_3.n = 0) (m0_3 : a0_3.n ≤ a0_3.cap) (t0_3 : RoAt w a0_3) (b0_3 : (a0_3.n : Int) ≤ 140737488355328) (a0_4 : RO) (k0_4 : a0_4.cks = [.int .i64]) (n0_4 : a0_4.a = none → a0_4.n = 0) (m0_4 : a0_4.n ≤ a0_4.cap) (t0_4 : RoAt w a0_4) (b0_4 : (a0_4.n : Int) ≤ 140737488355328) (a1 : RO) (k1 : a1.cks = [.int .i32]) (n1 : a1.a = none → a1.n = 0) (m1 : a1.n ≤ a1.cap) (t1 : RoAt w a1) (b1 : (a1.n : Int) ≤ 140737488355328) (a2 : RO) (k2 : a2.cks = [.int .i32]) (n2 : a2.a = none → a2.n = 0) (m2 : a2.n ≤ a2.cap) (t2 : RoAt w a2) (b2 : (a2.n : Int) ≤ 140737488355328) (a3 : Int) (w3 : (Lit.int .u8 a3).wf = true) (tb0 : Lib.TabIs Tryz.prog w "astrolabe/ops.costs" .i64 tab0) :
    Calls Tryz.prog 3 #[.agg #[.slice a0_0.a a0_0.n a0_0.cap, .slice a0_1.a a0_1.n a0_1.cap, .slice a0_2.a a0_2.n a0_2.cap, .slice a0_3.a a0_3.n a0_3.cap, .slice a0_4.a a0_4.n a0_4.cap], .slice a1.a a1.n a1.cap, .slice a2.a a2.n a2.cap, .int .u8 a3] w fun e w' => e = .returned (.bool true) ∧ Below w.heap.size w w' := by
  refine law_of (cx := cxOf 2) ok ⟨rfl, rfl, rfl⟩ (ρ := envR Tryz.prog [(a0_0.n : Int), (a0_1.n : Int), (a0_2.n : Int), (a0_3.n : Int), (a0_4.n : Int), (a1.n : Int), (a2.n : Int), a3, a0_0.c, a0_1.c, a0_2.c, a0_3.c, a0_4.c, a1.c, a2.c, (a0_0.cap : Int), (a0_1.cap : Int), (a0_2.cap : Int), (a0_3.cap : Int), (a0_4.cap : Int), (a1.cap : Int), (a2.cap : Int)] [a0_0, a0_1, a0_2, a0_3, a0_4, a1, a2, tabRo 0 .i64 tab0]) (envR_ok (cx := rc.cx (cxOf 2)) rfl rfl (qKw ⟨Int.natCast_nonneg _, b0_0⟩ (qKw ⟨Int.natCast_nonneg _, b0_1⟩ (qKw ⟨Int.natCast_nonneg _, b0_2⟩ (qKw ⟨Int.natCast_nonneg _, b0_3⟩ (qKw ⟨Int.natCast_nonneg _, b0_4⟩ (qKw ⟨Int.natCast_nonneg _, b1⟩ (qKw ⟨Int.natCast_nonneg _, b2⟩ (qKw (wf_bd w3) (bnd_nil _))))))))) ⟨⟨k0_0, rfl, (Int.toNat_natCast _).symm, (Int.toNat_natCast _).symm, n0_0, fun g h => by cases h⟩, ⟨⟨k0_1, rfl, (Int.toNat_natCast _).symm, (Int.toNat_natCast _).symm, n0_1, fun g h => by cases h⟩, ⟨⟨k0_2, rfl, (Int.toNat_natCast _).symm, (Int.toNat_natCast _).symm, n0_2, fun g h => by cases h⟩, ⟨⟨k0_3, rfl, (Int.toNat_natCast _).symm, (Int.toNat_natCast _).symm, n0_3, fun g h => by cases h⟩, ⟨⟨k0_4, rfl, (Int.toNat_natCast _).symm, (Int.toNat_natCast _).symm, n0_4, fun g h => by cases h⟩, ⟨⟨k1, rfl, (Int.toNat_natCast _).symm, (Int.toNat_natCast _).symm, n1, fun g h => by cases h⟩, ⟨⟨k2, rfl, (Int.toNat_natCast _).symm, (Int.toNat_natCast _).symm, n2, fun g h => by cases h⟩, ⟨⟨rfl, (listE_LZ _ _ _ tab0).symm, rfl, rfl, (fun h => by cases h), fun g h => by cases h; rfl⟩, trivial⟩⟩⟩⟩⟩⟩⟩⟩) (fun d hd => by
    simp only [show qXh rc.b rc.c rc.ls 0 0 0 = [⟨[.int .u32], .v 8, .v 0, .v 15, none⟩, ⟨[.int .i32], .v 9, .v 1, .v 16, none⟩, ⟨[.bool], .v 10, .v 2, .v 17, none⟩, ⟨[.int .i64], .v 11, .v 3, .v 18, none⟩, ⟨[.int .i64], .v 12, .v 4, .v 19, none⟩, ⟨[.int .i32], .v 13, .v 5, .v 20, none⟩, ⟨[.int .i32], .v 14, .v 6, .v 21, none⟩] from rfl, List.mem_cons, List.not_mem_nil, or_false] at hd
    rcases hd with rfl | rfl | rfl | rfl | rfl | rfl | rfl
    · exact Int.ofNat_le.2 m0_0
    · exact Int.ofNat_le.2 m0_1
    · exact Int.ofNat_le.2 m0_2
    · exact Int.ofNat_le.2 m0_3
    · exact Int.ofNat_le.2 m0_4
    · exact Int.ofNat_le.2 m1
    · exact Int.ofNat_le.2 m2) (roOk_of ⟨t0_0, ⟨t0_1, ⟨t0_2, ⟨t0_3, ⟨t0_4, ⟨t1, ⟨t2, ⟨tabRo_at tb0 tabG0 tabW0, trivial⟩⟩⟩⟩⟩⟩⟩⟩) ?_
  rw [show rc.args = [.agg [.sl (.inp 0) 1 (.c 0) (.v 0) (some (.v 15)), .sl (.inp 1) 1 (.c 0) (.v 1) (some (.v 16)), .sl (.inp 2) 1 (.c 0) (.v 2) (some (.v 17)), .sl (.inp 3) 1 (.c 0) (.v 3) (some (.v 18)), .sl (.inp 4) 1 (.c 0) (.v 4) (some (.v 19))], .sl (.inp 5) 1 (.c 0) (.v 5) (some (.v 20)), .sl (.inp 6) 1 (.c 0) (.v 6) (some (.v 21)), .int .u8 (.v 7)] from rfl]
  simp only [SV.denL, SV.den, E.ev, map_addr_zero]
  rfl
theorem lifted (os : Os) (started : os.Started) (H : Type) (enc : TypeId × Value → H) :
    ReturnsInHanded {} Tryz.checked os 3 .any (fun w args => (Rows.flowRegsSpec.pre enc Tryz.prog Tryz.f3 Rows.flowRegsRow.domain false w args ∧ laidMetH Tryz.prog Rows.flowRegsRow.laid w) ∧ sizedMet enc Tryz.prog Tryz.f3 (OpenSpec.ofChange Rows.flowRegsSpec) false w args)
      (Rows.flowRegsSpec.post enc Tryz.prog Tryz.f3 false true false false) := by
  refine returnsInHanded_of_change_and (C := Tryz.checked) (X := fun w _ => laidMetH Tryz.prog Rows.flowRegsRow.laid w) (fun _ _ _ hh h => h.of_heap hh) own started (by kernel_rfl) Tryz.func3
    (ChangeSpec.witness_shaped (enc := enc) (C := Tryz.checked) (os := os) (X := fun w _ => laidMetH Tryz.prog Rows.flowRegsRow.laid w) false (World.laidAll Tryz.prog os Rows.flowRegsRow.laid) #[.agg #[.slice none 0 0, .slice none 0 0, .slice none 0 0, .slice none 0 0, .slice none 0 0], .slice none 0 0, .slice none 0 0, .int .u8 0] 8 (World.laidAll_os _ _ _)
      (World.shaped_of_ZipB (by kernel_rfl) (by kernel_rfl)) (by kernel_rfl) (by kernel_rfl) (by kernel_rfl)
      (by rw [MakeChecks.laidMetH_plain _ _ _ (by kernel_rfl)]; exact laidMet_laidAll _ (by kernel_rfl) (by kernel_rfl))) ?_
  intro W base args ds gs before hval0 hW hcnd hw0 hL _
  have hval : ∀ (j : Nat) t v, Tryz.f3.params[j]? = some t → args[j]? = some v → Value.okWide Tryz.prog W .any base t v := hval0
  have hW' := hW
  obtain ⟨p, q, hA0, hV, rfl, hfz, hnd⟩ := hW
  have hA : DataW.TrodAll enc Tryz.prog W 0 (fun _ => true) true Tryz.f3.params.toList args.toList ds p := hA0
  have hw := hw0
  rw [Tryz.params3] at hA hval hw
  obtain ⟨v0, vs0, d0, ds0, p0, q0, hargs, rfl, rfl, h0, r0⟩ := trodAll_cons hA
  have h0k := h0
  obtain ⟨v1, vs1, d1, ds1, p1, q1, rfl, rfl, rfl, h1, r1⟩ := trodAll_cons r0
  have h1k := h1
  obtain ⟨v2, vs2, d2, ds2, p2, q2, rfl, rfl, rfl, h2, r2⟩ := trodAll_cons r1
  have h2k := h2
  obtain ⟨v3, vs3, d3, ds3, p3, q3, rfl, rfl, rfl, h3, r3⟩ := trodAll_cons r2
  have h3k := h3
  obtain ⟨rfl, rfl, rfl⟩ := trodAll_nil r3
  obtain rfl : args = #[v0, v1, v2, v3] := by cases args; simp_all
  obtain ⟨rfl, rfl⟩ := trodVars_none hV
  obtain ⟨ros0, hl0, rfl, hp0⟩ := Go.Eng.open_rows (kss := [[.int .u32], [.int .i32], [.bool], [.int .i64], [.int .i64]]) Tryz.underlying27 (by kernel_rfl) (by kernel_rfl) ⟨⟨⟨_, Tryz.underlying22, (ElT.one Tryz.underlying40 (by kernel_rfl)), of_decide_eq_true (by kernel_rfl), by kernel_rfl⟩, by decide⟩, ⟨⟨_, Tryz.underlying23, (ElT.one Tryz.underlying21 (by kernel_rfl)), of_decide_eq_true (by kernel_rfl), by kernel_rfl⟩, by decide⟩, ⟨⟨_, Tryz.underlying24, (ElT.one Tryz.underlying4 (by kernel_rfl)), of_decide_eq_true (by kernel_rfl), by kernel_rfl⟩, by decide⟩, ⟨⟨_, Tryz.underlying25, (ElT.one Tryz.underlying3 (by kernel_rfl)), of_decide_eq_true (by kernel_rfl), by kernel_rfl⟩, by decide⟩, ⟨⟨_, Tryz.underlying25, (ElT.one Tryz.underlying3 (by kernel_rfl)), of_decide_eq_true (by kernel_rfl), by kernel_rfl⟩, by decide⟩, trivial⟩ (hval 0 27 v0 rfl rfl) h0 (weights_of (gs := []) hw (j := 0) (t := 27) rfl rfl)
  obtain ⟨a0_0, ros0, rfl⟩ := List.exists_cons_of_length_eq_add_one hl0
  have hl0 := Nat.succ.inj hl0
  obtain ⟨a0_1, ros0, rfl⟩ := List.exists_cons_of_length_eq_add_one hl0
  have hl0 := Nat.succ.inj hl0
  obtain ⟨a0_2, ros0, rfl⟩ := List.exists_cons_of_length_eq_add_one hl0
  have hl0 := Nat.succ.inj hl0
  obtain ⟨a0_3, ros0, rfl⟩ := List.exists_cons_of_length_eq_add_one hl0
  have hl0 := Nat.succ.inj hl0
  obtain ⟨a0_4, ros0, rfl⟩ := List.exists_cons_of_length_eq_add_one hl0
  have hl0 := Nat.succ.inj hl0
  obtain rfl := List.eq_nil_of_length_eq_zero hl0
  obtain ⟨k0_0, n0_0, m0_0, t0_0, b0_0, _⟩ := hp0 0 _ _ rfl rfl
  obtain ⟨k0_1, n0_1, m0_1, t0_1, b0_1, _⟩ := hp0 1 _ _ rfl rfl
  obtain ⟨k0_2, n0_2, m0_2, t0_2, b0_2, _⟩ := hp0 2 _ _ rfl rfl
  obtain ⟨k0_3, n0_3, m0_3, t0_3, b0_3, _⟩ := hp0 3 _ _ rfl rfl
  obtain ⟨k0_4, n0_4, m0_4, t0_4, b0_4, _⟩ := hp0 4 _ _ rfl rfl
  obtain ⟨a1, k1, rfl, n1, m1, t1, b1, _⟩ := Go.Eng.open_row (ks := [.int .i32]) Tryz.underlying23 (ElT.one Tryz.underlying21 (by kernel_rfl)) (by decide) (of_decide_eq_true (by kernel_rfl)) (by kernel_rfl) (hval 1 23 v1 rfl rfl) h1 (weights_of (gs := []) hw (j := 1) (t := 23) rfl rfl)
  obtain ⟨a2, k2, rfl, n2, m2, t2, b2, _⟩ := Go.Eng.open_row (ks := [.int .i32]) Tryz.underlying23 (ElT.one Tryz.underlying21 (by kernel_rfl)) (by decide) (of_decide_eq_true (by kernel_rfl)) (by kernel_rfl) (hval 2 23 v2 rfl rfl) h2 (weights_of (gs := []) hw (j := 2) (t := 23) rfl rfl)
  obtain ⟨a3, rfl, rfl, rfl, w3⟩ := open_int Tryz.underlying5 (hval 3 5 v3 rfl rfl) h3
  clear hA0 hval0
  refine (walk W a0_0 k0_0 n0_0 m0_0 t0_0 b0_0 a0_1 k0_1 n0_1 m0_1 t0_1 b0_1 a0_2 k0_2 n0_2 m0_2 t0_2 b0_2 a0_3 k0_3 n0_3 m0_3 t0_3 b0_3 a0_4 k0_4 n0_4 m0_4 t0_4 b0_4 a1 k1 n1 m1 t1 b1 a2 k2 n2 m2 t2 b2 a3 w3 (tabIs0 hL)).mono fun e W' ⟨he, hg⟩ => ?_
  subst he
  have hin0 : ∀ x ∈ p0, x ∈ p0 ++ (p1 ++ (p2 ++ ([] ++ []))) ++ [] := fun x hx => by simp [hx]
  have hlt0 : ∀ x ∈ p0, x.block < W.heap.size := fun x hx => by simpa using hW'.lt x (by simp [hx])
  have hin1 : ∀ x ∈ p1, x ∈ p0 ++ (p1 ++ (p2 ++ ([] ++ []))) ++ [] := fun x hx => by simp [hx]
  have hlt1 : ∀ x ∈ p1, x.block < W.heap.size := fun x hx => by simpa using hW'.lt x (by simp [hx])
  have hin2 : ∀ x ∈ p2, x ∈ p0 ++ (p1 ++ (p2 ++ ([] ++ []))) ++ [] := fun x hx => by simp [hx]
  have hlt2 : ∀ x ∈ p2, x.block < W.heap.size := fun x hx => by simpa using hW'.lt x (by simp [hx])
  exact ⟨_, rfl, post_below (pa := _) (pv := []) hW' hg (fun _ _ _ => (trodAll_cons_mk (shut_bool Tryz.underlying4 _) trodAll_mk0)) (fun sp hsp => (trodAll_cons_mk (WideElems.Trod_stays laidOut (by kernel_rfl) (of_decide_eq_true (by kernel_rfl)) h0k (fun x hx => hg.same (hlt0 x hx)) (fun x hx => hsp x (hin0 x hx))) (trodAll_cons_mk (WideElems.Trod_stays laidOut (by kernel_rfl) (of_decide_eq_true (by kernel_rfl)) h1k (fun x hx => hg.same (hlt1 x hx)) (fun x hx => hsp x (hin1 x hx))) (trodAll_cons_mk (WideElems.Trod_stays laidOut (by kernel_rfl) (of_decide_eq_true (by kernel_rfl)) h2k (fun x hx => hg.same (hlt2 x hx)) (fun x hx => hsp x (hin2 x hx))) (trodAll_cons_mk (shut_int Tryz.underlying5 w3) trodAll_mk0))))) (fun _ _ => rfl) (by simp)
    (ok_one (by kernel_rfl) rfl (okWide_bool_mk Tryz.underlying4 _))⟩

theorem over : Rows.flowRegsRow.holds Tryz.pinned (OpenSpec.ofChange Rows.flowRegsSpec) :=
  OpenClaim.holds_of_wide 3 Tryz.f3 rfl rfl rfl rfl rfl rfl rfl ⟨rfl, rfl, rfl, rfl, rfl⟩ rfl rfl rfl rfl rfl (by kernel_rfl) Tryz.func3 (by kernel_rfl)
    (of_decide_eq_true (by kernel_rfl)) (by unfold Func.isWrapper; first | (rw [if_pos (by decide +kernel)]; kernel_rfl) | (rw [if_neg (by decide +kernel)]; exact ⟨rfl, rfl⟩))
    (fun os started H enc _ => lifted os started H enc)

/-- the statement -/
theorem proved : Rows.FlowRegsCardSaid :=
  Claim7.holds_tied_plain_at .later [] [.data] true (true, "fe16ccaf7679f17fd8c2d1148c6487f06bfcefc0a9ffeff086c94b0ba25161e2") true
    over (fun _ h => by cases h) (by kernel_rfl) (fun _ h => by cases h) flowRegs_row_tie rfl ⟨rfl, rfl⟩ (by kernel_rfl) rfl
    (fun f fn hf hfn => by
      obtain rfl : f = 3 := Option.some.inj ((show Tryz.prog.funcNamed "astrolabe/astrolabelaw24.FlowRegs" = some 3 by kernel_rfl).symm.trans hf) |>.symm
      obtain rfl : fn = Tryz.f3 := (Option.some.inj (Tryz.func3.symm.trans hfn)).symm
      exact ⟨by kernel_rfl, fun j t ht => by
        rw [Tryz.params3] at ht
        have h3 : t = 5 ∨ t = 23 ∨ t = 27 := by
          rcases j with _ | _ | _ | _ | j
          · exact (.inr (.inr (by simpa using ht.symm)))
          · exact (.inr (.inl (by simpa using ht.symm)))
          · exact (.inr (.inl (by simpa using ht.symm)))
          · exact (.inl (by simpa using ht.symm))
          · simp at ht
        rcases h3 with rfl | rfl | rfl
        · exact (show Tryz.prog.wantsStandIn 5 = false by kernel_rfl)
        · exact (show Tryz.prog.wantsStandIn 23 = false by kernel_rfl)
        · exact (show Tryz.prog.wantsStandIn 27 = false by kernel_rfl)⟩)
    (by kernel_rfl)
#print axioms proved
end Go.Proofs.YteimodjkllldlafGreatDoor.flowRegs
