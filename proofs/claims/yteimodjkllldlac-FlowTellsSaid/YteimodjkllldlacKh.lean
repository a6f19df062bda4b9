/-
  What functions of the program answer, as numbers of what they are handed: their runs by the engine, the plain statements behind them. No condition.
-/
import Derived.Test.YteimodjkllldlacKf
import Derived.Test.YteimodjkllldlacKg
import Derived.Test.YteimodjkllldlacGab
import Derived.Test.YteimodjkllldlacGp4
set_option linter.unusedVariables false
set_option linter.unusedSimpArgs false
set_option maxRecDepth 100000
namespace Go.Proofs.Yteimodjkllldlac
open Go.Eng Go.RowKit
namespace CRLevels
def rc : Rc := ⟨18, [some 5], [.row [.int .u32] 1000000, .row [.int .i32] 1000000, .row [.bool] 1000000, .row [.int .i64] 1000000, .row [.int .i64] 1000000], [(.b .le .i64 (.v 0) (.c 16384)), (.b .le .i64 (.v 1) (.c 2048)), (.b .eq .i64 (.v 2) (.v 1))], .one, [.row [.bool, .bool, .bool, .bool, .bool, .bool, .bool, .bool, .bool, .bool, .bool, .bool, .bool, .bool, .bool, .bool, .bool, .bool, .bool, .bool, .bool, .bool, .bool, .bool, .bool, .bool, .bool, .bool, .bool, .bool, .bool, .bool, .bool] 55 (.f 103 (.v 5) (.v 0) (qQs [(.v 1), (.v 7)])) (.v 0)]⟩
theorem okb : rc.ok = true := by kernel_rfl
def mk18_5 : qZi := [([0, 4], .num (0) (1)), ([1, 1, 0], .code), ([0, 5], .wilds 8), ([0, 23], .wilds 99)]
def mk18_8 : qZi := [([0, 5], .num (0) (4611686018427387904)), ([0, 4], .num (0) (1)), ([1, 1, 0], .code), ([0, 6], .wilds 7), ([0, 24], .wilds 98)]
def mk18_15 : qZi := [([0, 10], .num (0) (4611686018427387904)), ([0, 4], .num (0) (1)), ([1, 1, 0], .code), ([0, 11], .wilds 2), ([0, 60], .wilds 62)]
def mk18_21 : qZi := [([0, 12], .num (0) (4611686018427387904)), ([1, 1, 0], .code), ([0, 87], .wilds 23)]
noncomputable def us : SMs := fun Γ ins n => smH (cxG n Γ ins) [CRBehind.rk.rh] (smR (cxG n Γ ins) [CRDec.rc, CRNext24.rc])
theorem us_ok : SMsOk us := fun Γ ins n => qJx (tabsG n Γ ins) (qXz CRBehind.okh (rh_n CRBehind.ok) (qZc _)) (qJj (tabsG n Γ ins) (qQo CRDec.okb (rc_n CRDec.ok) (qQo CRNext24.okb (rc_n CRNext24.ok) (qZe _))))
def Q0 : E := (.cl 1004 0 4611686018427387904)
def Q1 : E := (tR (.v 5) Q0)
def Q2 : E := (.w .u32 Q1)
def Q3 : E := (tR (.v 1005) Q0)
def Q4 : E := (tp Q0 (.c 1))
def Q5 : E := (tl Q4 (.c 4611686018427387904))
def Q6 : E := (.cl 1007 (-32768) 65535)
def Q7 : E := (.cl 1008 (-32768) 65535)
def Q8 : E := (.cl 1009 (-32768) 65535)
def Q9 : E := (.cl 1010 (-32768) 65535)
def Q10 : E := (.cl 1011 (-32768) 65535)
def Q11 : E := (te Q6 (.c 36))
def Q12 : E := (te Q6 (.c 37))
def Q13 : E := (tp Q11 Q12)
def Q14 : E := (te Q6 (.c 38))
def Q15 : E := (tp Q13 Q14)
def Q16 : E := (.cl 1015 0 4611686018427387904)
def Q17 : E := (tC Q4 (.c 0))
def Q18 : E := (tC Q10 Q17)
def Q19 : E := (te Q6 (.c 39))
def Q20 : E := (te Q6 (.c 40))
def Q21 : E := (tp Q19 Q20)
def Q22 : E := (tC Q10 (.c 0))
def Q23 : E := (.ite Q21 Q22 Q17)
def Q24 : E := (.ite Q15 Q18 Q23)
def Q25 : E := (tR Q24 Q16)
def Q26 : E := (t6 Q25)
def Q27 : E := (tp Q16 (.c 1))
def Q28 : E := (tl Q27 (.c 4611686018427387904))
def Q29 : E := (tR (.v 1016) Q26)
def Q30 : E := (.cl 1018 0 4611686018427387904)
def Q31 : E := (tR Q29 (.c 1))
def Q32 : E := (tR Q29 (.c 2))
def Q33 : E := (tR Q29 (.c 3))
def Q34 : E := (tR Q29 (.c 4))
def Q35 : E := (tR Q29 (.c 5))
def Q36 : E := (tR Q29 (.c 6))
def Q37 : E := (tR Q29 (.c 7))
def Q38 : E := (tR Q29 (.c 8))
def Q39 : E := (tR Q29 (.c 9))
def Q40 : E := (tR Q29 (.c 10))
def Q41 : E := (tR Q29 (.c 11))
def Q42 : E := (tR Q29 (.c 12))
def Q43 : E := (tR Q29 (.c 13))
def Q44 : E := (tR Q29 (.c 14))
def Q45 : E := (tR Q29 (.c 15))
def Q46 : E := (tR Q29 (.c 16))
def Q47 : E := (tR Q29 (.c 17))
def Q48 : E := (tR Q29 (.c 18))
def Q49 : E := (tR Q29 (.c 19))
def Q50 : E := (tR Q29 (.c 20))
def Q51 : E := (tR Q29 (.c 21))
def Q52 : E := (tR Q29 (.c 22))
def Q53 : E := (tR Q29 (.c 23))
def Q54 : E := (tR Q29 (.c 24))
def Q55 : E := (tR Q29 (.c 25))
def Q56 : E := (tR Q29 (.c 26))
def Q57 : E := (tR Q29 (.c 27))
def Q58 : E := (tR Q29 (.c 28))
def Q59 : E := (tR Q29 (.c 29))
def Q60 : E := (tR Q29 (.c 30))
def Q61 : E := (tR Q29 (.c 31))
def Q62 : E := (tR Q29 (.c 32))
def Q63 : E := (.cl 1021 (-9223372036854775808) 9223372036854775807)
def Q64 : E := (tl (.c 0) Q63)
def Q65 : E := (tk Q63 (.v 0))
def Q66 : E := (tp (.c 1) Q30)
def Q67 : E := (tk Q66 (.c 33))
def Q68 : E := (tp Q30 (.c 1))
def Q69 : E := (tl Q68 (.c 4611686018427387904))
def Q70 : E := (tR (.v 1019) Q63)
def Q71 : E := (tC Q3 (.c 0))
def Q72 : E := (tC (.v 7) Q71)
def Q73 : E := (tC (.v 2) Q72)
def Q74 : E := (tC Q10 Q73)
def Q75 : E := (tC Q9 Q74)
def Q76 : E := (tC Q8 Q75)
def Q77 : E := (.f 115 Q6 Q7 Q76)
def Q78 : E := (.cl 1024 (-9223372036854775808) 9223372036854775807)
def Q79 : E := (tR (.v 1019) Q78)
def tree : TT (List E) :=
 (.br (tk (.c 0) (.v 0)) (.loop ⟨1000, [some (0, 1), none], [(.c 1), (.f 14 (.c 0) (.c 0) (.f 14 (.c 0) (.c 0) (.c 1)))], 1027⟩ (.br (.cl 1000 0 1) (.loop ⟨1003, [some (0, 1), some (0, 4611686018427387904), none], [(.c 0), (.c 0), (.v 1001)], 1026⟩ (.br (tk Q0 (.v 0)) (.new 1007 (.f 67 Q2 (.c 0) (.c 0)) (.new 1008 (.f 67 Q2 (.c 1) (.c 0)) (.new 1009 (.f 67 Q2 (.c 2) (.c 0)) (.new 1010 (.f 67 Q2 (.c 3) (.c 0)) (.new 1011 (.f 67 Q2 (.c 4) (.c 0)) (.new 1012 (.f 67 Q2 (.c 5) (.c 0)) (.br (.nt (tR Q3 (.c 0))) (.br Q5 (.back [(.cl 1003 0 1), Q4, (.v 1005)]) (.bad 303)) (.br (tn (.cl 1012 (-32768) 65535) (.c 0)) (.br Q5 (.back [(.cl 1003 0 1), Q4, (.v 1005)]) (.bad 303)) (.br (tl (.c 1) Q6) (.br (tl Q6 (.c 44)) (.br (tl (.c 0) Q7) (.br (tl Q7 (.c 31)) (.br (tl (.c 0) Q8) (.br (tl Q8 (.c 31))
 (.br (tl (.c 0) Q9) (.br (tl Q9 (.c 31)) (.br (tl (.v 0) (.c 16384)) (.br (tl (.v 2) (.c 2048)) (.br (tl (.v 2) (.v 12)) (.br (tp (tp (tn Q6 (.c 34)) (tn Q8 (.c 0))) (tl (.c 0) Q10)) (.br (tl (.v 0) (.v 10)) (.br (tl (.v 1) (.v 11)) (.br (tl (.v 3) (.v 13)) (.br (tl (.v 4) (.v 14)) (.new 1013 (.ite (tp (tp (te Q6 (.c 41)) (te Q6 (.c 43))) (.b .pmul .i64 (.b .pmul .i64 (tp (te Q6 (.c 34)) (te Q6 (.c 35))) (te Q8 (.c 0))) (tl (.v 1) Q10))) (.c 0) (.ite Q15 (.c 2) (.c 1))) (.loop ⟨1014, [some (0, 1), some (0, 4611686018427387904), none], [(.cl 1003 0 1), (.c 0), (.v 1005)], 1025⟩ (.br (tk Q16 (.cl 1013 0 2)) (.br (tl (.v 0) Q26) (.br Q28 (.back [(.cl 1014 0 1), Q27, (.v 1016)]) (.bad 303)) (.br (tl (.c 0) Q26) (.br (tk Q26 (.v 0)) (.loop ⟨1018, [some (0, 4611686018427387904), none], [(.c
 0), (.f 14 (.v 1016) Q26 (.f 14 Q29 (.c 0) (.c 1)))], 1022⟩ (.br (tk Q30 (.c 32)) (.new 1021 Q26 (.br (tR (tC Q31 (tC Q32 (tC Q33 (tC Q34 (tC Q35 (tC Q36 (tC Q37 (tC Q38 (tC Q39 (tC Q40 (tC Q41 (tC Q42 (tC Q43 (tC Q44 (tC Q45 (tC Q46 (tC Q47 (tC Q48 (tC Q49 (tC Q50 (tC Q51 (tC Q52 (tC Q53 (tC Q54 (tC Q55 (tC Q56 (tC Q57 (tC Q58 (tC Q59 (tC Q60 (tC Q61 (tC Q62 (.c 0))))))))))))))))))))))))))))))))) Q30) (.br Q64 (.br Q65 (.br Q67 (.br Q69 (.back [Q68, (.f 14 (.v 1019) Q63 (.f 14 Q70 Q66 (.c 1)))]) (.bad 303)) (.bad 200)) (.bad 200)) (.bad 200)) (.br Q64 (.br Q65 (.br Q67 (.br Q69 (.back [Q68, (.f 14 (.v 1019) Q63 (.f 14 Q70 Q66 (tR (tC (tR Q77 (.c 1)) (tC (tR Q77 (.c 2)) (tC (tR Q77 (.c 3)) (tC (tR Q77 (.c 4)) (tC (tR Q77 (.c 5)) (tC (tR Q77 (.c 6)) (tC (tR Q77 (.c 7)) (tC (tR Q77 (.c 8))
 (tC (tR Q77 (.c 9)) (tC (tR Q77 (.c 10)) (tC (tR Q77 (.c 11)) (tC (tR Q77 (.c 12)) (tC (tR Q77 (.c 13)) (tC (tR Q77 (.c 14)) (tC (tR Q77 (.c 15)) (tC (tR Q77 (.c 16)) (tC (tR Q77 (.c 17)) (tC (tR Q77 (.c 18)) (tC (tR Q77 (.c 19)) (tC (tR Q77 (.c 20)) (tC (tR Q77 (.c 21)) (tC (tR Q77 (.c 22)) (tC (tR Q77 (.c 23)) (tC (tR Q77 (.c 24)) (tC (tR Q77 (.c 25)) (tC (tR Q77 (.c 26)) (tC (tR Q77 (.c 27)) (tC (tR Q77 (.c 28)) (tC (tR Q77 (.c 29)) (tC (tR Q77 (.c 30)) (tC (tR Q77 (.c 31)) (tC (tR Q77 (.c 32)) (.c 0))))))))))))))))))))))))))))))))) Q30)))]) (.bad 303)) (.bad 200)) (.bad 200)) (.bad 200)))) (.exit 0)) (.br (.cl 1014 0 1) (.br Q28 (.back [(.c 1), Q27, (.v 1019)]) (.bad 303)) (.new 1024 Q26 (.br (tl (.c 0) Q78) (.br (tk Q78 (.v 0)) (.br Q28 (.back [(.nt (.ite (te (.nt (tR Q79 (.c 0)))
 (.nt (tR Q29 (.c 0)))) (.ite (te (.nt (tR Q79 (.c 1))) (.nt Q31)) (.ite (te (.nt (tR Q79 (.c 2))) (.nt Q32)) (.ite (te (.nt (tR Q79 (.c 3))) (.nt Q33)) (.ite (te (.nt (tR Q79 (.c 4))) (.nt Q34)) (.ite (te (.nt (tR Q79 (.c 5))) (.nt Q35)) (.ite (te (.nt (tR Q79 (.c 6))) (.nt Q36)) (.ite (te (.nt (tR Q79 (.c 7))) (.nt Q37)) (.ite (te (.nt (tR Q79 (.c 8))) (.nt Q38)) (.ite (te (.nt (tR Q79 (.c 9))) (.nt Q39)) (.ite (te (.nt (tR Q79 (.c 10))) (.nt Q40)) (.ite (te (.nt (tR Q79 (.c 11))) (.nt Q41)) (.ite (te (.nt (tR Q79 (.c 12))) (.nt Q42)) (.ite (te (.nt (tR Q79 (.c 13))) (.nt Q43)) (.ite (te (.nt (tR Q79 (.c 14))) (.nt Q44)) (.ite (te (.nt (tR Q79 (.c 15))) (.nt Q45)) (.ite (te (.nt (tR Q79 (.c 16))) (.nt Q46)) (.ite (te (.nt (tR Q79 (.c 17))) (.nt Q47)) (.ite (te (.nt (tR Q79 (.c 18)))
 (.nt Q48)) (.ite (te (.nt (tR Q79 (.c 19))) (.nt Q49)) (.ite (te (.nt (tR Q79 (.c 20))) (.nt Q50)) (.ite (te (.nt (tR Q79 (.c 21))) (.nt Q51)) (.ite (te (.nt (tR Q79 (.c 22))) (.nt Q52)) (.ite (te (.nt (tR Q79 (.c 23))) (.nt Q53)) (.ite (te (.nt (tR Q79 (.c 24))) (.nt Q54)) (.ite (te (.nt (tR Q79 (.c 25))) (.nt Q55)) (.ite (te (.nt (tR Q79 (.c 26))) (.nt Q56)) (.ite (te (.nt (tR Q79 (.c 27))) (.nt Q57)) (.ite (te (.nt (tR Q79 (.c 28))) (.nt Q58)) (.ite (te (.nt (tR Q79 (.c 29))) (.nt Q59)) (.ite (te (.nt (tR Q79 (.c 30))) (.nt Q60)) (.ite (te (.nt (tR Q79 (.c 31))) (.nt Q61)) (te (.nt (tR Q79 (.c 32))) (.nt Q62)) (.c 0)) (.c 0)) (.c 0)) (.c 0)) (.c 0)) (.c 0)) (.c 0)) (.c 0)) (.c 0)) (.c 0)) (.c 0)) (.c 0)) (.c 0)) (.c 0)) (.c 0)) (.c 0)) (.c 0)) (.c 0)) (.c 0)) (.c 0)) (.c 0)) (.c 0))
 (.c 0)) (.c 0)) (.c 0)) (.c 0)) (.c 0)) (.c 0)) (.c 0)) (.c 0)) (.c 0)) (.c 0))), Q27, (.v 1019)]) (.bad 303)) (.bad 200)) (.bad 200))))) (.bad 200)) (.bad 200))) (.exit 0)) (.br Q5 (.back [(.cl 1014 0 1), Q4, (.v 1016)]) (.bad 303)))) (.bad 200)) (.bad 200)) (.bad 200)) (.bad 200)) (.bad 200)) (.bad 200)) (.bad 200)) (.bad 200)) (.bad 200)) (.bad 200)) (.bad 200)) (.bad 200)) (.bad 200)) (.bad 200)) (.bad 200)) (.bad 200)))))))))) (.exit 0)) (.back [(.cl 1003 0 1), (.v 1005)])) (.exit 0)) (.leaf [(.v 0), (.v 1001)])) (.loop ⟨1000, [some (0, 1), none], [(.c 1), (.c 0)], 1003⟩ (.br (.cl 1000 0 1) (.back [(.c 0), (.v 1001)]) (.exit 0)) (.leaf [(.v 0), (.v 1001)])))
noncomputable def sq0 (y7 y11 y4 y15 : Int) : Int := (W6 (rdZ (iteZ (((Pe y7 36) + (Pe y7 37)) + (Pe y7 38)) (kZ y11 (kZ (y4 + 1) 0)) (iteZ ((Pe y7 39) + (Pe y7 40)) (kZ y11 0) (kZ (y4 + 1) 0))) y15))
noncomputable def sq1 (y7 y8 y9 y10 y11 c h y5 y4 : Int) : Int := (bhcZ y7 y8 (kZ y9 (kZ y10 (kZ y11 (kZ c (kZ h (kZ (rdZ y5 y4) 0)))))))
def P (a b c d e f g h i j k l n o p : Int) : Prop :=
 (Pb (Pl 0 a) (∃ I1000 : Int → Int → Nat → Prop, (∃ m, I1000 1 (updZ 0 0 (updZ 0 0 1)) m) ∧ ∀ y0 y1 : Int, ∀ m0, ((0 ≤ y0 ∧ y0 ≤ 1) ∧ True ∧ True) → I1000 y0 y1 m0 → (Pb y0 (∃ I1003 : Int → Int → Int → Nat → Prop, (∃ m, I1003 0 0 y1 m) ∧ ∀ y3 y4 y5 : Int, ∀ m3, ((0 ≤ y3 ∧ y3 ≤ 1) ∧ (0 ≤ y4 ∧ y4 ≤ 4611686018427387904) ∧ True ∧ True) → I1003 y3 y4 y5 m3 → (Pb (Pl y4 a) (Pn (decZ (U3 (rdZ f y4)) 0) (-32768) 65535 fun y7 => Pn (decZ (U3 (rdZ f y4)) 1) (-32768) 65535 fun y8 => Pn (decZ (U3 (rdZ f y4)) 2) (-32768) 65535 fun y9 => Pn (decZ (U3 (rdZ f y4)) 3) (-32768) 65535 fun y10 => Pn (decZ (U3 (rdZ f y4)) 4) (-32768) 65535 fun y11 => Pn (decZ (U3 (rdZ f y4)) 5) (-32768) 65535 fun y12 => (Pb (Pe (rdZ (rdZ y5 y4) 0) 0) (Pm (PL (y4 + 1) 4611686018427387904) (∃ m', m' < m3 ∧ I1003 y3 (y4 + 1) y5
 m')) (Pb (Pd y12 0) (Pm (PL (y4 + 1) 4611686018427387904) (∃ m', m' < m3 ∧ I1003 y3 (y4 + 1) y5 m')) (Pm (PL 1 y7) (Pm (PL y7 44) (Pm (PL 0 y8) (Pm (PL y8 31) (Pm (PL 0 y9) (Pm (PL y9 31) (Pm (PL 0 y10) (Pm (PL y10 31) (Pm (PL a 16384) (Pm (PL c 2048) (Pm (PL c n) (Pm (((Pd y7 34) + (Pd y9 0)) + (PL 0 y11)) (Pm (PL a k) (Pm (PL b l) (Pm (PL d o) (Pm (PL e p) (Pn (iteZ (((Pe y7 41) + (Pe y7 43)) + ((((Pe y7 34) + (Pe y7 35)) * (Pe y9 0)) * (PL b y11))) 0 (iteZ (((Pe y7 36) + (Pe y7 37)) + (Pe y7 38)) 2 1)) 0 2 fun y13 => ∃ I1014 : Int → Int → Int → Nat → Prop, (∃ m, I1014 y3 0 y5 m) ∧ ∀ y14 y15 y16 : Int, ∀ m14, ((0 ≤ y14 ∧ y14 ≤ 1) ∧ (0 ≤ y15 ∧ y15 ≤ 4611686018427387904) ∧ True ∧ True) → I1014 y14 y15 y16 m14 → (Pb (Pl y15 y13) (Pb (PL a (sq0 y7 y11 y4 y15)) (Pm (PL (y15 + 1)
 4611686018427387904) (∃ m', m' < m14 ∧ I1014 y14 (y15 + 1) y16 m')) (Pm (PL 0 (sq0 y7 y11 y4 y15)) (Pm (Pl (sq0 y7 y11 y4 y15) a) (∃ I1018 : Int → Int → Nat → Prop, (∃ m, I1018 0 (updZ y16 (sq0 y7 y11 y4 y15) (updZ (rdZ y16 (sq0 y7 y11 y4 y15)) 0 1)) m) ∧ ∀ y18 y19 : Int, ∀ m18, ((0 ≤ y18 ∧ y18 ≤ 4611686018427387904) ∧ True ∧ True) → I1018 y18 y19 m18 → (Pb (Pl y18 32) (Pn (sq0 y7 y11 y4 y15) (-9223372036854775808) 9223372036854775807 fun y21 => (Pb (rdZ (kZ (rdZ (rdZ y16 (sq0 y7 y11 y4 y15)) 1) (kZ (rdZ (rdZ y16 (sq0 y7 y11 y4 y15)) 2) (kZ (rdZ (rdZ y16 (sq0 y7 y11 y4 y15)) 3) (kZ (rdZ (rdZ y16 (sq0 y7 y11 y4 y15)) 4) (kZ (rdZ (rdZ y16 (sq0 y7 y11 y4 y15)) 5) (kZ (rdZ (rdZ y16 (sq0 y7 y11 y4 y15)) 6) (kZ (rdZ (rdZ y16 (sq0 y7 y11 y4 y15)) 7) (kZ (rdZ (rdZ y16 (sq0 y7 y11 y4 y15)) 8) (kZ
 (rdZ (rdZ y16 (sq0 y7 y11 y4 y15)) 9) (kZ (rdZ (rdZ y16 (sq0 y7 y11 y4 y15)) 10) (kZ (rdZ (rdZ y16 (sq0 y7 y11 y4 y15)) 11) (kZ (rdZ (rdZ y16 (sq0 y7 y11 y4 y15)) 12) (kZ (rdZ (rdZ y16 (sq0 y7 y11 y4 y15)) 13) (kZ (rdZ (rdZ y16 (sq0 y7 y11 y4 y15)) 14) (kZ (rdZ (rdZ y16 (sq0 y7 y11 y4 y15)) 15) (kZ (rdZ (rdZ y16 (sq0 y7 y11 y4 y15)) 16) (kZ (rdZ (rdZ y16 (sq0 y7 y11 y4 y15)) 17) (kZ (rdZ (rdZ y16 (sq0 y7 y11 y4 y15)) 18) (kZ (rdZ (rdZ y16 (sq0 y7 y11 y4 y15)) 19) (kZ (rdZ (rdZ y16 (sq0 y7 y11 y4 y15)) 20) (kZ (rdZ (rdZ y16 (sq0 y7 y11 y4 y15)) 21) (kZ (rdZ (rdZ y16 (sq0 y7 y11 y4 y15)) 22) (kZ (rdZ (rdZ y16 (sq0 y7 y11 y4 y15)) 23) (kZ (rdZ (rdZ y16 (sq0 y7 y11 y4 y15)) 24) (kZ (rdZ (rdZ y16 (sq0 y7 y11 y4 y15)) 25) (kZ (rdZ (rdZ y16 (sq0 y7 y11 y4 y15)) 26) (kZ (rdZ (rdZ y16 (sq0 y7 y11
 y4 y15)) 27) (kZ (rdZ (rdZ y16 (sq0 y7 y11 y4 y15)) 28) (kZ (rdZ (rdZ y16 (sq0 y7 y11 y4 y15)) 29) (kZ (rdZ (rdZ y16 (sq0 y7 y11 y4 y15)) 30) (kZ (rdZ (rdZ y16 (sq0 y7 y11 y4 y15)) 31) (kZ (rdZ (rdZ y16 (sq0 y7 y11 y4 y15)) 32) 0)))))))))))))))))))))))))))))))) y18) (Pm (PL 0 y21) (Pm (Pl y21 a) (Pm (Pl (1 + y18) 33) (Pm (PL (y18 + 1) 4611686018427387904) (∃ m', m' < m18 ∧ I1018 (y18 + 1) (updZ y19 y21 (updZ (rdZ y19 y21) (1 + y18) 1)) m'))))) (Pm (PL 0 y21) (Pm (Pl y21 a) (Pm (Pl (1 + y18) 33) (Pm (PL (y18 + 1) 4611686018427387904) (∃ m', m' < m18 ∧ I1018 (y18 + 1) (updZ y19 y21 (updZ (rdZ y19 y21) (1 + y18) (rdZ (kZ (rdZ (sq1 y7 y8 y9 y10 y11 c h y5 y4) 1) (kZ (rdZ (sq1 y7 y8 y9 y10 y11 c h y5 y4) 2) (kZ (rdZ (sq1 y7 y8 y9 y10 y11 c h y5 y4) 3) (kZ (rdZ (sq1 y7 y8 y9 y10 y11 c h y5 y4)
 4) (kZ (rdZ (sq1 y7 y8 y9 y10 y11 c h y5 y4) 5) (kZ (rdZ (sq1 y7 y8 y9 y10 y11 c h y5 y4) 6) (kZ (rdZ (sq1 y7 y8 y9 y10 y11 c h y5 y4) 7) (kZ (rdZ (sq1 y7 y8 y9 y10 y11 c h y5 y4) 8) (kZ (rdZ (sq1 y7 y8 y9 y10 y11 c h y5 y4) 9) (kZ (rdZ (sq1 y7 y8 y9 y10 y11 c h y5 y4) 10) (kZ (rdZ (sq1 y7 y8 y9 y10 y11 c h y5 y4) 11) (kZ (rdZ (sq1 y7 y8 y9 y10 y11 c h y5 y4) 12) (kZ (rdZ (sq1 y7 y8 y9 y10 y11 c h y5 y4) 13) (kZ (rdZ (sq1 y7 y8 y9 y10 y11 c h y5 y4) 14) (kZ (rdZ (sq1 y7 y8 y9 y10 y11 c h y5 y4) 15) (kZ (rdZ (sq1 y7 y8 y9 y10 y11 c h y5 y4) 16) (kZ (rdZ (sq1 y7 y8 y9 y10 y11 c h y5 y4) 17) (kZ (rdZ (sq1 y7 y8 y9 y10 y11 c h y5 y4) 18) (kZ (rdZ (sq1 y7 y8 y9 y10 y11 c h y5 y4) 19) (kZ (rdZ (sq1 y7 y8 y9 y10 y11 c h y5 y4) 20) (kZ (rdZ (sq1 y7 y8 y9 y10 y11 c h y5 y4) 21) (kZ (rdZ (sq1 y7
 y8 y9 y10 y11 c h y5 y4) 22) (kZ (rdZ (sq1 y7 y8 y9 y10 y11 c h y5 y4) 23) (kZ (rdZ (sq1 y7 y8 y9 y10 y11 c h y5 y4) 24) (kZ (rdZ (sq1 y7 y8 y9 y10 y11 c h y5 y4) 25) (kZ (rdZ (sq1 y7 y8 y9 y10 y11 c h y5 y4) 26) (kZ (rdZ (sq1 y7 y8 y9 y10 y11 c h y5 y4) 27) (kZ (rdZ (sq1 y7 y8 y9 y10 y11 c h y5 y4) 28) (kZ (rdZ (sq1 y7 y8 y9 y10 y11 c h y5 y4) 29) (kZ (rdZ (sq1 y7 y8 y9 y10 y11 c h y5 y4) 30) (kZ (rdZ (sq1 y7 y8 y9 y10 y11 c h y5 y4) 31) (kZ (rdZ (sq1 y7 y8 y9 y10 y11 c h y5 y4) 32) 0)))))))))))))))))))))))))))))))) y18))) m'))))))) (Pb y14 (Pm (PL (y15 + 1) 4611686018427387904) (∃ m', m' < m14 ∧ I1014 1 (y15 + 1) y19 m')) (Pn (sq0 y7 y11 y4 y15) (-9223372036854775808) 9223372036854775807 fun y24 => (Pm (PL 0 y24) (Pm (Pl y24 a) (Pm (PL (y15 + 1) 4611686018427387904) (∃ m', m' < m14 ∧
 I1014 (Pe (iteZ (Pe (Pe (rdZ (rdZ y19 y24) 0) 0) (Pe (rdZ (rdZ y16 (sq0 y7 y11 y4 y15)) 0) 0)) (iteZ (Pe (Pe (rdZ (rdZ y19 y24) 1) 0) (Pe (rdZ (rdZ y16 (sq0 y7 y11 y4 y15)) 1) 0)) (iteZ (Pe (Pe (rdZ (rdZ y19 y24) 2) 0) (Pe (rdZ (rdZ y16 (sq0 y7 y11 y4 y15)) 2) 0)) (iteZ (Pe (Pe (rdZ (rdZ y19 y24) 3) 0) (Pe (rdZ (rdZ y16 (sq0 y7 y11 y4 y15)) 3) 0)) (iteZ (Pe (Pe (rdZ (rdZ y19 y24) 4) 0) (Pe (rdZ (rdZ y16 (sq0 y7 y11 y4 y15)) 4) 0)) (iteZ (Pe (Pe (rdZ (rdZ y19 y24) 5) 0) (Pe (rdZ (rdZ y16 (sq0 y7 y11 y4 y15)) 5) 0)) (iteZ (Pe (Pe (rdZ (rdZ y19 y24) 6) 0) (Pe (rdZ (rdZ y16 (sq0 y7 y11 y4 y15)) 6) 0)) (iteZ (Pe (Pe (rdZ (rdZ y19 y24) 7) 0) (Pe (rdZ (rdZ y16 (sq0 y7 y11 y4 y15)) 7) 0)) (iteZ (Pe (Pe (rdZ (rdZ y19 y24) 8) 0) (Pe (rdZ (rdZ y16 (sq0 y7 y11 y4 y15)) 8) 0)) (iteZ (Pe (Pe (rdZ (rdZ
 y19 y24) 9) 0) (Pe (rdZ (rdZ y16 (sq0 y7 y11 y4 y15)) 9) 0)) (iteZ (Pe (Pe (rdZ (rdZ y19 y24) 10) 0) (Pe (rdZ (rdZ y16 (sq0 y7 y11 y4 y15)) 10) 0)) (iteZ (Pe (Pe (rdZ (rdZ y19 y24) 11) 0) (Pe (rdZ (rdZ y16 (sq0 y7 y11 y4 y15)) 11) 0)) (iteZ (Pe (Pe (rdZ (rdZ y19 y24) 12) 0) (Pe (rdZ (rdZ y16 (sq0 y7 y11 y4 y15)) 12) 0)) (iteZ (Pe (Pe (rdZ (rdZ y19 y24) 13) 0) (Pe (rdZ (rdZ y16 (sq0 y7 y11 y4 y15)) 13) 0)) (iteZ (Pe (Pe (rdZ (rdZ y19 y24) 14) 0) (Pe (rdZ (rdZ y16 (sq0 y7 y11 y4 y15)) 14) 0)) (iteZ (Pe (Pe (rdZ (rdZ y19 y24) 15) 0) (Pe (rdZ (rdZ y16 (sq0 y7 y11 y4 y15)) 15) 0)) (iteZ (Pe (Pe (rdZ (rdZ y19 y24) 16) 0) (Pe (rdZ (rdZ y16 (sq0 y7 y11 y4 y15)) 16) 0)) (iteZ (Pe (Pe (rdZ (rdZ y19 y24) 17) 0) (Pe (rdZ (rdZ y16 (sq0 y7 y11 y4 y15)) 17) 0)) (iteZ (Pe (Pe (rdZ (rdZ y19 y24) 18) 0)
 (Pe (rdZ (rdZ y16 (sq0 y7 y11 y4 y15)) 18) 0)) (iteZ (Pe (Pe (rdZ (rdZ y19 y24) 19) 0) (Pe (rdZ (rdZ y16 (sq0 y7 y11 y4 y15)) 19) 0)) (iteZ (Pe (Pe (rdZ (rdZ y19 y24) 20) 0) (Pe (rdZ (rdZ y16 (sq0 y7 y11 y4 y15)) 20) 0)) (iteZ (Pe (Pe (rdZ (rdZ y19 y24) 21) 0) (Pe (rdZ (rdZ y16 (sq0 y7 y11 y4 y15)) 21) 0)) (iteZ (Pe (Pe (rdZ (rdZ y19 y24) 22) 0) (Pe (rdZ (rdZ y16 (sq0 y7 y11 y4 y15)) 22) 0)) (iteZ (Pe (Pe (rdZ (rdZ y19 y24) 23) 0) (Pe (rdZ (rdZ y16 (sq0 y7 y11 y4 y15)) 23) 0)) (iteZ (Pe (Pe (rdZ (rdZ y19 y24) 24) 0) (Pe (rdZ (rdZ y16 (sq0 y7 y11 y4 y15)) 24) 0)) (iteZ (Pe (Pe (rdZ (rdZ y19 y24) 25) 0) (Pe (rdZ (rdZ y16 (sq0 y7 y11 y4 y15)) 25) 0)) (iteZ (Pe (Pe (rdZ (rdZ y19 y24) 26) 0) (Pe (rdZ (rdZ y16 (sq0 y7 y11 y4 y15)) 26) 0)) (iteZ (Pe (Pe (rdZ (rdZ y19 y24) 27) 0) (Pe (rdZ (rdZ
 y16 (sq0 y7 y11 y4 y15)) 27) 0)) (iteZ (Pe (Pe (rdZ (rdZ y19 y24) 28) 0) (Pe (rdZ (rdZ y16 (sq0 y7 y11 y4 y15)) 28) 0)) (iteZ (Pe (Pe (rdZ (rdZ y19 y24) 29) 0) (Pe (rdZ (rdZ y16 (sq0 y7 y11 y4 y15)) 29) 0)) (iteZ (Pe (Pe (rdZ (rdZ y19 y24) 30) 0) (Pe (rdZ (rdZ y16 (sq0 y7 y11 y4 y15)) 30) 0)) (iteZ (Pe (Pe (rdZ (rdZ y19 y24) 31) 0) (Pe (rdZ (rdZ y16 (sq0 y7 y11 y4 y15)) 31) 0)) (Pe (Pe (rdZ (rdZ y19 y24) 32) 0) (Pe (rdZ (rdZ y16 (sq0 y7 y11 y4 y15)) 32) 0)) 0) 0) 0) 0) 0) 0) 0) 0) 0) 0) 0) 0) 0) 0) 0) 0) 0) 0) 0) 0) 0) 0) 0) 0) 0) 0) 0) 0) 0) 0) 0) 0) 0) (y15 + 1) y19 m'))))))))))) (Pm (PL (y4 + 1) 4611686018427387904) (∃ m', m' < m3 ∧ I1003 y14 (y4 + 1) y16 m'))))))))))))))))))))))) (∃ m', m' < m0 ∧ I1000 y3 y5 m'))) ((a : Int) = a ∧ qQf [.bool, .bool, .bool, .bool, .bool, .bool,
 .bool, .bool, .bool, .bool, .bool, .bool, .bool, .bool, .bool, .bool, .bool, .bool, .bool, .bool, .bool, .bool, .bool, .bool, .bool, .bool, .bool, .bool, .bool, .bool, .bool, .bool, .bool] y1 (levZ f a (kZ b (kZ h 0))) a ∧ True))) (∃ I1000 : Int → Int → Nat → Prop, (∃ m, I1000 1 0 m) ∧ ∀ y0 y1 : Int, ∀ m0, ((0 ≤ y0 ∧ y0 ≤ 1) ∧ True ∧ True) → I1000 y0 y1 m0 → (Pb y0 (∃ m', m' < m0 ∧ I1000 0 y1 m') ((a : Int) = a ∧ qQf [.bool, .bool, .bool, .bool, .bool, .bool, .bool, .bool, .bool, .bool, .bool, .bool, .bool, .bool, .bool, .bool, .bool, .bool, .bool, .bool, .bool, .bool, .bool, .bool, .bool, .bool, .bool, .bool, .bool, .bool, .bool, .bool, .bool] y1 (levZ f a (kZ b (kZ h 0))) a ∧ True))))
set_option maxHeartbeats 4000000 in
theorem holds (n0_0 n0_1 n0_2 n0_3 n0_4 c0_0 c0_1 c0_2 c0_3 c0_4 r0_0 r0_1 r0_2 r0_3 r0_4 : Int) (l_n0_0 : 0 ≤ n0_0) (u_n0_0 : n0_0 ≤ 1000000) (l_n0_1 : 0 ≤ n0_1) (u_n0_1 : n0_1 ≤ 1000000) (l_n0_2 : 0 ≤ n0_2) (u_n0_2 : n0_2 ≤ 1000000) (l_n0_3 : 0 ≤ n0_3) (u_n0_3 : n0_3 ≤ 1000000) (l_n0_4 : 0 ≤ n0_4) (u_n0_4 : n0_4 ≤ 1000000) (h_n0_0 : n0_0 ≤ r0_0) (h_n0_1 : n0_1 ≤ r0_1) (h_n0_2 : n0_2 ≤ r0_2) (h_n0_3 : n0_3 ≤ r0_3) (h_n0_4 : n0_4 ≤ r0_4) (h_pre0 : qQz (decide (n0_0  ≤  16384)) ≠ 0) (h_pre1 : qQz (decide (n0_1  ≤  2048)) ≠ 0) (h_pre2 : qQz (n0_2  ==  n0_1) ≠ 0) : P n0_0 n0_1 n0_2 n0_3 n0_4 c0_0 c0_1 c0_2 c0_3 c0_4 r0_0 r0_1 r0_2 r0_3 r0_4 := by
 delta P sq0 sq1 Pb Pm Pn PL Pl Pe Pd W6 U3 kZ
 simp only [c32_def, same33_def]
 simp only [nrm, nro, Int.reduceEq, Int.reduceNeg, reduceIte]
 have hc0 : n0_0 ≤ 16384 := by simpa [qQz] using h_pre0
 have hn2 : n0_2 = n0_1 := by simpa [qQz] using h_pre2
 have hn1 : n0_1 ≤ 2048 := by simpa [qQz] using h_pre1
 clear h_pre0 h_pre1 h_pre2
 subst hn2
 refine ⟨fun hpos => ?_, fun hz => ?_⟩
 ·refine ⟨fun ch q m => Below c0_0 n0_0 n0_2 c0_2 q ∧ bT q 0 0 ∧ (ch = 0 → qQf (List.replicate 33 .bool) q (levZ c0_0 n0_0 (qQq n0_2 (qQq c0_2 0))) n0_0) ∧ m = 2 * (33 * n0_0.toNat - cntP q n0_0.toNat) + ch.toNat,
   ⟨_, below_q0 hpos, (q0_bT (by decide) (by decide)).2 ⟨rfl, rfl⟩, fun h => absurd h (by decide), rfl⟩, ?_⟩
  rintro ch q m ⟨ch0, ch1⟩ ⟨hB, hS, hR, rfl⟩
  refine ⟨fun hch => ?_, fun hch => hR hch⟩
  refine ⟨fun c pc q' m => (0 ≤ pc ∧ pc ≤ n0_0) ∧ SwP c0_0 n0_0 n0_2 c0_2 q q' c pc ∧ m = (n0_0 - pc).toNat, ⟨_, ⟨by omega, by omega⟩, sw_start hB (fun _ => hS), rfl⟩, ?_⟩
  rintro c pc q' m ⟨⟨cl0, cl1⟩, -, -⟩ ⟨⟨p0, p1⟩, hW, rfl⟩
  refine ⟨fun hlt => ?_, fun hge => ?_⟩
  ·rintro op hop - d hd - a ha - b hb - n hn - e he -
   refine ⟨fun hre => ⟨by omega, _, ?_, ⟨by omega, by omega⟩, sw_skip hW (fun g => g.1 hre), rfl⟩, fun hre => ⟨fun hE => ⟨by omega, _, ?_, ⟨by omega, by omega⟩, sw_skip hW (fun g => hE (he.trans g.2)), rfl⟩, fun hE => ?_⟩⟩
   ·omega
   ·omega
   have h5 : decZ (IntKind.wrap .u32 (rdZ c0_0 pc)) 5 = 0 := he.symm.trans hE
   obtain ⟨⟨o0, o1⟩, ⟨d0, d1⟩, ⟨a0, a1⟩, ⟨b0, b1⟩, ⟨n0, n1⟩⟩ := dec_in (rdZ c0_0 pc) h5
   have hn0 := dec_n0 h5
   rw [← hop, ← hn] at hn0
   rw [← hop] at o0 o1
   rw [← hd] at d0 d1
   rw [← ha] at a0 a1
   rw [← hb] at b0 b1
   rw [← hn] at n0 n1
   refine ⟨by omega, by omega, by omega, by omega, by omega, by omega, by omega, by omega, by omega, by omega, by omega, ?_, by omega, by omega, by omega, by omega, ?_⟩
   ·by_cases g : op = 34
    ·have : 0 ≤ n := hn0 (by omega)
     rw [bo2, if_pos this]
     unfold qQz
     (repeat' split) <;> omega
    ·rw [bo2]
     unfold qQz
     (repeat' split) <;> simp_all <;> omega
   rintro nn hnn -
   generalize hRR : (if ¬ qQz (op == 36) + qQz (op == 37) + qQz (op == 38) = 0 then qQq n (qQq (pc + 1) 0) else if ¬ qQz (op == 39) + qQz (op == 40) = 0 then qQq n 0 else qQq (pc + 1) 0) = R
   have hw : IntKind.wrap .i64 (pc + 1) = pc + 1 := w64 (by omega) (by omega)
   obtain ⟨⟨nn0, nn1⟩, hT1, hT2⟩ := nx_list (nr := n0_2) (op := op) (a := a) (n := n) (pc := pc) (R := R) p0 (by omega) n0 n1 hnn (by rw [hw]; exact hRR.symm)
   obtain ⟨T, hT⟩ : ∃ T : Int → Int, ∀ j, IntKind.wrap .i64 (rdZ R j) = T j := ⟨_, fun _ => rfl⟩
   simp only [hT] at hT1 hT2 ⊢
   generalize hBB : bhcZ op d (qQq a (qQq b (qQq n (qQq n0_2 (qQq c0_2 (qQq (rdZ q' pc) 0)))))) = B
   have hbe : ∀ r, 0 ≤ r → r < 32 → (rdZ B (1 + r) ≠ 0 ↔ behS n0_2 c0_2 op d a b n (fun r => bT q' pc (1 + r)) r) := fun r r0 r1 => by rw [← hBB]; exact bh_at r0 r1
   refine ⟨fun c2 j q2 m => (0 ≤ j ∧ j ≤ nn) ∧ SwK c0_0 n0_0 n0_2 c0_2 q q' pc (fun r => rdZ B (1 + r) ≠ 0) T q2 c2 j ∧ m = (nn - j).toNat, ⟨_, ⟨by omega, by omega⟩, sk_start hW, rfl⟩, ?_⟩
   rintro c2 j q2 m ⟨⟨k0, k1⟩, -, -⟩ ⟨⟨j0, j1⟩, hK, rfl⟩
   refine ⟨fun jl => ⟨fun tge => ⟨by omega, _, ?_, ⟨by omega, by omega⟩, sk_skip hK (by omega), rfl⟩, fun tlt => ?_⟩, fun jge => ⟨by omega, _, ?_, ⟨by omega, by omega⟩, ?_, rfl⟩⟩
   ·omega
   ·have hnx := hT1 j j0 jl
    have t0 : 0 ≤ T j := by
     rcases hnx.2 with ⟨h, g | g⟩ | ⟨h, g⟩ | ⟨_, g⟩
     ·rw [g]; exact hn0 (by omega)
     ·omega
     ·rw [g]; exact hn0 (by omega)
     ·omega
    refine ⟨t0, tlt, ?_⟩
    refine ⟨fun r Q m => (0 ≤ r ∧ r ≤ 32) ∧ UpS q2 Q (T j) (fun r => bT q2 (T j) (1 + r) ∨ rdZ B (1 + r) ≠ 0) r ∧ m = (32 - r).toNat, ⟨_, ⟨by decide, by decide⟩, ups_start t0 (by decide), rfl⟩, ?_⟩
    rintro r Q m ⟨-, -⟩ ⟨⟨r0, r1⟩, hU, rfl⟩
    refine ⟨fun rl => ?_, fun rge => ?_⟩
    ·rintro _ rfl -
     rw [c32_at _ r0 rl, c32_at _ r0 rl]
     refine ⟨fun hw => ⟨t0, tlt, by omega, by omega, _, ?_, ⟨by omega, by omega⟩, ups_step hU t0 r0 ⟨fun _ => .inl hw, fun _ => by decide⟩, rfl⟩,
      fun hw => ⟨t0, tlt, by omega, by omega, _, ?_, ⟨by omega, by omega⟩, ups_step hU t0 r0 ⟨fun g => .inr g, fun g => g.elim (fun k => absurd hw k) id⟩, rfl⟩⟩
     ·omega
     ·omega
    ·obtain rfl : r = 32 := by omega
     have hUp : UpQ q2 Q (T j) (fun r => rdZ B (1 + r) ≠ 0) := ups_end hU (fun r _ _ => Iff.rfl)
     have step : ∀ c', (c' = 0 ↔ c2 = 0 ∧ ∀ f, 0 ≤ f → f < 33 → (bT Q (T j) f ↔ bT q2 (T j) f)) → SwK c0_0 n0_0 n0_2 c0_2 q q' pc (fun r => rdZ B (1 + r) ≠ 0) T Q c' (j + 1) := fun c' h =>
      sk_up hK p0 hlt hW.be hre h5 (by rw [← hop, ← ha, ← hn]; exact hnx) t0 tlt hUp (fun r r0 r1 g => by rw [← hop, ← hd, ← ha, ← hb, ← hn]; exact (hbe r r0 r1).1 g) h
     refine ⟨fun hc => ⟨by omega, _, ?_, ⟨by omega, by omega⟩, step 1 ⟨fun k => absurd k (by decide), fun k => absurd k.1 hc⟩, rfl⟩, fun hc => ?_⟩
     ·omega
     ·rintro _ rfl -
      refine ⟨t0, tlt, by omega, _, ?_, ⟨by omega, by omega⟩, step _ ?_, rfl⟩
      ·omega
      ·have hs := same33_ne (rdZ Q (T j)) (rdZ q2 (T j))
       have hb0 : ∀ x : Int, qQz (x == 0) = 0 ↔ x ≠ 0 := fun x => by unfold qQz; by_cases e : x = 0 <;> simp [e]
       rw [hb0, hs]
       exact ⟨fun h => ⟨hc, h⟩, fun h => h.2⟩
   ·omega
   ·obtain rfl : j = nn := by omega
    exact sk_end hK h5 p0 hlt (fun t ht => by rw [← hop, ← ha, ← hn] at ht; exact hT2 t ht) (fun r r0 r1 g => by rw [← hop, ← hd, ← ha, ← hb, ← hn] at g; exact (hbe r r0 r1).2 g)
  ·refine ⟨_, ?_, hW.be, hW.st hpos, fun e => sw_done hW hge (by omega) e, rfl⟩
   have := hW.le
   have := cntP_le q' n0_0.toNat
   by_cases e : c = 0
   ·omega
   ·have := hW.lt e
    omega
 ·refine ⟨fun ch q m => m = ch.toNat, ⟨_, rfl⟩, ?_⟩
  rintro ch q m ⟨ch0, ch1⟩ rfl
  exact ⟨fun hch => ⟨_, by omega, rfl⟩, fun _ => rowEq_nil _ _ _ hz⟩
theorem plain (i v ro p) : statR 2 rc tree ⟨i, fN, v, ro, p⟩ = P (i 0) (i 1) (i 2) (i 3) (i 4) (i 5) (i 6) (i 7) (i 8) (i 9) (i 10) (i 11) (i 12) (i 13) (i 14) := by kernel_rfl
theorem ran : ranR us (fun f i => if f = 18 then (match i with | 5 => .tmpl (some mk18_5) | 8 => .autoT mk18_8 | 15 => .tmpl (some mk18_15) | 21 => .tmpl (some mk18_21) | _ => .auto) else .auto) rc 2 tree = true := by kernel_rfl
theorem fineT : fineR 2 rc tree = true := by kernel_rfl
theorem ok : RcOk (cxOf 2) rc := okR us_ok ran fineT okb fun i v ro p hρ hcap hpre => by rw [plain]; have q := hρ.hi; exact holds _ _ _ _ _ _ _ _ _ _ _ _ _ _ _ (q 0 _ rfl).1 (q 0 _ rfl).2 (q 1 _ rfl).1 (q 1 _ rfl).2 (q 2 _ rfl).1 (q 2 _ rfl).2 (q 3 _ rfl).1 (q 3 _ rfl).2 (q 4 _ rfl).1 (q 4 _ rfl).2 (hcap _ (mg 0 rfl)) (hcap _ (mg 1 rfl)) (hcap _ (mg 2 rfl)) (hcap _ (mg 3 rfl)) (hcap _ (mg 4 rfl)) (hpre _ (mg 0 rfl)) (hpre _ (mg 1 rfl)) (hpre _ (mg 2 rfl))
end CRLevels
end Go.Proofs.Yteimodjkllldlac
