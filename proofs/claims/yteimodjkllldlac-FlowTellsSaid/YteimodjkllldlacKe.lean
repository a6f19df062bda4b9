/-
  What functions of the program answer, as numbers of what they are handed: their runs by the engine, the plain statements behind them. No condition.
-/
import Derived.Test.YteimodjkllldlacKa
import Derived.Test.YteimodjkllldlacKb
import Derived.Test.YteimodjkllldlacKc
import Derived.Test.YteimodjkllldlacKd
import Derived.Test.YteimodjkllldlacGab
import Derived.Test.YteimodjkllldlacGp5
import Derived.Test.YteimodjkllldlacGp1
set_option linter.unusedVariables false
set_option linter.unusedSimpArgs false
set_option maxRecDepth 100000
namespace Go.Proofs.Yteimodjkllldlac
open Go.Eng Go.RowKit
namespace CFSecrets
def rc : Rc := ⟨9, [some 5], [.row [.int .u32] 1000000, .row [.int .i32] 1000000, .row [.bool] 1000000, .row [.int .i64] 1000000, .row [.int .i64] 1000000], [], .one, [.row [.int .u32] 36 (.f 109 (.v 5) (.v 0) (qQs [(.v 1), (.v 7)])) (.ite (.b .ne .i64 (.f 84 (.v 0) (.v 1) (qQs [(.v 2), (.v 3), (.v 4), (.v 8), (.v 9)])) (.c 0)) (.c 0) (.v 0))]⟩
theorem okb : rc.ok = true := by kernel_rfl
def mk14_3 : qZi := [([0, 18], .num (0) (4611686018427387904)), ([1, 2, 5], .arr [.int .i64, .int .i64, .int .i64, .int .i64, .int .i64] 50), ([0, 5], .wilds 3), ([0, 19], .wilds 19)]
def mk15_1 : qZi := [([1, 3, 0], .code), ([1, 2, 9], .arr [.int .i64] 3), ([0, 2], .wilds 2), ([0, 6], .wilds 18)]
def mk9_7 : qZi := [([0, 19], .num (0) (4611686018427387904)), ([0, 4], .arr [.int .u32] 36), ([0, 6], .wilds 1), ([0, 20], .wilds 9)]
noncomputable def us : SMs := fun Γ ins n => smH (cxG n Γ ins) [CHDown.rk.rh, CHUp.rk.rh, CLPass.rk.rh] (smR (cxG n Γ ins) [CICheck.rc, CCDec.rc, CSCon.rc])
theorem us_ok : SMsOk us := fun Γ ins n => qJx (tabsG n Γ ins) (qXz CHDown.okh (rh_n CHDown.ok) (qXz CHUp.okh (rh_n CHUp.ok) (qXz CLPass.okh (rh_n CLPass.ok) (qZc _)))) (qJj (tabsG n Γ ins) (qQo CICheck.okb (rc_n CICheck.ok) (qQo CCDec.okb (rc_n CCDec.ok) (qQo CSCon.okb (rc_n CSCon.ok) (qZe _)))))
def Q0 : E := (.cl 1001 0 4611686018427387904)
def Q1 : E := (tR (.v 5) Q0)
def Q2 : E := (.w .u32 Q1)
def Q3 : E := (.cl 1003 0 1000000)
def Q4 : E := (tp Q3 (.c 1))
def Q5 : E := (tl Q4 (.c 1000000))
def Q6 : E := (tp Q0 (.c 1))
def Q7 : E := (.cl 1014 0 1000000)
def Q8 : E := (tk (.c 0) Q7)
def Q9 : E := (.b .psub .i64 Q7 (.c 1))
def Q10 : E := (tl (.c 0) Q9)
def Q11 : E := (tk Q9 Q7)
def Q12 : E := (tR (.v 1013) Q9)
def Q13 : E := (t6 Q12)
def Q14 : E := (tp Q9 (.c 1))
def Q15 : E := (tl Q14 Q7)
def Q16 : E := (tl Q9 Q7)
def Q17 : E := (.cl 1017 (-9223372036854775808) 9223372036854775807)
def Q18 : E := (.f 14 (.v 1013) (.c 0) Q17)
def Q19 : E := (tR (.v 1013) (.c 0))
def Q20 : E := (t6 Q19)
def Q21 : E := (.f 14 Q18 Q9 Q20)
def Q22 : E := (.f 107 Q21 Q9 (.c 0))
def Q23 : E := (tR Q22 Q9)
def Q24 : E := (t6 Q23)
def Q25 : E := (tl (.c 0) Q24)
def Q26 : E := (tl Q24 (.c 16383))
def Q27 : E := (tl Q3 (.c 16384))
def Q28 : E := (tl (.v 1) (.c 2048))
def Q29 : E := (tl (.v 2) (.c 2048))
def Q30 : E := (tl Q9 (.c 999990))
def Q31 : E := (tl (.v 0) (.c 16384))
def Q32 : E := (.cl 1018 (-9223372036854775808) 9223372036854775807)
def Q33 : E := (tp Q32 (.c 1))
def Q34 : E := (tl Q33 Q3)
def Q35 : E := (te (.v 0) Q3)
def Q36 : E := (tR (.v 1002) Q32)
def Q37 : E := (tR Q36 (.c 0))
def Q38 : E := (t6 Q37)
def Q39 : E := (tl (.c 0) Q38)
def Q40 : E := (tl Q38 (.c 43))
def Q41 : E := (tR Q36 (.c 1))
def Q42 : E := (t6 Q41)
def Q43 : E := (tl (.c 0) Q42)
def Q44 : E := (tl Q42 (.c 31))
def Q45 : E := (tR Q36 (.c 2))
def Q46 : E := (t6 Q45)
def Q47 : E := (tl (.c 0) Q46)
def Q48 : E := (tl Q46 (.c 31))
def Q49 : E := (tR Q36 (.c 3))
def Q50 : E := (t6 Q49)
def Q51 : E := (tl (.c 0) Q50)
def Q52 : E := (tl Q50 (.c 31))
def Q53 : E := (tR Q36 (.c 4))
def Q54 : E := (t6 Q53)
def Q55 : E := (tl (.c (-32768)) Q54)
def Q56 : E := (tl Q54 (.c 65535))
def Q57 : E := (te Q38 (.c 31))
def Q58 : E := (tl (.c 0) Q54)
def Q59 : E := (tp Q57 Q58)
def Q60 : E := (.f 113 (.v 7) (.v 2) (.c 1))
def Q61 : E := (tR (.v 1015) Q32)
def Q62 : E := (tR Q61 (.c 1))
def Q63 : E := (.w .u32 Q62)
def Q64 : E := (tC Q9 (.c 0))
def Q65 : E := (tC Q22 Q64)
def Q66 : E := (tC (.v 1015) Q65)
def Q67 : E := (tC Q63 Q66)
def Q68 : E := (tC Q60 Q67)
def Q69 : E := (tC (.v 7) Q68)
def Q70 : E := (tC (.v 2) Q69)
def Q71 : E := (tC Q3 Q70)
def Q72 : E := (tC Q32 Q71)
def Q73 : E := (tC Q54 Q72)
def Q74 : E := (tC Q50 Q73)
def Q75 : E := (tC Q46 Q74)
def Q76 : E := (.f 116 Q38 Q42 Q75)
def Q77 : E := (tR Q76 (.c 2))
def Q78 : E := (tl (.c 0) Q77)
def Q79 : E := (tl Q77 (.c 1000000))
def Q80 : E := (tR Q76 (.c 1))
def Q81 : E := (tR Q76 (.c 0))
def Q82 : E := (.cl 1023 0 4611686018427387904)
def Q83 : E := (tk Q82 (.v 0))
def Q84 : E := (.cl 1022 0 1000000)
def Q85 : E := (tp Q84 (.c 1))
def Q86 : E := (tl Q85 (.c 1000000))
def Q87 : E := (tp Q82 (.c 1))
def Q88 : E := (tl Q87 (.c 4611686018427387904))
def Q89 : E := (tR (.v 1015) Q82)
def Q90 : E := (tR Q89 (.c 1))
def Q91 : E := (.w .u32 Q90)
def Q92 : E := (.f 14 (.v 1021) Q84 Q91)
def tree : TT (List E) :=
 (.br (tl (.v 0) (.v 10)) (.br (tl (.v 1) (.v 11)) (.br (tl (.v 2) (.v 12)) (.br (tl (.v 3) (.v 13)) (.br (tl (.v 4) (.v 14)) (.new 1000 (.f 84 (.v 0) (.v 1) (tC (.v 2) (tC (.v 3) (tC (.v 4) (tC (.v 8) (tC (.v 9) (.c 0))))))) (.br (tn (.cl 1000 0 9) (.c 0)) (.leaf [(.c 0), (.c 0)]) (.loop ⟨1001, [some (0, 4611686018427387904), none, some (0, 1000000)], [(.c 0), (.c 0), (.c 0)], 1011⟩ (.br (tk Q0 (.v 0)) (.new 1005 (.f 67 Q2 (.c 0) (.c 0)) (.new 1006 (.f 67 Q2 (.c 1) (.c 0)) (.new 1007 (.f 67 Q2 (.c 2) (.c 0)) (.new 1008 (.f 67 Q2 (.c 3) (.c 0)) (.new 1009 (.f 67 Q2 (.c 4) (.c 0)) (.new 1010 (.f 67 Q2 (.c 5) (.c 0)) (.br Q5 (.br (tl Q6 (.c 4611686018427387904)) (.br Q5 (.back [Q6, (.f 14 (.v 1002) Q3 (tC (.cl 1005 (-32768) 65535) (tC (.cl 1006 (-32768) 65535) (tC (.cl 1007 (-32768) 65535)
 (tC (.cl 1008 (-32768) 65535) (tC (.cl 1009 (-32768) 65535) (.c 0))))))), Q4]) (.bad 303)) (.bad 303)) (.bad 200)))))))) (.exit 0)) (.br (tl Q3 (.c 0)) (.loop ⟨1013, [none, some (0, 1000000), none], [(.c 0), (.c 0), (.c 0)], 1019⟩ (.br Q8 (.br Q10 (.br Q11 (.new 1017 Q13 (.br Q15 (.br Q16 (.br Q25 (.br Q26 (.br Q27 (.br Q28 (.br Q29 (.br Q30 (.br Q31 (.new 1018 Q24 (.br Q34 (.br (te (.v 2) (.v 1)) (.br Q35 (.br Q39 (.br Q40 (.br Q43 (.br Q44 (.br Q47 (.br Q48 (.br Q51 (.br Q52 (.br Q55 (.br Q56 (.br Q59 (.br Q78 (.br Q79 (.back [Q80, Q77, Q81]) (.bad 303)) (.bad 303)) (.bad 200)) (.bad 200)) (.bad 200)) (.bad 200)) (.bad 200)) (.bad 200)) (.bad 200)) (.bad 200)) (.bad 200)) (.bad 200)) (.bad 200)) (.bad 200)) (.bad 200)) (.bad 200))) (.bad 200)) (.bad 200)) (.bad 200)) (.bad 200)) (.bad
 200)) (.bad 200)) (.bad 200)) (.bad 200)) (.bad 200))) (.bad 200)) (.bad 200)) (.exit 0)) (.loop ⟨1021, [none, some (0, 1000000), some (0, 4611686018427387904)], [(.c 0), (.c 0), (.c 0)], 1025⟩ (.br Q83 (.br Q86 (.br Q86 (.br Q88 (.back [Q92, Q85, Q87]) (.bad 303)) (.bad 303)) (.bad 200)) (.exit 0)) (.leaf [Q84, (.v 1021)]))) (.br (tk (.c 0) (.v 0)) (.loop ⟨1013, [none, some (0, 1000000), none], [(tC (.c 0) (.c 0)), (.c 1), (.f 14 (.c 0) (.c 0) (tC (.c 1) (tC (.c 0) (.c 0))))], 1019⟩ (.br Q8 (.br Q10 (.br Q11 (.new 1017 Q13 (.br Q15 (.br Q16 (.br Q25 (.br Q26 (.br Q27 (.br Q28 (.br Q29 (.br Q30 (.br Q31 (.new 1018 Q24 (.br Q34 (.br (te (.v 2) (.v 1)) (.br Q35 (.br Q39 (.br Q40 (.br Q43 (.br Q44 (.br Q47 (.br Q48 (.br Q51 (.br Q52 (.br Q55 (.br Q56 (.br Q59 (.br Q78 (.br Q79 (.back [Q80,
 Q77, Q81]) (.bad 303)) (.bad 303)) (.bad 200)) (.bad 200)) (.bad 200)) (.bad 200)) (.bad 200)) (.bad 200)) (.bad 200)) (.bad 200)) (.bad 200)) (.bad 200)) (.bad 200)) (.bad 200)) (.bad 200)) (.bad 200))) (.bad 200)) (.bad 200)) (.bad 200)) (.bad 200)) (.bad 200)) (.bad 200)) (.bad 200)) (.bad 200)) (.bad 200))) (.bad 200)) (.bad 200)) (.exit 0)) (.loop ⟨1021, [none, some (0, 1000000), some (0, 4611686018427387904)], [(.c 0), (.c 0), (.c 0)], 1025⟩ (.br Q83 (.br Q86 (.br Q86 (.br Q88 (.back [Q92, Q85, Q87]) (.bad 303)) (.bad 303)) (.bad 200)) (.exit 0)) (.leaf [Q84, (.v 1021)]))) (.bad 200)))))) (.bad 200)) (.bad 200)) (.bad 200)) (.bad 200)) (.bad 200))
noncomputable def sq0 (y2 y18 y3 c h y15 y13 y17 y14 : Int) : Int := (lpsZ (W6 (rdZ (rdZ y2 y18) 0)) (W6 (rdZ (rdZ y2 y18) 1)) (kZ (W6 (rdZ (rdZ y2 y18) 2)) (kZ (W6 (rdZ (rdZ y2 y18) 3)) (kZ (W6 (rdZ (rdZ y2 y18) 4)) (kZ y18 (kZ y3 (kZ c (kZ h (kZ (anyZ h c 1) (kZ (U3 (rdZ (rdZ y15 y18) 1)) (kZ y15 (kZ (hdnZ (updZ (updZ y13 0 y17) (y14 - 1) (W6 (rdZ y13 0))) (y14 - 1)) (kZ (y14 - 1) 0)))))))))))))
noncomputable def sq1 (y13 y17 y14 : Int) : Int := (W6 (rdZ (hdnZ (updZ (updZ y13 0 y17) (y14 - 1) (W6 (rdZ y13 0))) (y14 - 1)) (y14 - 1)))
def sL0 (a b c d e i j f h z0 z2 z4 : Int) : Prop := (z0 : Int) = (iteZ (Pd (chkZ a b (kZ c (kZ d (kZ e (kZ i (kZ j 0)))))) 0) 0 a) ∧ qQf [.int .u32] z2 (sctZ f a (kZ b (kZ h 0))) z4 ∧ True
def sq2 (y14 y13 y3 b c a y2 h y15 d e i j f : Int) (m13 : Nat) (I1013 : Int → Int → Int → Nat → Prop) : Prop := (Pb (Pl 0 y14) (Pm (PL 0 (y14 - 1)) (Pm (Pl (y14 - 1) y14) (Pn (W6 (rdZ y13 (y14 - 1))) (-9223372036854775808) 9223372036854775807 fun y17 => (Pm (PL ((y14 - 1) + 1) y14) (Pm (PL (y14 - 1) y14) (Pm (PL 0 (sq1 y13 y17 y14)) (Pm (PL (sq1 y13 y17 y14) 16383) (Pm (PL y3 16384) (Pm (PL b 2048) (Pm (PL c 2048) (Pm (PL (y14 - 1) 999990) (Pm (PL a 16384) (Pn (sq1 y13 y17 y14) (-9223372036854775808) 9223372036854775807 fun y18 => (Pm (PL (y18 + 1) y3) (Pm (Pe c b) (Pm (Pe a y3) (Pm (PL 0 (W6 (rdZ (rdZ y2 y18) 0))) (Pm (PL (W6 (rdZ (rdZ y2 y18) 0)) 43) (Pm (PL 0 (W6 (rdZ (rdZ y2 y18) 1))) (Pm (PL (W6 (rdZ (rdZ y2 y18) 1)) 31) (Pm (PL 0 (W6 (rdZ (rdZ y2 y18) 2))) (Pm (PL (W6 (rdZ (rdZ y2
 y18) 2)) 31) (Pm (PL 0 (W6 (rdZ (rdZ y2 y18) 3))) (Pm (PL (W6 (rdZ (rdZ y2 y18) 3)) 31) (Pm (PL (-32768) (W6 (rdZ (rdZ y2 y18) 4))) (Pm (PL (W6 (rdZ (rdZ y2 y18) 4)) 65535) (Pm ((Pe (W6 (rdZ (rdZ y2 y18) 0)) 31) + (PL 0 (W6 (rdZ (rdZ y2 y18) 4)))) (Pm (PL 0 (rdZ (sq0 y2 y18 y3 c h y15 y13 y17 y14) 2)) (Pm (PL (rdZ (sq0 y2 y18 y3 c h y15 y13 y17 y14) 2) 1000000) (∃ m', m' < m13 ∧ I1013 (rdZ (sq0 y2 y18 y3 c h y15 y13 y17 y14) 1) (rdZ (sq0 y2 y18 y3 c h y15 y13 y17 y14) 2) (rdZ (sq0 y2 y18 y3 c h y15 y13 y17 y14) 0) m')))))))))))))))))))))))))))))) (∃ I1021 : Int → Int → Int → Nat → Prop, (∃ m, I1021 0 0 0 m) ∧ ∀ y21 y22 y23 : Int, ∀ m21, (True ∧ (0 ≤ y22 ∧ y22 ≤ 1000000) ∧ (0 ≤ y23 ∧ y23 ≤ 4611686018427387904) ∧ True) → I1021 y21 y22 y23 m21 → (Pb (Pl y23 a) (Pm (PL (y22 + 1) 1000000) (Pm
 (PL (y22 + 1) 1000000) (Pm (PL (y23 + 1) 4611686018427387904) (∃ m', m' < m21 ∧ I1021 (updZ y21 y22 (U3 (rdZ (rdZ y15 y23) 1))) (y22 + 1) (y23 + 1) m')))) (sL0 a b c d e i j f h y22 y21 y22))))
def P (a b c d e f g h i j k l n o p : Int) : Prop :=
 (Pm (PL a k) (Pm (PL b l) (Pm (PL c n) (Pm (PL d o) (Pm (PL e p) (Pn (chkZ a b (kZ c (kZ d (kZ e (kZ i (kZ j 0)))))) 0 9 fun y0 => (Pb (Pd y0 0) (sL0 a b c d e i j f h 0 0 0) (∃ I1001 : Int → Int → Int → Nat → Prop, (∃ m, I1001 0 0 0 m) ∧ ∀ y1 y2 y3 : Int, ∀ m1, ((0 ≤ y1 ∧ y1 ≤ 4611686018427387904) ∧ True ∧ (0 ≤ y3 ∧ y3 ≤ 1000000) ∧ True) → I1001 y1 y2 y3 m1 → (Pb (Pl y1 a) (Pn (decZ (U3 (rdZ f y1)) 0) (-32768) 65535 fun y5 => Pn (decZ (U3 (rdZ f y1)) 1) (-32768) 65535 fun y6 => Pn (decZ (U3 (rdZ f y1)) 2) (-32768) 65535 fun y7 => Pn (decZ (U3 (rdZ f y1)) 3) (-32768) 65535 fun y8 => Pn (decZ (U3 (rdZ f y1)) 4) (-32768) 65535 fun y9 => Pn (decZ (U3 (rdZ f y1)) 5) (-32768) 65535 fun y10 => (Pm (PL (y3 + 1) 1000000) (Pm (PL (y1 + 1) 4611686018427387904) (Pm (PL (y3 + 1) 1000000) (∃ m', m' <
 m1 ∧ I1001 (y1 + 1) (updZ y2 y3 (kZ y5 (kZ y6 (kZ y7 (kZ y8 (kZ y9 0)))))) (y3 + 1) m'))))) (Pb (PL y3 0) (∃ I1013 : Int → Int → Int → Nat → Prop, (∃ m, I1013 0 0 0 m) ∧ ∀ y13 y14 y15 : Int, ∀ m13, (True ∧ (0 ≤ y14 ∧ y14 ≤ 1000000) ∧ True ∧ True) → I1013 y13 y14 y15 m13 → (sq2 y14 y13 y3 b c a y2 h y15 d e i j f m13 I1013)) (Pm (Pl 0 a) (∃ I1013 : Int → Int → Int → Nat → Prop, (∃ m, I1013 (kZ 0 0) 1 (updZ 0 0 (kZ 1 (kZ 0 0))) m) ∧ ∀ y13 y14 y15 : Int, ∀ m13, (True ∧ (0 ≤ y14 ∧ y14 ≤ 1000000) ∧ True ∧ True) → I1013 y13 y14 y15 m13 → (sq2 y14 y13 y3 b c a y2 h y15 d e i j f m13 I1013)))))))))))))
set_option maxHeartbeats 4000000 in
theorem holds (n0_0 n0_1 n0_2 n0_3 n0_4 c0_0 c0_1 c0_2 c0_3 c0_4 r0_0 r0_1 r0_2 r0_3 r0_4 : Int) (l_n0_0 : 0 ≤ n0_0) (u_n0_0 : n0_0 ≤ 1000000) (l_n0_1 : 0 ≤ n0_1) (u_n0_1 : n0_1 ≤ 1000000) (l_n0_2 : 0 ≤ n0_2) (u_n0_2 : n0_2 ≤ 1000000) (l_n0_3 : 0 ≤ n0_3) (u_n0_3 : n0_3 ≤ 1000000) (l_n0_4 : 0 ≤ n0_4) (u_n0_4 : n0_4 ≤ 1000000) (h_n0_0 : n0_0 ≤ r0_0) (h_n0_1 : n0_1 ≤ r0_1) (h_n0_2 : n0_2 ≤ r0_2) (h_n0_3 : n0_3 ≤ r0_3) (h_n0_4 : n0_4 ≤ r0_4) : P n0_0 n0_1 n0_2 n0_3 n0_4 c0_0 c0_1 c0_2 c0_3 c0_4 r0_0 r0_1 r0_2 r0_3 r0_4 := by
 delta P sq0 sq1 sq2 sL0 Pb Pm Pn PL Pl Pe Pd W6 U3 kZ
 simp only [nrm, nro, Int.reduceEq, Int.reduceNeg, reduceIte]
 refine ⟨h_n0_0, h_n0_1, h_n0_2, h_n0_3, h_n0_4, ?_⟩
 rintro x rfl -
 simp only [chk_ev]
 generalize hC : chk7 n0_0 n0_1 n0_2 n0_3 n0_4 c0_3 c0_4 = C
 refine ⟨fun h => ⟨by rw [if_pos h], rowEq_nil _ _ _ (Int.le_refl _)⟩, fun h => ?_⟩
 obtain ⟨k1, k2, k3, k4, k5, k6, k7, k8⟩ := chk_zero (hC.trans h)
 have i0 : ∀ x y : Int, (if ¬ C = 0 then x else y) = y := fun x y => if_neg (fun g => g h)
 simp only [i0]
 subst k5
 refine ⟨fun i q n m => (0 ≤ i ∧ i ≤ n0_0) ∧ n = i ∧ InsOk c0_0 q i ∧ m = (n0_0 - i).toNat, ⟨_, ⟨by decide, l_n0_0⟩, rfl, fun j _ _ => by omega, rfl⟩, ?_⟩
 rintro i q n m - ⟨⟨z0, z1⟩, e, hQ, rfl⟩
 subst e
 refine ⟨fun hi => ?_, fun hi => ?_⟩
 ·rintro _ rfl - _ rfl - _ rfl - _ rfl - _ rfl - _ rfl -
  exact ⟨by omega, by omega, by omega, _, by omega, ⟨by omega, by omega⟩, rfl, ins_snoc hQ z0, rfl⟩
 obtain rfl : n0_0 = n := by omega
 refine ⟨fun hz => ?_, fun hz => ?_⟩
 ·refine ⟨fun _ k _ _ => k = 0, ⟨0, rfl⟩, ?_⟩
  rintro W k V m - rfl
  refine ⟨fun g => absurd g (by decide), fun _ => ?_⟩
  refine ⟨fun _ k j _ => k = 0 ∧ 0 ≤ j, ⟨0, rfl, by decide⟩, ?_⟩
  rintro c k j m - ⟨rfl, hj⟩
  exact ⟨fun g => absurd g (by omega), fun g => ⟨by omega, rowEq_nil _ _ _ (Int.le_refl _)⟩⟩
 refine ⟨hz, ?_⟩
 refine ⟨fun W k V m => Wk c0_0 n0_0 n0_2 c0_2 V W k (fun _ => False) ∧ m = mWk V n0_0 k, ⟨_, wk_init hz, rfl⟩, ?_⟩
 rintro W k V m - ⟨hW, rfl⟩
 have hb := wk_bd hW k1
 refine ⟨fun hk => ?_, fun hk => ?_⟩
 ·obtain ⟨w1, w2, x0, x1, xr, xe⟩ := wk_pop hW hk
  refine ⟨by omega, by omega, ?_⟩
  rintro _ rfl -
  have sw : updZ (updZ W 0 (IntKind.wrap .i64 (rdZ W (k - 1)))) (k - 1) (IntKind.wrap .i64 (rdZ W 0)) = swpZ W 0 (k - 1) := rfl
  simp only [sw, xe]
  generalize hdnZ (swpZ W 0 (k - 1)) (k - 1) = W' at w1 ⊢
  generalize IntKind.wrap .i64 (rdZ W 0) = x at w1 x0 x1 xr ⊢
  refine ⟨by omega, by omega, x0, by omega, by omega, k2, by omega, by omega, k1, ?_⟩
  rintro x rfl -
  have hq := hQ x x0 x1
  rw [hq 0 (by decide) (by decide), hq 1 (by decide) (by decide), hq 2 (by decide) (by decide), hq 3 (by decide) (by decide), hq 4 (by decide) (by decide)]
  simp only [dec_w64]
  obtain ⟨⟨o0, o1⟩, ⟨d0, d1⟩, ⟨a0, a1⟩, ⟨b0, b1⟩, ⟨n0, n1⟩, np⟩ := dec_all (rdZ c0_0 x)
  refine ⟨by omega, trivial, trivial, o0, o1, d0, d1, a0, a1, b0, b1, n0, n1, ?_, ?_⟩
  ·rw [bo1, bo2]
   (repeat' split) <;> omega
  generalize hR : lpsZ _ _ _ = R
  obtain ⟨r0, r1, r2⟩ := lps_ev hR.symm
  obtain ⟨g1, g2⟩ := pass_ok w1 k1 x0 x1 xr rfl rfl rfl rfl rfl rfl rfl rfl
  rw [← r0, ← r1, ← r2] at g1
  rw [← r0, ← r2] at g2
  have hb2 := wk_bd g1 k1
  exact ⟨by omega, by omega, _, by omega, g1, rfl⟩
 obtain rfl : k = 0 := by omega
 have hz2 := qXr n0_2 c0_2
 refine ⟨fun c k j m => (0 ≤ j ∧ j ≤ n0_0) ∧ k = j ∧ (∀ i, 0 ≤ i → i < j → IntKind.wrap .u32 (rdZ c i) = IntKind.wrap .u32 (rdZ (sctZ c0_0 n0_0 (qQq n0_2 (qQq c0_2 0))) i)) ∧ m = (n0_0 - j).toNat, ⟨_, ⟨by decide, by omega⟩, rfl, fun i _ _ => by omega, rfl⟩, ?_⟩
 rintro c k j m - ⟨⟨j0, j1⟩, e, hI, rfl⟩
 subst e
 refine ⟨fun hj => ⟨by omega, by omega, by omega, _, by omega, ⟨by omega, by omega⟩, rfl, fun i i0 i1 => ?_, rfl⟩, fun hj => ⟨by omega, row_u fun i i0 i1 => hI i i0 (by omega)⟩⟩
 rw [qQh]
 by_cases e : i = k
 ·subst e
  rw [if_pos rfl, Go.Eng.wrap_wrap .u32 .u32 _ (by decide), wk_row hW hz2.1 hz2.2 i0 (by omega), (sct_rd hz2.1 hz2.2 i0 (by omega)).1]
 ·rw [if_neg (by omega)]; exact hI i i0 (by omega)
theorem plain (i v ro p) : statR 1002 rc tree ⟨i, fN, v, ro, p⟩ = P (i 0) (i 1) (i 2) (i 3) (i 4) (i 5) (i 6) (i 7) (i 8) (i 9) (i 10) (i 11) (i 12) (i 13) (i 14) := by kernel_rfl
theorem ran : ranR us (fun f i => match f, i with | 14, 3 => .tmpl (some mk14_3) | 15, 1 => .tmpl (some mk15_1) | 9, 7 => .tmpl (some mk9_7) | _, _ => .auto) rc 1002 tree = true := by kernel_rfl
theorem fineT : fineR 1002 rc tree = true := by kernel_rfl
theorem ok : RcOk (cxOf 1002) rc := okR us_ok ran fineT okb fun i v ro p hρ hcap hpre => by rw [plain]; have q := hρ.hi; exact holds _ _ _ _ _ _ _ _ _ _ _ _ _ _ _ (q 0 _ rfl).1 (q 0 _ rfl).2 (q 1 _ rfl).1 (q 1 _ rfl).2 (q 2 _ rfl).1 (q 2 _ rfl).2 (q 3 _ rfl).1 (q 3 _ rfl).2 (q 4 _ rfl).1 (q 4 _ rfl).2 (hcap _ (mg 0 rfl)) (hcap _ (mg 1 rfl)) (hcap _ (mg 2 rfl)) (hcap _ (mg 3 rfl)) (hcap _ (mg 4 rfl))
end CFSecrets
namespace CAwake24
def rc : Rc := ⟨5, [], [], [], .one, [.bool (.c 1)]⟩
theorem okb : rc.ok = true := by kernel_rfl
noncomputable def us : SMs := fun Γ ins n => smH (cxG n Γ ins) [] (smR (cxG n Γ ins) [CFCheck.rc, CFSecrets.rc])
theorem us_ok : SMsOk us := fun Γ ins n => qJx (tabsG n Γ ins) (qZc _) (qJj (tabsG n Γ ins) (qQo CFCheck.okb (rc_n CFCheck.ok) (qQo CFSecrets.okb (rc_n CFSecrets.ok) (qZe _))))
def Q0 : E := (tC (.c 0) (.c 0))
def Q1 : E := (tC (.c 0) Q0)
def Q2 : E := (tC (.c 0) Q1)
def Q3 : E := (tC (.c 0) Q2)
def Q4 : E := (tC (.c 1) Q3)
def Q5 : E := (.f 84 (.c 3) (.c 1) Q4)
def Q6 : E := (tn Q5 (.c 0))
def Q7 : E := (tC (.c 2885681152) (.c 0))
def Q8 : E := (tC (.c 2418016256) Q7)
def Q9 : E := (tC (.c 2283798528) Q8)
def Q10 : E := (tC (.c 1) (.c 0))
def Q11 : E := (tC Q10 Q1)
def Q12 : E := (tC (.c 1) Q11)
def Q13 : E := (tC Q0 Q1)
def Q14 : E := (tC (.c 1) Q13)
def tree : TT (List E) :=
 (.new 1000 (.ite Q6 (.c 0) (.c 3)) (.new 1001 (.ite Q6 Q5 (.f 104 Q9 (.c 3) Q12)) (.br (.ite (te (.cl 1001 0 12) (.c 12)) (te (.ite Q6 (.c (-1)) (.f 105 Q9 (.c 3) Q12)) (.c 1)) (.c 0)) (.new 1002 (.ite Q6 Q5 (.f 104 Q9 (.c 3) Q14)) (.br (.ite (te (.cl 1002 0 12) (.c 0)) (te (.ite Q6 (.c (-1)) (.f 105 Q9 (.c 3) Q14)) (.c 0)) (.c 0)) (.br (te (.cl 1000 0 3) (.c 3)) (.br (tk (.c 1) (.cl 1000 0 3)) (.leaf [(te (.w .u32 (tR (.f 109 Q9 (.c 3) (tC (.c 1) (tC Q10 (.c 0)))) (.c 1))) (.c 2))]) (.bad 200)) (.leaf [(.c 0)])) (.leaf [(.c 0)]))) (.leaf [(.c 0)]))))
noncomputable def sq0 : Int := (chkZ 3 1 (kZ 1 (kZ 0 (kZ 0 (kZ 0 (kZ 0 0))))))
noncomputable def sq1 : Int := (kZ 2283798528 (kZ 2418016256 (kZ 2885681152 0)))
def P : Prop :=
 Pn (iteZ (Pd sq0 0) 0 3) 0 3 fun y0 => Pn (iteZ (Pd sq0 0) sq0 (fwhZ sq1 3 (kZ 1 (kZ (kZ 1 0) (kZ 0 (kZ 0 0)))))) 0 12 fun y1 => (Pb (iteZ (Pe y1 12) (Pe (iteZ (Pd sq0 0) (-1) (fpcZ sq1 3 (kZ 1 (kZ (kZ 1 0) (kZ 0 (kZ 0 0)))))) 1) 0) (Pn (iteZ (Pd sq0 0) sq0 (fwhZ sq1 3 (kZ 1 (kZ (kZ 0 0) (kZ 0 (kZ 0 0)))))) 0 12 fun y2 => (Pb (iteZ (Pe y2 0) (Pe (iteZ (Pd sq0 0) (-1) (fpcZ sq1 3 (kZ 1 (kZ (kZ 0 0) (kZ 0 (kZ 0 0)))))) 0) 0) (Pb (Pe y0 3) (Pm (Pl 1 y0) ((((Pe (U3 (rdZ (sctZ sq1 3 (kZ 1 (kZ (kZ 1 0) 0))) 1)) 2) : Int) ≠ 0 ↔ (1 : Int) ≠ 0) ∧ True)) Pf) Pf)) Pf)
set_option maxHeartbeats 1000000 in
theorem holds : P := by
 delta P sq0 sq1 Pb Pm Pn Pf Pl Pe Pd U3 kZ
 simp only [nrm, nro, Int.reduceEq, Int.reduceNeg, reduceIte]
 simp only [chk_ev, ex_chk]
 have eW : qQq 2283798528 (qQq 2418016256 (qQq 2885681152 0)) = exW := rfl
 simp only [eW]
 have h1 : rdZ (qQq 1 0) 0 ≠ 0 := by rw [qQy]; decide
 have h0 : rdZ (qQq 0 0) 0 = 0 := qQy _ _
 obtain ⟨a1, a2⟩ := fwh_ev (w := exW) (nc := 3) (nr := 1) (cS := qQq 1 0) (cI := 0) (nI := 0) rfl (ex_fpc1 h1)
 obtain ⟨b1, b2⟩ := fwh_ev (w := exW) (nc := 3) (nr := 1) (cS := qQq 0 0) (cI := 0) (nI := 0) rfl (ex_fpc0 h0)
 have hp := qXr 1 (qQq 1 0)
 have hw := ex_word (z := qQq 1 (qQq (qQq 1 0) 0)) hp.1 hp.2 h1
 rw [a1, a2, b1, b2, hw]
 rintro y hy - z hz -
 have hy : y = 3 := by rw [hy]; decide
 have hz : z = 12 := by rw [hz]; decide
 subst hy hz
 refine ⟨by decide, ?_⟩
 rintro u hu -
 have hu : u = 0 := by rw [hu]; decide
 subst hu
 exact ⟨by decide, rfl, by decide, rfl⟩
theorem plain (i v ro p) : statR 2 rc tree ⟨i, fN, v, ro, p⟩ = P  := by kernel_rfl
theorem ran : ranR us (fun _ _ => .auto) rc 2 tree = true := by kernel_rfl
theorem fineT : fineR 2 rc tree = true := by kernel_rfl
theorem ok : RcOk (cxOf 2) rc := okR us_ok ran fineT okb fun i v ro p hρ hcap hpre => by rw [plain]; have q := hρ.hi; exact holds
end CAwake24
namespace CRAddrs
def rc : Rc := ⟨34, [none, none], [.row [.int .i64] 1000000, .int .i64], [], .one, [.bool (.f 85 (.v 2) (.v 0) (.v 1))]⟩
theorem okb : rc.ok = true := by kernel_rfl
noncomputable def us : SMs := fun Γ ins n => smH (cxG n Γ ins) [] (smR (cxG n Γ ins) [])
theorem us_ok : SMsOk us := fun Γ ins n => qJx (tabsG n Γ ins) (qZc _) (qJj (tabsG n Γ ins) (qZe _))
def tree : TT (List E) :=
(.loop ⟨1000, [some (0, 4611686018427387904)], [(.c 0)], 1002⟩
 (.br (.b .lt .i64 (.cl 1000 0 4611686018427387904) (.v 0))
 (.br (.b .lt .i64 (.w .i64 (.f 13 (.v 2) (.cl 1000 0 4611686018427387904) (.c 0))) (.c 0))
 (.exit 0)
 (.br (.b .le .i64 (.v 1) (.w .i64 (.f 13 (.v 2) (.cl 1000 0 4611686018427387904) (.c 0))))
 (.exit 1)
 (.br (.b .le .i64 (.b .padd .i64 (.cl 1000 0 4611686018427387904) (.c 1)) (.c 4611686018427387904))
 (.back [(.b .padd .i64 (.cl 1000 0 4611686018427387904) (.c 1))])
 (.bad 303))))
 (.exit 2))
 (.br (.b .eq .i64 (.v 1002) (.c 0))
 (.leaf [(.c 0)])
 (.br (.b .eq .i64 (.v 1002) (.c 1))
 (.leaf [(.c 0)])
 (.leaf [(.c 1)]))))
def P (n0 p1 c0 r0 : Int) : Prop :=
 ∃ I1000 : Int → Nat → Prop, (∃ m, I1000 0 m) ∧
 ∀ y1000 : Int, ∀ m1000, ((0 ≤ y1000 ∧ y1000 ≤ 4611686018427387904) ∧ True) → I1000 y1000 m1000 →
  (((qQz (decide (y1000 < n0))) ≠ 0 →
   (((qQz (decide ((IntKind.wrap .i64 (rdZ c0 y1000)) < 0))) ≠ 0 →
    (((qQz ((0 : Int) == 0)) ≠ 0 →
     ((0 : Int) ≠ 0 ↔ ((adZ c0 n0 p1) : Int) ≠ 0) ∧ True) ∧ ((qQz ((0 : Int) == 0)) = 0 →
     (((qQz ((0 : Int) == 1)) ≠ 0 →
      ((0 : Int) ≠ 0 ↔ ((adZ c0 n0 p1) : Int) ≠ 0) ∧ True) ∧ ((qQz ((0 : Int) == 1)) = 0 →
      ((1 : Int) ≠ 0 ↔ ((adZ c0 n0 p1) : Int) ≠ 0) ∧ True))))) ∧ ((qQz (decide ((IntKind.wrap .i64 (rdZ c0 y1000)) < 0))) = 0 →
    (((qQz (decide (p1 ≤ (IntKind.wrap .i64 (rdZ c0 y1000))))) ≠ 0 →
     (((qQz ((1 : Int) == 0)) ≠ 0 →
      ((0 : Int) ≠ 0 ↔ ((adZ c0 n0 p1) : Int) ≠ 0) ∧ True) ∧ ((qQz ((1 : Int) == 0)) = 0 →
      (((qQz ((1 : Int) == 1)) ≠ 0 →
       ((0 : Int) ≠ 0 ↔ ((adZ c0 n0 p1) : Int) ≠ 0) ∧ True) ∧ ((qQz ((1 : Int) == 1)) = 0 →
       ((1 : Int) ≠ 0 ↔ ((adZ c0 n0 p1) : Int) ≠ 0) ∧ True))))) ∧ ((qQz (decide (p1 ≤ (IntKind.wrap .i64 (rdZ c0 y1000))))) = 0 →
     (((qQz (decide ((y1000 + 1) ≤ 4611686018427387904))) ≠ 0 →
      ∃ m', m' < m1000 ∧ I1000 (y1000 + 1) m') ∧ ((qQz (decide ((y1000 + 1) ≤ 4611686018427387904))) = 0 →
      False))))))) ∧ ((qQz (decide (y1000 < n0))) = 0 →
   (((qQz ((2 : Int) == 0)) ≠ 0 →
    ((0 : Int) ≠ 0 ↔ ((adZ c0 n0 p1) : Int) ≠ 0) ∧ True) ∧ ((qQz ((2 : Int) == 0)) = 0 →
    (((qQz ((2 : Int) == 1)) ≠ 0 →
     ((0 : Int) ≠ 0 ↔ ((adZ c0 n0 p1) : Int) ≠ 0) ∧ True) ∧ ((qQz ((2 : Int) == 1)) = 0 →
     ((1 : Int) ≠ 0 ↔ ((adZ c0 n0 p1) : Int) ≠ 0) ∧ True))))))
theorem holds (n0 p1 c0 r0 : Int) (l_n0 : 0 ≤ n0) (u_n0 : n0 ≤ 1000000) (l_p1 : -9223372036854775808 ≤ p1) (u_p1 : p1 ≤ 9223372036854775807) (h_n0 : n0 ≤ r0) : P n0 p1 c0 r0 := by
 unfold P
 simp only [nrm, nro, Int.reduceEq, Int.reduceNeg, reduceIte]
 refine ⟨fun i m => adP c0 i p1 ∧ i ≤ n0 ∧ m = (n0 - i).toNat, ⟨_, ad_nil, l_n0, rfl⟩, fun i m hb hI => ?_⟩
 obtain ⟨hA, hi, rfl⟩ := hI
 refine ⟨fun h => ⟨fun h1 => adZ_eq.2 (ad_no hb.1 h (.inl h1)), fun h1 => ⟨fun h2 => adZ_eq.2 (ad_no hb.1 h (.inr h2)), fun h2 => ⟨by omega, _, ?_, ad_snoc hb.1 hA h1 h2, by omega, rfl⟩⟩⟩, fun h => ?_⟩
 ·omega
 ·have e : i = n0 := by omega
  subst e
  exact adZ_ne.2 hA
theorem plain (i v ro p) : statR 2 rc tree ⟨i, fN, v, ro, p⟩ = P (i 0) (i 1) (i 2) (i 3) := by kernel_rfl
theorem ran : ranR us (fun _ _ => .auto) rc 2 tree = true := by kernel_rfl
theorem fineT : fineR 2 rc tree = true := by kernel_rfl
theorem ok : RcOk (cxOf 2) rc := okR us_ok ran fineT okb fun i v ro p hρ hcap hpre => by rw [plain]; have q := hρ.hi; exact holds _ _ _ _ (q 0 _ rfl).1 (q 0 _ rfl).2 (q 1 _ rfl).1 (q 1 _ rfl).2 (hcap _ (mg 0 rfl))
end CRAddrs
namespace CRICheck
def rc : Rc := ⟨17, [some 5], [.row [.int .u32] 1000000, .row [.int .i32] 1000000, .row [.bool] 1000000, .row [.int .i64] 1000000, .row [.int .i64] 1000000], [], .one, [.int .i64 (.f 84 (.v 0) (.v 1) (qQs [(.v 2), (.v 3), (.v 4), (.v 8), (.v 9)]))]⟩
theorem okb : rc.ok = true := by kernel_rfl
noncomputable def us : SMs := fun Γ ins n => smH (cxG n Γ ins) [] (smR (cxG n Γ ins) [CRAddrs.rc])
theorem us_ok : SMsOk us := fun Γ ins n => qJx (tabsG n Γ ins) (qZc _) (qJj (tabsG n Γ ins) (qQo CRAddrs.okb (rc_n CRAddrs.ok) (qZe _)))
def Q0 : E := (.cl 1000 0 4611686018427387904)
def Q1 : E := (.cl 1002 0 4611686018427387904)
def Q2 : E := (tp Q1 (.c 1))
def Q3 : E := (tp Q0 (.c 1))
def tree : TT (List E) :=
 (.br (tk (.c 16384) (.v 0)) (.leaf [(.c 5)]) (.br (tk (.c 2048) (.v 1)) (.leaf [(.c 5)]) (.br (tk (.c 255) (.v 3)) (.leaf [(.c 5)]) (.br (tk (.c 255) (.v 4)) (.leaf [(.c 5)]) (.br (tn (.v 2) (.v 1)) (.leaf [(.c 2)]) (.br (tl (.v 3) (.v 13)) (.br (.nt (.f 85 (.v 8) (.v 3) (.v 1))) (.leaf [(.c 2)]) (.br (tl (.v 4) (.v 14)) (.br (.nt (.f 85 (.v 9) (.v 4) (.v 1))) (.leaf [(.c 2)]) (.loop ⟨1000, [some (0, 4611686018427387904)], [(.c 0)], 1005⟩ (.br (tk Q0 (.v 3)) (.loop ⟨1002, [some (0, 4611686018427387904)], [(.c 0)], 1004⟩ (.br (tk Q1 Q0) (.br (tk Q1 (.v 3)) (.br (te (t6 (tR (.v 8) Q0)) (t6 (tR (.v 8) Q1))) (.exit 0) (.br (tl Q2 (.c 4611686018427387904)) (.back [Q2]) (.bad 303))) (.bad 200)) (.exit 1)) (.br (te (.v 1004) (.c 0)) (.exit 0) (.br (tl Q3 (.c 4611686018427387904)) (.back [Q3])
 (.bad 303)))) (.exit 1)) (.br (te (.v 1005) (.c 0)) (.leaf [(.c 9)]) (.leaf [(.c 0)])))) (.bad 200))) (.bad 200)))))))
noncomputable def sq0 (a b c d e i j : Int) : Int := (chkZ a b (kZ c (kZ d (kZ e (kZ i (kZ j 0))))))
def P (a b c d e f g h i j k l n o p : Int) : Prop :=
 (Pb (Pl 16384 a) ((5 : Int) = (sq0 a b c d e i j) ∧ True) (Pb (Pl 2048 b) ((5 : Int) = (sq0 a b c d e i j) ∧ True) (Pb (Pl 255 d) ((5 : Int) = (sq0 a b c d e i j) ∧ True) (Pb (Pl 255 e) ((5 : Int) = (sq0 a b c d e i j) ∧ True) (Pb (Pd c b) ((2 : Int) = (sq0 a b c d e i j) ∧ True) (Pm (PL d o) (Pb (Pe (adZ i d b) 0) ((2 : Int) = (sq0 a b c d e i j) ∧ True) (Pm (PL e p) (Pb (Pe (adZ j e b) 0) ((2 : Int) = (sq0 a b c d e i j) ∧ True) (∃ I1000 : Int → Nat → Prop, (∃ m, I1000 0 m) ∧ ∀ y0 : Int, ∀ m0, ((0 ≤ y0 ∧ y0 ≤ 4611686018427387904) ∧ True) → I1000 y0 m0 → (Pb (Pl y0 d) (∃ I1002 : Int → Nat → Prop, (∃ m, I1002 0 m) ∧ ∀ y2 : Int, ∀ m2, ((0 ≤ y2 ∧ y2 ≤ 4611686018427387904) ∧ True) → I1002 y2 m2 → (Pb (Pl y2 y0) (Pm (Pl y2 d) (Pb (Pe (W6 (rdZ i y0)) (W6 (rdZ i y2))) (Pb (Pe (0 : Int) 0) (Pb
 (Pe (0 : Int) 0) ((9 : Int) = (sq0 a b c d e i j) ∧ True) ((0 : Int) = (sq0 a b c d e i j) ∧ True)) (Pm (PL (y0 + 1) 4611686018427387904) (∃ m', m' < m0 ∧ I1000 (y0 + 1) m'))) (Pm (PL (y2 + 1) 4611686018427387904) (∃ m', m' < m2 ∧ I1002 (y2 + 1) m')))) (Pb (Pe (1 : Int) 0) (Pb (Pe (0 : Int) 0) ((9 : Int) = (sq0 a b c d e i j) ∧ True) ((0 : Int) = (sq0 a b c d e i j) ∧ True)) (Pm (PL (y0 + 1) 4611686018427387904) (∃ m', m' < m0 ∧ I1000 (y0 + 1) m'))))) (Pb (Pe (1 : Int) 0) ((9 : Int) = (sq0 a b c d e i j) ∧ True) ((0 : Int) = (sq0 a b c d e i j) ∧ True)))))))))))))
theorem holds (n0_0 n0_1 n0_2 n0_3 n0_4 c0_0 c0_1 c0_2 c0_3 c0_4 r0_0 r0_1 r0_2 r0_3 r0_4 : Int) (l_n0_0 : 0 ≤ n0_0) (u_n0_0 : n0_0 ≤ 1000000) (l_n0_1 : 0 ≤ n0_1) (u_n0_1 : n0_1 ≤ 1000000) (l_n0_2 : 0 ≤ n0_2) (u_n0_2 : n0_2 ≤ 1000000) (l_n0_3 : 0 ≤ n0_3) (u_n0_3 : n0_3 ≤ 1000000) (l_n0_4 : 0 ≤ n0_4) (u_n0_4 : n0_4 ≤ 1000000) (h_n0_0 : n0_0 ≤ r0_0) (h_n0_1 : n0_1 ≤ r0_1) (h_n0_2 : n0_2 ≤ r0_2) (h_n0_3 : n0_3 ≤ r0_3) (h_n0_4 : n0_4 ≤ r0_4) : P n0_0 n0_1 n0_2 n0_3 n0_4 c0_0 c0_1 c0_2 c0_3 c0_4 r0_0 r0_1 r0_2 r0_3 r0_4 := by
 delta P sq0 Pb Pm PL Pl Pe Pd W6 kZ
 simp only [nrm, nro, Int.reduceEq, Int.reduceNeg, reduceIte]
 simp only [chk_ev]
 refine ⟨fun h1 => qKj (.inl h1), fun h1 => ⟨fun h2 => qKj (.inr (.inl h2)), fun h2 => ⟨fun h3 => qKj (.inr (.inr (.inl h3))), fun h3 => ⟨fun h4 => qKj (.inr (.inr (.inr h4))), fun h4 => ?_⟩⟩⟩⟩
 have hl : ¬ (16384 < n0_0 ∨ 2048 < n0_1 ∨ 255 < n0_3 ∨ 255 < n0_4) := by omega
 refine ⟨fun h5 => chk_arg hl (.inl h5), fun h5 => ⟨by omega, fun h6 => chk_arg hl (.inr (.inl (adZ_eq.1 h6))), fun h6 => ⟨by omega, fun h7 => chk_arg hl (.inr (.inr (adZ_eq.1 h7))), fun h7 => ?_⟩⟩⟩
 refine ⟨fun i m => (∀ a b : Int, 0 ≤ b → b < a → a < i → ¬ IntKind.wrap .i64 (rdZ c0_3 a) = IntKind.wrap .i64 (rdZ c0_3 b)) ∧ i ≤ n0_3 ∧ m = (n0_3 - i).toNat, ⟨_, fun a b _ _ _ => by omega, l_n0_3, rfl⟩, fun i m hb hI => ?_⟩
 obtain ⟨hA, hi, rfl⟩ := hI
 refine ⟨fun h => ?_, fun h => ?_⟩
 ·refine ⟨fun k m => (∀ b : Int, 0 ≤ b → b < k → ¬ IntKind.wrap .i64 (rdZ c0_3 i) = IntKind.wrap .i64 (rdZ c0_3 b)) ∧ k ≤ i ∧ m = (i - k).toNat, ⟨_, fun b _ _ => by omega, hb.1, rfl⟩, fun k m hk hI => ?_⟩
  obtain ⟨hB, hki, rfl⟩ := hI
  refine ⟨fun g => ⟨by omega, fun g1 => chk_twice hl h5 (adZ_ne.1 h6) (adZ_ne.1 h7) (tw_of hk.1 g h g1), fun g1 => ⟨by omega, _, ?_, fun b b0 b1 => ?_, by omega, rfl⟩⟩, fun g => ⟨by omega, _, ?_, fun a b b0 b1 b2 => ?_, by omega, rfl⟩⟩
  ·omega
  ·by_cases e : b = k
   ·subst e; exact g1
   ·exact hB b b0 (by omega)
  ·omega
  ·by_cases e : a = i
   ·subst e; exact hB b b0 (by omega)
   ·exact hA a b b0 b1 (by omega)
 ·refine chk_ok hl h5 (adZ_ne.1 h6) (adZ_ne.1 h7) ?_
  rintro ⟨a, b, g1, g2, g3⟩
  exact hA a b (by omega) (by omega) (by omega) g3
theorem plain (i v ro p) : statR 2 rc tree ⟨i, fN, v, ro, p⟩ = P (i 0) (i 1) (i 2) (i 3) (i 4) (i 5) (i 6) (i 7) (i 8) (i 9) (i 10) (i 11) (i 12) (i 13) (i 14) := by kernel_rfl
theorem ran : ranR us (fun _ _ => .auto) rc 2 tree = true := by kernel_rfl
theorem fineT : fineR 2 rc tree = true := by kernel_rfl
theorem ok : RcOk (cxOf 2) rc := okR us_ok ran fineT okb fun i v ro p hρ hcap hpre => by rw [plain]; have q := hρ.hi; exact holds _ _ _ _ _ _ _ _ _ _ _ _ _ _ _ (q 0 _ rfl).1 (q 0 _ rfl).2 (q 1 _ rfl).1 (q 1 _ rfl).2 (q 2 _ rfl).1 (q 2 _ rfl).2 (q 3 _ rfl).1 (q 3 _ rfl).2 (q 4 _ rfl).1 (q 4 _ rfl).2 (hcap _ (mg 0 rfl)) (hcap _ (mg 1 rfl)) (hcap _ (mg 2 rfl)) (hcap _ (mg 3 rfl)) (hcap _ (mg 4 rfl))
end CRICheck
end Go.Proofs.Yteimodjkllldlac
