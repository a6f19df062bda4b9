/-
  What functions of the program answer, as numbers of what they are handed: their runs by the engine, the plain statements behind them. No condition.
-/
import Derived.Test.YtdnkgacjibjlhaaGreatDoorKa
import Derived.Test.YtdnkgacjibjlhaaGreatDoorKb
import Derived.Test.YtdnkgacjibjlhaaGreatDoorKc
import Derived.Test.YtdnkgacjibjlhaaGreatDoorKd
import Derived.Test.YtdnkgacjibjlhaaGreatDoorKe
import Derived.Test.YtdnkgacjibjlhaaGreatDoorGab
import Derived.Test.YtdnkgacjibjlhaaGreatDoorGib
import Derived.Test.YtdnkgacjibjlhaaGreatDoorGp5
import Derived.Test.YtdnkgacjibjlhaaGreatDoorGp4
set_option linter.unusedVariables false
set_option linter.unusedSimpArgs false
set_option maxRecDepth 100000
namespace Go.Proofs.YtdnkgacjibjlhaaGreatDoor
open Go.Eng Go.RowKit
namespace CSSlim
def rc : Rc := ⟨6, [some 5], [.row [.int .u32] 1000000, .row [.int .i32] 1000000, .row [.bool] 1000000, .row [.int .i64] 1000000, .row [.int .i64] 1000000], [(.b .le .i64 (.v 0) (.c 64))], .tup [some 5, none], [.row [.int .u32] 46 (.f 174 (.v 5) (.v 0) (.c 0)) (.ite (.b .eq .i64 (.f 84 (.v 0) (.v 1) (qQm [(.v 2), (.v 3), (.v 4), (.v 8), (.v 9)])) (.c 0)) (.ite (.b .eq .i64 (.f 175 (.v 5) (.v 0) (.c 0)) (.c 0)) (.f 171 (.v 5) (.v 0) (.c 0)) (.c 0)) (.c 0)), .row [.int .i32] 21 (.v 6) (.ite (.b .eq .i64 (.f 84 (.v 0) (.v 1) (qQm [(.v 2), (.v 3), (.v 4), (.v 8), (.v 9)])) (.c 0)) (.ite (.b .eq .i64 (.f 175 (.v 5) (.v 0) (.c 0)) (.c 0)) (.v 1) (.c 0)) (.c 0)), .row [.bool] 4 (.v 7) (.ite (.b .eq .i64 (.f 84 (.v 0) (.v 1) (qQm [(.v 2), (.v 3), (.v 4), (.v 8), (.v 9)])) (.c 0)) (.ite (.b .eq .i64 (.f 175 (.v 5) (.v 0) (.c 0)) (.c 0)) (.v 2) (.c 0)) (.c 0)), .row [.int .i64] 3 (.v 8) (.ite (.b .eq .i64 (.f 84 (.v 0) (.v 1) (qQm [(.v 2), (.v 3), (.v 4), (.v 8), (.v 9)])) (.c 0)) (.ite (.b .eq .i64 (.f 175 (.v 5) (.v 0) (.c 0)) (.c 0)) (.v 3) (.c 0)) (.c 0)), .row [.int .i64] 3 (.v 9) (.ite (.b .eq .i64 (.f 84 (.v 0) (.v 1) (qQm [(.v 2), (.v 3), (.v 4), (.v 8), (.v 9)])) (.c 0)) (.ite (.b .eq .i64 (.f 175 (.v 5) (.v 0) (.c 0)) (.c 0)) (.v 4) (.c 0)) (.c 0)), .int .i64 (.ite (.b .eq .i64 (.f 84 (.v 0) (.v 1) (qQm [(.v 2), (.v 3), (.v 4), (.v 8), (.v 9)])) (.c 0)) (.ite (.b .eq .i64 (.f 175 (.v 5) (.v 0) (.c 0)) (.c 0)) (.c 0) (.c 12)) (.f 84 (.v 0) (.v 1) (qQm [(.v 2), (.v 3), (.v 4), (.v 8), (.v 9)])))]⟩
theorem okb : rc.ok = true := by kernel_rfl
noncomputable def us : SMs := fun Γ ins n => smH (cxG n Γ ins) [] (qYj 37 (libGReach Γ ins n) (qYj 21 (libClone21 Γ ins n) (qYj 22 (libClone22 Γ ins n) (qYj 23 (libClone23 Γ ins n) (smR (cxG n Γ ins) [CICheck.rc, CSPlaces.rc, CCDec.rc, CSEnc.rc, CSBin.rc, CGNext.rc])))))
theorem us_ok : SMsOk us := fun Γ ins n => qZs (tabsG n Γ ins) (qZy _) (qZg (libGReach_ok CGNext.nextC Γ ins n) (qZg (libClone21_ok Γ ins n) (qZg (libClone22_ok Γ ins n) (qZg (libClone23_ok Γ ins n) (qZp (tabsG n Γ ins) (qQh CICheck.okb (rc_n CICheck.ok) (qQh CSPlaces.okb (rc_n CSPlaces.ok) (qQh CCDec.okb (rc_n CCDec.ok) (qQh CSEnc.okb (rc_n CSEnc.ok) (qQh CSBin.okb (rc_n CSBin.ok) (qQh CGNext.okb (rc_n CGNext.ok) (qZv _))))))))))))
def Q0 : E := (.cl 1001 0 4611686018427387904)
def Q1 : E := (tp Q0 (.c 1))
def Q2 : E := (tl Q1 (.c 4611686018427387904))
def Q3 : E := (.cl 1003 0 1000000)
def Q4 : E := (tR (.v 5) Q0)
def Q5 : E := (.w .u32 Q4)
def Q6 : E := (.cl 1005 (-32768) 65535)
def Q7 : E := (.cl 1006 (-32768) 65535)
def Q8 : E := (.cl 1007 (-32768) 65535)
def Q9 : E := (.cl 1008 (-32768) 65535)
def Q10 : E := (.cl 1009 (-32768) 65535)
def Q11 : E := (.f 172 (.v 5) (.v 0) (.c 0))
def Q12 : E := (.f 171 (.v 5) (.v 0) (.c 0))
def Q13 : E := (.f 176 Q11 Q12 (.c 0))
def Q14 : E := (.f 173 Q11 Q12 Q10)
def Q15 : E := (tk Q14 Q12)
def Q16 : E := (tR Q11 Q14)
def Q17 : E := (t6 Q16)
def Q18 : E := (te Q17 Q10)
def Q19 : E := (.b .pmul .i64 Q15 Q18)
def Q20 : E := (te Q14 Q12)
def Q21 : E := (tC (.c 65535) (.c 0))
def Q22 : E := (tC Q9 Q21)
def Q23 : E := (tC Q8 Q22)
def Q24 : E := (.f 141 Q6 Q7 Q23)
def Q25 : E := (te Q24 (.c 0))
def Q26 : E := (tl (.c 36) Q6)
def Q27 : E := (tl Q6 (.c 39))
def Q28 : E := (.b .pmul .i64 Q6 (.c 67108864))
def Q29 : E := (.b .pmul .i64 Q7 (.c 2097152))
def Q30 : E := (tp Q28 Q29)
def Q31 : E := (.b .pmul .i64 Q8 (.c 65536))
def Q32 : E := (tp Q30 Q31)
def Q33 : E := (tp Q32 (.c 65535))
def Q34 : E := (.w .u32 Q33)
def Q35 : E := (tp Q3 (.c 1))
def Q36 : E := (tl Q35 (.c 1000000))
def Q37 : E := (.cl 1012 0 4294967295)
def Q38 : E := (.f 14 (.v 1002) Q3 Q37)
def Q39 : E := (tC Q14 (.c 0))
def Q40 : E := (tC Q9 Q39)
def Q41 : E := (tC Q8 Q40)
def Q42 : E := (.f 141 Q6 Q7 Q41)
def Q43 : E := (te Q42 (.c 0))
def Q44 : E := (tp Q32 Q14)
def Q45 : E := (.w .u32 Q44)
def tree : TT (List E) :=
 (.br (tl (.v 0) (.v 10)) (.br (tl (.v 1) (.v 11)) (.br (tl (.v 2) (.v 12)) (.br (tl (.v 3) (.v 13)) (.br (tl (.v 4) (.v 14)) (.new 1000 (.f 84 (.v 0) (.v 1) (tC (.v 2) (tC (.v 3) (tC (.v 4) (tC (.v 8) (tC (.v 9) (.c 0))))))) (.br (tn (.cl 1000 0 9) (.c 0)) (.leaf [(.c 0), (.c 0), (.c 0), (.c 0), (.c 0), (.c 0), (.c 0), (.c 0), (.c 0), (.c 0), (.cl 1000 0 9)]) (.br (tl (.v 0) (.c 64)) (.loop ⟨1001, [some (0, 4611686018427387904), none, some (0, 1000000)], [(.c 0), (.c 0), (.c 0)], 1013⟩ (.br (tk Q0 (.v 0)) (.br (.nt (tR (.f 164 (.v 5) (.v 0) (tC (.c 0) (tC (.c (-1)) (.c 0)))) Q0)) (.br Q2 (.back [Q1, (.v 1002), Q3]) (.bad 303)) (.new 1005 (.f 67 Q5 (.c 0) (.c 0)) (.new 1006 (.f 67 Q5 (.c 1) (.c 0)) (.new 1007 (.f 67 Q5 (.c 2) (.c 0)) (.new 1008 (.f 67 Q5 (.c 3) (.c 0)) (.new 1009 (.f 67
 Q5 (.c 4) (.c 0)) (.new 1010 (.f 67 Q5 (.c 5) (.c 0)) (.br (.nt (.ite (te Q6 (.c 42)) (.ite (te Q7 (.c 0)) (.ite (te Q8 (.c 0)) (.ite (te Q9 (.c 0)) (te Q10 (.c 0)) (.c 0)) (.c 0)) (.c 0)) (.c 0))) (.br (te Q6 (.c 40)) (.exit 0) (.br (te Q6 (.c 41)) (.exit 1) (.br (te Q6 (.c 36)) (.br Q13 (.new 1011 Q19 (.br Q20 (.br Q25 (.br Q26 (.br Q27 (.new 1012 Q34 (.br Q36 (.br Q2 (.br Q36 (.back [Q1, Q38, Q35]) (.bad 303)) (.bad 303)) (.bad 200))) (.bad 200)) (.bad 200)) (.bad 200)) (.br Q43 (.br Q26 (.br Q27 (.new 1012 Q45 (.br Q36 (.br Q2 (.br Q36 (.back [Q1, Q38, Q35]) (.bad 303)) (.bad 303)) (.bad 200))) (.bad 200)) (.bad 200)) (.bad 200)))) (.bad 200)) (.br (te Q6 (.c 37)) (.br Q13 (.new 1011 Q19 (.br Q20 (.br Q25 (.br Q26 (.br Q27 (.new 1012 Q34 (.br Q36 (.br Q2 (.br Q36 (.back [Q1, Q38,
 Q35]) (.bad 303)) (.bad 303)) (.bad 200))) (.bad 200)) (.bad 200)) (.bad 200)) (.br Q43 (.br Q26 (.br Q27 (.new 1012 Q45 (.br Q36 (.br Q2 (.br Q36 (.back [Q1, Q38, Q35]) (.bad 303)) (.bad 303)) (.bad 200))) (.bad 200)) (.bad 200)) (.bad 200)))) (.bad 200)) (.br (te Q6 (.c 38)) (.br Q13 (.new 1011 Q19 (.br Q20 (.br Q25 (.br Q26 (.br Q27 (.new 1012 Q34 (.br Q36 (.br Q2 (.br Q36 (.back [Q1, Q38, Q35]) (.bad 303)) (.bad 303)) (.bad 200))) (.bad 200)) (.bad 200)) (.bad 200)) (.br Q43 (.br Q26 (.br Q27 (.new 1012 Q45 (.br Q36 (.br Q2 (.br Q36 (.back [Q1, Q38, Q35]) (.bad 303)) (.bad 303)) (.bad 200))) (.bad 200)) (.bad 200)) (.bad 200)))) (.bad 200)) (.br (te Q6 (.c 39)) (.br Q13 (.new 1011 Q19 (.br Q20 (.br Q25 (.br Q26 (.br Q27 (.new 1012 Q34 (.br Q36 (.br Q2 (.br Q36 (.back [Q1, Q38, Q35])
 (.bad 303)) (.bad 303)) (.bad 200))) (.bad 200)) (.bad 200)) (.bad 200)) (.br Q43 (.br Q26 (.br Q27 (.new 1012 Q45 (.br Q36 (.br Q2 (.br Q36 (.back [Q1, Q38, Q35]) (.bad 303)) (.bad 303)) (.bad 200))) (.bad 200)) (.bad 200)) (.bad 200)))) (.bad 200)) (.br Q36 (.br Q2 (.br Q36 (.back [Q1, (.f 14 (.v 1002) Q3 Q5), Q35]) (.bad 303)) (.bad 303)) (.bad 200)))))))) (.br Q2 (.back [Q1, (.v 1002), Q3]) (.bad 303)))))))))) (.exit 2)) (.br (te (.v 1013) (.c 0)) (.leaf [(.c 0), (.c 0), (.c 0), (.c 0), (.c 0), (.c 0), (.c 0), (.c 0), (.c 0), (.c 0), (.c 12)]) (.br (te (.v 1013) (.c 1)) (.leaf [(.c 0), (.c 0), (.c 0), (.c 0), (.c 0), (.c 0), (.c 0), (.c 0), (.c 0), (.c 0), (.c 12)]) (.leaf [Q3, (.v 1002), (.v 1), (.v 6), (.v 2), (.v 7), (.v 3), (.v 8), (.v 4), (.v 9), (.c 0)])))) (.bad 200)))) (.bad
 200)) (.bad 200)) (.bad 200)) (.bad 200)) (.bad 200))
def sL0 (a b c d e i j f g h z0 z2 z4 z5 z7 z9 z10 z12 z14 z15 z17 z19 z20 z22 z24 z25 : Int) : Prop := (z0 : Int) = (iteZ (Pe (chkZ a b (kZ c (kZ d (kZ e (kZ i (kZ j 0)))))) 0) (iteZ (Pe (slmE f a) 0) (plcN f a) 0) 0) ∧ qQy [.int .u32] z2 (slmZ f a) z4 ∧ (z5 : Int) = (iteZ (Pe (chkZ a b (kZ c (kZ d (kZ e (kZ i (kZ j 0)))))) 0) (iteZ (Pe (slmE f a) 0) b 0) 0) ∧ qQy [.int .i32] z7 g z9 ∧ (z10 : Int) = (iteZ (Pe (chkZ a b (kZ c (kZ d (kZ e (kZ i (kZ j 0)))))) 0) (iteZ (Pe (slmE f a) 0) c 0) 0) ∧ qQy [.bool] z12 h z14 ∧ (z15 : Int) = (iteZ (Pe (chkZ a b (kZ c (kZ d (kZ e (kZ i (kZ j 0)))))) 0) (iteZ (Pe (slmE f a) 0) d 0) 0) ∧ qQy [.int .i64] z17 i z19 ∧ (z20 : Int) = (iteZ (Pe (chkZ a b (kZ c (kZ d (kZ e (kZ i (kZ j 0)))))) 0) (iteZ (Pe (slmE f a) 0) e 0) 0) ∧ qQy [.int .i64] z22
 j z24 ∧ (z25 : Int) = (iteZ (Pe (chkZ a b (kZ c (kZ d (kZ e (kZ i (kZ j 0)))))) 0) (iteZ (Pe (slmE f a) 0) 0 12) (chkZ a b (kZ c (kZ d (kZ e (kZ i (kZ j 0))))))) ∧ True
def sq0 (f a y9 y5 y6 y7 y8 y3 y1 y2 : Int) (m1 : Nat) (I1001 : Int → Int → Int → Nat → Prop) : Prop := (Pm (rseZ (plcZ f a) (plcN f a)) (Pn ((Pl (cltZ (plcZ f a) (plcN f a) y9) (plcN f a)) * (Pe (W6 (rdZ (plcZ f a) (cltZ (plcZ f a) (plcN f a) y9))) y9)) 0 1 fun y11 => (Pb (Pe (cltZ (plcZ f a) (plcN f a) y9) (plcN f a)) (Pm (Pe (cckZ y5 y6 (kZ y7 (kZ y8 (kZ 65535 0)))) 0) (Pm (PL 36 y5) (Pm (PL y5 39) (Pn (U3 ((((y5 * 67108864) + (y6 * 2097152)) + (y7 * 65536)) + 65535)) 0 4294967295 fun y12 => (Pm (PL (y3 + 1) 1000000) (Pm (PL (y1 + 1) 4611686018427387904) (Pm (PL (y3 + 1) 1000000) (∃ m', m' < m1 ∧ I1001 (y1 + 1) (updZ y2 y3 y12) (y3 + 1) m')))))))) (Pm (Pe (cckZ y5 y6 (kZ y7 (kZ y8 (kZ (cltZ (plcZ f a) (plcN f a) y9) 0)))) 0) (Pm (PL 36 y5) (Pm (PL y5 39) (Pn (U3 ((((y5 * 67108864) +
 (y6 * 2097152)) + (y7 * 65536)) + (cltZ (plcZ f a) (plcN f a) y9))) 0 4294967295 fun y12 => (Pm (PL (y3 + 1) 1000000) (Pm (PL (y1 + 1) 4611686018427387904) (Pm (PL (y3 + 1) 1000000) (∃ m', m' < m1 ∧ I1001 (y1 + 1) (updZ y2 y3 y12) (y3 + 1) m')))))))))))
def P (a b c d e f g h i j k l n o p : Int) : Prop :=
 (Pm (PL a k) (Pm (PL b l) (Pm (PL c n) (Pm (PL d o) (Pm (PL e p) (Pn (chkZ a b (kZ c (kZ d (kZ e (kZ i (kZ j 0)))))) 0 9 fun y0 => (Pb (Pd y0 0) (sL0 a b c d e i j f g h 0 0 0 0 0 0 0 0 0 0 0 0 0 0 0 y0) (Pm (PL a 64) (∃ I1001 : Int → Int → Int → Nat → Prop, (∃ m, I1001 0 0 0 m) ∧ ∀ y1 y2 y3 : Int, ∀ m1, ((0 ≤ y1 ∧ y1 ≤ 4611686018427387904) ∧ True ∧ (0 ≤ y3 ∧ y3 ≤ 1000000) ∧ True) → I1001 y1 y2 y3 m1 → (Pb (Pl y1 a) (Pb (Pe (rdZ (gfmZ f a (kZ 0 (kZ (-1) 0))) y1) 0) (Pm (PL (y1 + 1) 4611686018427387904) (∃ m', m' < m1 ∧ I1001 (y1 + 1) y2 y3 m')) (Pn (decZ (U3 (rdZ f y1)) 0) (-32768) 65535 fun y5 => Pn (decZ (U3 (rdZ f y1)) 1) (-32768) 65535 fun y6 => Pn (decZ (U3 (rdZ f y1)) 2) (-32768) 65535 fun y7 => Pn (decZ (U3 (rdZ f y1)) 3) (-32768) 65535 fun y8 => Pn (decZ (U3 (rdZ f y1)) 4)
 (-32768) 65535 fun y9 => Pn (decZ (U3 (rdZ f y1)) 5) (-32768) 65535 fun y10 => (Pb (Pe (iteZ (Pe y5 42) (iteZ (Pe y6 0) (iteZ (Pe y7 0) (iteZ (Pe y8 0) (Pe y9 0) 0) 0) 0) 0) 0) (Pb (Pe y5 40) (Pb (Pe (0 : Int) 0) (sL0 a b c d e i j f g h 0 0 0 0 0 0 0 0 0 0 0 0 0 0 0 12) (Pb (Pe (0 : Int) 1) (sL0 a b c d e i j f g h 0 0 0 0 0 0 0 0 0 0 0 0 0 0 0 12) (sL0 a b c d e i j f g h y3 y2 y3 b g b c h c d i d e j e 0))) (Pb (Pe y5 41) (Pb (Pe (1 : Int) 0) (sL0 a b c d e i j f g h 0 0 0 0 0 0 0 0 0 0 0 0 0 0 0 12) (Pb (Pe (1 : Int) 1) (sL0 a b c d e i j f g h 0 0 0 0 0 0 0 0 0 0 0 0 0 0 0 12) (sL0 a b c d e i j f g h y3 y2 y3 b g b c h c d i d e j e 0))) (Pb (Pe y5 36) (sq0 f a y9 y5 y6 y7 y8 y3 y1 y2 m1 I1001) (Pb (Pe y5 37) (sq0 f a y9 y5 y6 y7 y8 y3 y1 y2 m1 I1001) (Pb (Pe y5 38) (sq0 f a y9 y5
 y6 y7 y8 y3 y1 y2 m1 I1001) (Pb (Pe y5 39) (sq0 f a y9 y5 y6 y7 y8 y3 y1 y2 m1 I1001) (Pm (PL (y3 + 1) 1000000) (Pm (PL (y1 + 1) 4611686018427387904) (Pm (PL (y3 + 1) 1000000) (∃ m', m' < m1 ∧ I1001 (y1 + 1) (updZ y2 y3 (U3 (rdZ f y1))) (y3 + 1) m')))))))))) (Pm (PL (y1 + 1) 4611686018427387904) (∃ m', m' < m1 ∧ I1001 (y1 + 1) y2 y3 m'))))) (Pb (Pe (2 : Int) 0) (sL0 a b c d e i j f g h 0 0 0 0 0 0 0 0 0 0 0 0 0 0 0 12) (Pb (Pe (2 : Int) 1) (sL0 a b c d e i j f g h 0 0 0 0 0 0 0 0 0 0 0 0 0 0 0 12) (sL0 a b c d e i j f g h y3 y2 y3 b g b c h c d i d e j e 0)))))))))))))
set_option maxHeartbeats 4000000 in
theorem holds (n0_0 n0_1 n0_2 n0_3 n0_4 c0_0 c0_1 c0_2 c0_3 c0_4 r0_0 r0_1 r0_2 r0_3 r0_4 : Int) (l_n0_0 : 0 ≤ n0_0) (u_n0_0 : n0_0 ≤ 1000000) (l_n0_1 : 0 ≤ n0_1) (u_n0_1 : n0_1 ≤ 1000000) (l_n0_2 : 0 ≤ n0_2) (u_n0_2 : n0_2 ≤ 1000000) (l_n0_3 : 0 ≤ n0_3) (u_n0_3 : n0_3 ≤ 1000000) (l_n0_4 : 0 ≤ n0_4) (u_n0_4 : n0_4 ≤ 1000000) (h_n0_0 : n0_0 ≤ r0_0) (h_n0_1 : n0_1 ≤ r0_1) (h_n0_2 : n0_2 ≤ r0_2) (h_n0_3 : n0_3 ≤ r0_3) (h_n0_4 : n0_4 ≤ r0_4) (h_pre0 : qQz (decide (n0_0  ≤  64)) ≠ 0) : P n0_0 n0_1 n0_2 n0_3 n0_4 c0_0 c0_1 c0_2 c0_3 c0_4 r0_0 r0_1 r0_2 r0_3 r0_4 := by
 delta P sq0 sL0 Pb Pm Pn PL Pl Pe Pd W6 U3 kZ
 simp only [nrm, nro, Int.reduceEq, Int.reduceNeg, reduceIte]
 have hn : n0_0 ≤ 64 := by simpa [qQz] using h_pre0
 refine ⟨h_n0_0, h_n0_1, h_n0_2, h_n0_3, h_n0_4, ?_⟩
 rintro ck hck -
 rw [← hck]
 have z : ∀ (cks : List CK) (x y : Int), qQy cks x y 0 := fun cks x y i hi => by omega
 refine ⟨fun h => ?_, fun h => ⟨hn, ?_⟩⟩
 ·simp only [if_neg h]
  exact ⟨trivial, z _ _ _, trivial, z _ _ _, trivial, z _ _ _, trivial, z _ _ _, trivial, z _ _ _, trivial⟩
 simp only [h, if_true]
 have bad : ∀ x : Nat, (x : Int) < n0_0 → Eng.Way (nxf c0_0 n0_0) (fun _ => False) 0 x → (decZ (IntKind.wrap .u32 (rdZ c0_0 x)) 0 = 40 ∨ decZ (IntKind.wrap .u32 (rdZ c0_0 x)) 0 = 41) → ¬slmE c0_0 n0_0 = 0 := fun x hx hw hk => slmE_ne.2 ⟨x, hx, hw, hk⟩
 refine ⟨fun p q l m => (0 ≤ p ∧ p ≤ n0_0) ∧ SlI c0_0 n0_0 p.toNat q l ∧ m = (n0_0 - p).toNat, ⟨_, ⟨by omega, by omega⟩, SlI.zero, rfl⟩, ?_⟩
 rintro p q l m ⟨⟨p8, p9⟩, ⟨l0, l1⟩⟩ ⟨⟨p0, p1⟩, hI, rfl⟩
 obtain ⟨x, rfl⟩ := Int.eq_ofNat_of_zero_le p0
 rw [Int.toNat_natCast] at hI
 have ex : ((x : Int) + 1).toNat = x + 1 := by omega
 have hll := plcF_len c0_0 n0_0 x
 have hlen := hI.len
 refine ⟨fun plt => ?_, fun pge => ?_⟩
 ·have hr := gfm_0 (c := c0_0) (by omega : n0_0 ≤ 1000) p0 plt
  rw [Int.toNat_natCast] at hr
  refine ⟨fun h0 => ⟨by omega, _, by omega, ⟨by omega, by omega⟩, by rw [ex]; exact hI.skip (fun g => hr.2 g.1 h0) (fun w => absurd h0 (hr.2 w)), rfl⟩, fun h0 => ?_⟩
  rintro y0 e0 - y1 e1 - y2 e2 - y3 e3 - y4 e4 - y5 - -
  have hb : ∀ b : Int, (if y0 = 42 then (if y1 = 0 then (if y2 = 0 then (if y3 = 0 then b else 0) else 0) else 0) else 0) = if y0 = 42 then b else 0 := fun b => by
   by_cases g : y0 = 42
   ·obtain ⟨d1, d2, d3, d4⟩ := dec_nop (e0.symm.trans g)
    rw [e1, d1, e2, d2, e3, d3]
    simp
   ·simp [g]
  rw [hb]
  have hz : (if y0 = 42 then qQz (y4 == 0) else 0) = 0 ↔ y0 ≠ 42 := by
   by_cases g : y0 = 42
   ·have := (dec_nop (e0.symm.trans g)).2.2.2
    rw [if_pos g, e4, this]
    simp [qQz, g]
   ·simp [g]
  rw [hz]
  have hw := hr.1 h0
  refine ⟨fun h42 => ?_, fun h42 => ⟨by omega, _, by omega, ⟨by omega, by omega⟩, by rw [ex]; exact hI.skip (fun g => h42 (by rw [e0]; exact g.2)) (fun _ => by rw [← e0]; omega), rfl⟩⟩
  have hs : styP c0_0 n0_0 x := ⟨hw, by rw [← e0]; exact h42⟩
  have no : y0 = 40 ∨ y0 = 41 → ¬slmE c0_0 n0_0 = 0 := fun h => bad x plt hw (by rw [← e0]; exact h)
  refine ⟨fun h40 => ?_, fun h40 => ⟨fun h41 => ?_, fun h41 => ?_⟩⟩
  ·simp only [if_neg (no (.inl h40))]
   exact ⟨trivial, z _ _ _, trivial, z _ _ _, trivial, z _ _ _, trivial, z _ _ _, trivial, z _ _ _, trivial⟩
  ·simp only [if_neg (no (.inr h41))]
   exact ⟨trivial, z _ _ _, trivial, z _ _ _, trivial, z _ _ _, trivial, z _ _ _, trivial, z _ _ _, trivial⟩
  have hj : decZ (IntKind.wrap .u32 (rdZ c0_0 x)) 0 ≠ 40 ∧ decZ (IntKind.wrap .u32 (rdZ c0_0 x)) 0 ≠ 41 := ⟨by rw [← e0]; exact h40, by rw [← e0]; exact h41⟩
  refine ⟨fun h36 => ?_, fun h36 => ⟨fun h37 => ?_, fun h37 => ⟨fun h38 => ?_, fun h38 => ⟨fun h39 => ?_, fun h39 => ?_⟩⟩⟩⟩
  rotate_left 4
  ·refine ⟨by omega, by omega, by omega, _, ?_, ⟨by omega, by omega⟩, by rw [ex]; exact hI.put hs hj (by rw [slm_no e0 (by omega)]), rfl⟩
   omega
  all_goals
   obtain ⟨g1, g2⟩ := slm_br (n := n0_0) e0 e1 e2 e3 e4 (by omega)
   have hm1 : (n0_0 - ((x : Int) + 1)).toNat < (n0_0 - (x : Int)).toNat := by omega
   have hl1 : l + 1 ≤ 1000000 := by omega
   have hx1 : (x : Int) + 1 ≤ 4611686018427387904 := by omega
   have hp1 : 0 ≤ (x : Int) + 1 ∧ (x : Int) + 1 ≤ n0_0 := by omega
   have ho1 : 36 ≤ y0 := by omega
   have ho2 : y0 ≤ 39 := by omega
   refine ⟨plc_rise (by omega), ?_⟩
   rintro u - -
   refine ⟨fun e => ?_, fun e => ?_⟩
   ·obtain ⟨a1, a2⟩ := g1 e
    refine ⟨a1, ho1, ho2, ?_⟩
    rintro v rfl -
    exact ⟨hl1, hx1, hl1, _, hm1, hp1, by rw [ex]; exact hI.put hs hj (by rw [a2]), rfl⟩
   ·obtain ⟨a1, a2⟩ := g2 e
    refine ⟨a1, ho1, ho2, ?_⟩
    rintro v rfl -
    exact ⟨hl1, hx1, hl1, _, hm1, hp1, by rw [ex]; exact hI.put hs hj (by rw [a2]), rfl⟩
 ·have e : (x : Int) = n0_0 := by omega
  rw [show x = n0_0.toNat by omega] at hI
  obtain ⟨f1, f2, f3⟩ := hI.fin (by omega) l_n0_0
  simp only [f1, if_true]
  exact ⟨f2, f3, trivial, fun i _ => rfl, trivial, fun i _ => rfl, trivial, fun i _ => rfl, trivial, fun i _ => rfl, trivial⟩
theorem plain (i v ro p) : statR 2 rc tree ⟨i, fN, v, ro, p⟩ = P (i 0) (i 1) (i 2) (i 3) (i 4) (i 5) (i 6) (i 7) (i 8) (i 9) (i 10) (i 11) (i 12) (i 13) (i 14) := by kernel_rfl
theorem ran : ranR us (fun _ _ => .auto) rc 2 tree = true := by kernel_rfl
theorem fineT : fineR 2 rc tree = true := by kernel_rfl
theorem ok : RcOk (cxOf 2) rc := okR us_ok ran fineT okb fun i v ro p hρ hcap hpre => by rw [plain]; have q := hρ.hi; exact holds _ _ _ _ _ _ _ _ _ _ _ _ _ _ _ (q 0 _ rfl).1 (q 0 _ rfl).2 (q 1 _ rfl).1 (q 1 _ rfl).2 (q 2 _ rfl).1 (q 2 _ rfl).2 (q 3 _ rfl).1 (q 3 _ rfl).2 (q 4 _ rfl).1 (q 4 _ rfl).2 (hcap _ (mg 0 rfl)) (hcap _ (mg 1 rfl)) (hcap _ (mg 2 rfl)) (hcap _ (mg 3 rfl)) (hcap _ (mg 4 rfl)) (hpre _ (mg 0 rfl))
end CSSlim
end Go.Proofs.YtdnkgacjibjlhaaGreatDoor
