/-
  The law ImageShort answers true at every input: the law is run by the engine (a symbolic run, proved sound), the tree of its answers, as a plain statement, is shown to hold. No condition.
-/
import Derived.Test.YtkjbmbmdmhfbeacDoorKa
import Derived.Test.YtkjbmbmdmhfbeacDoorKb
import Derived.Test.YtkjbmbmdmhfbeacDoorKc
import Derived.Test.YtkjbmbmdmhfbeacDoorKd
import Derived.Test.YtkjbmbmdmhfbeacDoorGab
import Derived.Test.YtkjbmbmdmhfbeacDoorGp4
import Derived.WalkKit
import Derived.ProofKit
import Derived.OpenShut
import Derived.LaidMore
import Derived.Stop.Joined
import Derived.SevenTiedAt
import Derived.SizedLaws
import Derived.Lay
import Derived.Test.YtkjbmbmdmhfbeacDoorCards
import Derived.Test.YtkjbmbmdmhfbeacDoorTie
namespace Go.Proofs.YtkjbmbmdmhfbeacDoor.imageShort
open Go.ChangeShapes Go.WideShapes Go.ChangeAt Go.Eng Go.RowKit
set_option linter.unusedVariables false
set_option linter.unusedSimpArgs false
set_option maxRecDepth 100000
def rc : Rc := ⟨3, [some 5, none, none], [.row [.int .u32] 140737488355328, .row [.int .i32] 140737488355328, .row [.bool] 140737488355328, .row [.int .i64] 140737488355328, .row [.int .i64] 140737488355328, .int .i64, .row [.int .u8] 140737488355328], [], .one, [.bool (.c 1)]⟩
theorem okb : rc.ok = true := by kernel_rfl
noncomputable def us : SMs := fun Γ ins n => smH (cxG n Γ ins) [] (smR (cxG n Γ ins) [CAwake22.rc, CRPut22.rc, CRKSeal.rc, CIGet.rc, CICheck.rc, CRWords.rc, CRSame15.rc, CRBools.rc, CRSame17.rc])
theorem us_ok : SMsOk us := fun Γ ins n => qZu (tabsG n Γ ins) (qZa _) (qZs (tabsG n Γ ins) (qQg CAwake22.okb (rc_n CAwake22.ok) (qQg CRPut22.okb (rc_n CRPut22.ok) (qQg CRKSeal.okb (rc_n CRKSeal.ok) (qQg CIGet.okb (rc_n CIGet.ok) (qQg CICheck.okb (rc_n CICheck.ok) (qQg CRWords.okb (rc_n CRWords.ok) (qQg CRSame15.okb (rc_n CRSame15.ok) (qQg CRBools.okb (rc_n CRBools.ok) (qQg CRSame17.okb (rc_n CRSame17.ok) (qZb _)))))))))))
def Q0 : E := (tC (.v 11) (.c 0))
def Q1 : E := (tC (.v 10) Q0)
def Q2 : E := (tC (.v 4) Q1)
def Q3 : E := (tC (.v 3) Q2)
def Q4 : E := (tC (.v 2) Q3)
def Q5 : E := (.f 84 (.v 0) (.v 1) Q4)
def Q6 : E := (te Q5 (.c 0))
def Q7 : E := (tC (.v 4) (.c 0))
def Q8 : E := (tC (.v 3) Q7)
def Q9 : E := (.f 124 (.v 0) (.v 1) Q8)
def Q10 : E := (.ite Q6 Q9 (.c 0))
def Q11 : E := (.b .psub .i64 Q10 (.c 2))
def Q12 : E := (t6 Q11)
def Q13 : E := (tp (.v 5) (.c 2))
def Q14 : E := (tC (.v 9) Q1)
def Q15 : E := (tC (.v 8) Q14)
def Q16 : E := (tC (.v 7) Q15)
def Q17 : E := (tC (.v 4) Q16)
def Q18 : E := (tC (.v 3) Q17)
def Q19 : E := (.f 125 (.v 0) (.v 1) Q18)
def Q20 : E := (.f 120 Q19 (.v 5) (.c 0))
def Q21 : E := (tp Q12 (.v 6))
def Q22 : E := (.cl 1002 (-9223372036854775808) 9223512774343131135)
def Q23 : E := (tp Q22 (.c 2))
def Q24 : E := (.f 16 (.c 0) (.c 0) Q19)
def Q25 : E := (.f 16 Q24 Q12 (.v 12))
def Q26 : E := (.f 120 Q25 Q22 (.c 0))
def Q27 : E := (.f 127 Q20 Q13 (.c 0))
def Q28 : E := (.f 127 Q20 Q13 (.c 1))
def Q29 : E := (.f 127 Q20 Q13 (.c 2))
def Q30 : E := (.f 127 Q20 Q13 (.c 3))
def Q31 : E := (.f 127 Q20 Q13 (.c 4))
def Q32 : E := (.f 127 Q26 Q23 (.c 0))
def Q33 : E := (.f 127 Q26 Q23 (.c 1))
def Q34 : E := (.f 127 Q26 Q23 (.c 2))
def Q35 : E := (.f 127 Q26 Q23 (.c 3))
def Q36 : E := (.f 127 Q26 Q23 (.c 4))
def tree : TT (List E) :=
 (.br (tl (.v 0) (.c 200)) (.br (tl (.v 1) (.c 2100)) (.br (tl (.v 2) (.c 2100)) (.br (tl (.v 3) (.c 300)) (.br (.nt (tl (.v 4) (.c 300))) (.leaf [(.c 1)]) (.br (tk (.c 100) (.v 6)) (.leaf [(.c 1)]) (.br (tl (.v 0) (.c 1000000)) (.br (tl (.v 1) (.c 1000000)) (.br (tl (.v 2) (.c 1000000)) (.br (tl (.v 3) (.c 1000000)) (.br (tl (.v 4) (.c 1000000)) (.br (tl (.v 0) (.v 13)) (.br (tl (.v 1) (.v 14)) (.br (tl (.v 2) (.v 15)) (.br (tl (.v 3) (.v 16)) (.br (tl (.v 4) (.v 17)) (.new 1000 Q5 (.br (tn (.cl 1000 0 9) (.c 0)) (.leaf [(.c 1)]) (.br (tk (.v 5) (.c 0)) (.leaf [(.c 1)]) (.br (tl (.c 0) Q10) (.br (tl Q12 (.v 5)) (.leaf [(.c 1)]) (.br (tl (.c 0) (.v 5)) (.br (tl (.v 5) Q10) (.br (tl (.v 5) (.c 900000)) (.br (tl (.c 0) Q13) (.br (tl Q13 (.c 900000)) (.new 1001 (.f 126 Q20 Q13 (.c 0)) (.br
 (tl (.c 0) Q12) (.br (tl Q12 Q10) (.br (tl Q12 (.c 1000000)) (.br (tl Q21 (.c 1000000)) (.br (tl (.c 0) Q21) (.br (tl Q21 (.c 900000)) (.new 1002 Q21 (.br (tl (.c 0) Q23) (.br (tl Q23 (.c 900000)) (.new 1003 (.f 126 Q26 Q23 (.c 0)) (.br (te (.cl 1001 0 9) (.c 4)) (.br (tl (.c 0) Q27) (.br (tl Q27 (.c 1000000)) (.new 1004 (.ite (te Q27 (.c 0)) (.f 72 (.f 128 Q20 (.c 0) (.c 0)) (.c 0) Q27) (.c 0)) (.br (.cl 1004 0 1) (.br (tl (.c 0) Q28) (.br (tl Q28 (.c 1000000)) (.new 1005 (.ite (te Q28 (.c 0)) (.f 72 (.f 128 Q20 (.c 1) (.c 0)) (.c 0) Q28) (.c 0)) (.br (.cl 1005 0 1) (.br (tl (.c 0) Q29) (.br (tl Q29 (.c 1000000)) (.br (.ite (te Q29 (.c 0)) (.f 62 (.f 128 Q20 (.c 2) (.c 0)) (.c 0) Q29) (.c 0)) (.br (tl (.c 0) Q30) (.br (tl Q30 (.c 1000000)) (.new 1006 (.ite (te Q30 (.c 0)) (.f 32 (.f 128
 Q20 (.c 3) (.c 0)) (.c 0) Q30) (.c 0)) (.br (.cl 1006 0 1) (.br (tl (.c 0) Q31) (.br (tl Q31 (.c 1000000)) (.new 1007 (.ite (te Q31 (.c 0)) (.f 32 (.f 128 Q20 (.c 4) (.c 0)) (.c 0) Q31) (.c 0)) (.br (.cl 1007 0 1) (.br (te (.v 6) (.c 0)) (.leaf [(.c 1)]) (.br (te (.cl 1003 0 9) (.c 5)) (.br (tl (.c 0) Q32) (.br (tl Q32 (.c 1000000)) (.new 1008 (.ite (te Q32 (.c 0)) (.f 72 (.f 128 Q26 (.c 0) (.c 0)) (.c 0) Q32) (.c 0)) (.br (.cl 1008 0 1) (.br (tl (.c 0) Q33) (.br (tl Q33 (.c 1000000)) (.new 1009 (.ite (te Q33 (.c 0)) (.f 72 (.f 128 Q26 (.c 1) (.c 0)) (.c 0) Q33) (.c 0)) (.br (.cl 1009 0 1) (.br (tl (.c 0) Q34) (.br (tl Q34 (.c 1000000)) (.br (.ite (te Q34 (.c 0)) (.f 62 (.f 128 Q26 (.c 2) (.c 0)) (.c 0) Q34) (.c 0)) (.br (tl (.c 0) Q35) (.br (tl Q35 (.c 1000000)) (.new 1010 (.ite (te Q35
 (.c 0)) (.f 32 (.f 128 Q26 (.c 3) (.c 0)) (.c 0) Q35) (.c 0)) (.br (.cl 1010 0 1) (.br (tl (.c 0) Q36) (.br (tl Q36 (.c 1000000)) (.new 1011 (.ite (te Q36 (.c 0)) (.f 32 (.f 128 Q26 (.c 4) (.c 0)) (.c 0) Q36) (.c 0)) (.br (.cl 1011 0 1) (.leaf [(.c 1)]) (.leaf [(.c 0)]))) (.bad 200)) (.bad 200)) (.leaf [(.c 0)]))) (.bad 200)) (.bad 200)) (.leaf [(.c 0)])) (.bad 200)) (.bad 200)) (.leaf [(.c 0)]))) (.bad 200)) (.bad 200)) (.leaf [(.c 0)]))) (.bad 200)) (.bad 200)) (.leaf [(.c 0)]))) (.leaf [(.c 0)]))) (.bad 200)) (.bad 200)) (.leaf [(.c 0)]))) (.bad 200)) (.bad 200)) (.leaf [(.c 0)])) (.bad 200)) (.bad 200)) (.leaf [(.c 0)]))) (.bad 200)) (.bad 200)) (.leaf [(.c 0)]))) (.bad 200)) (.bad 200)) (.leaf [(.c 0)]))) (.bad 200)) (.bad 200))) (.bad 200)) (.bad 200)) (.bad 200)) (.bad 200)) (.bad
 200)) (.bad 200))) (.bad 200)) (.bad 200)) (.bad 200)) (.bad 200)) (.bad 200))) (.bad 200))))) (.bad 200)) (.bad 200)) (.bad 200)) (.bad 200)) (.bad 200)) (.bad 200)) (.bad 200)) (.bad 200)) (.bad 200)) (.bad 200)))) (.leaf [(.c 1)])) (.leaf [(.c 1)])) (.leaf [(.c 1)])) (.leaf [(.c 1)]))

noncomputable def sq0 (a b d e h i j k l c n y2 : Int) : Int := (slcZ (appZ (appZ 0 0 (putZ a b (kZ d (kZ e (kZ h (kZ i (kZ j (kZ k (kZ l 0))))))))) (W6 ((iteZ (Pe (chkZ a b (kZ c (kZ d (kZ e (kZ k (kZ l 0)))))) 0) (putN a b (kZ d (kZ e 0))) 0) - 2)) n) y2)
noncomputable def sq1 (a b d e h i j k l f : Int) : Int := (slcZ (putZ a b (kZ d (kZ e (kZ h (kZ i (kZ j (kZ k (kZ l 0)))))))) f)
noncomputable def sq2 (a b c d e k l : Int) : Int := (iteZ (Pe (chkZ a b (kZ c (kZ d (kZ e (kZ k (kZ l 0)))))) 0) (putN a b (kZ d (kZ e 0))) 0)
def P (a b c d e f g h i j k l n o p q r s t : Int) : Prop :=
 (Pb (PL a 200) (Pb (PL b 2100) (Pb (PL c 2100) (Pb (PL d 300) (Pb (Pe (PL e 300) 0) Pt (Pb (Pl 100 g) Pt (Pm (PL a 1000000) (Pm (PL b 1000000) (Pm (PL c 1000000) (Pm (PL d 1000000) (Pm (PL e 1000000) (Pm (PL a o) (Pm (PL b p) (Pm (PL c q) (Pm (PL d r) (Pm (PL e s) (Pn (chkZ a b (kZ c (kZ d (kZ e (kZ k (kZ l 0)))))) 0 9 fun y0 => (Pb (Pd y0 0) Pt (Pb (Pl f 0) Pt (Pm (PL 0 (sq2 a b c d e k l)) (Pb (PL (W6 ((sq2 a b c d e k l) - 2)) f) Pt (Pm (PL 0 f) (Pm (PL f (sq2 a b c d e k l)) (Pm (PL f 900000) (Pm (PL 0 (f + 2)) (Pm (PL (f + 2) 900000) (Pn (gtE (sq1 a b d e h i j k l f) (f + 2)) 0 9 fun y1 => (Pm (PL 0 (W6 ((sq2 a b c d e k l) - 2))) (Pm (PL (W6 ((sq2 a b c d e k l) - 2)) (sq2 a b c d e k l)) (Pm (PL (W6 ((sq2 a b c d e k l) - 2)) 1000000) (Pm (PL ((W6 ((sq2 a b c d e k l) - 2)) + g)
 1000000) (Pm (PL 0 ((W6 ((sq2 a b c d e k l) - 2)) + g)) (Pm (PL ((W6 ((sq2 a b c d e k l) - 2)) + g) 900000) (Pn ((W6 ((sq2 a b c d e k l) - 2)) + g) (-9223372036854775808) 9223512774343131135 fun y2 => (Pm (PL 0 (y2 + 2)) (Pm (PL (y2 + 2) 900000) (Pn (gtE (sq0 a b d e h i j k l c n y2) (y2 + 2)) 0 9 fun y3 => (Pb (Pe y1 4) (Pm (PL 0 (gtN (sq1 a b d e h i j k l f) (f + 2) 0)) (Pm (PL (gtN (sq1 a b d e h i j k l f) (f + 2) 0) 1000000) (Pn (iteZ (Pe (gtN (sq1 a b d e h i j k l f) (f + 2) 0) 0) (qJp (gtC (sq1 a b d e h i j k l f) 0) 0 (gtN (sq1 a b d e h i j k l f) (f + 2) 0)) 0) 0 1 fun y4 => (Pb y4 (Pm (PL 0 (gtN (sq1 a b d e h i j k l f) (f + 2) 1)) (Pm (PL (gtN (sq1 a b d e h i j k l f) (f + 2) 1) 1000000) (Pn (iteZ (Pe (gtN (sq1 a b d e h i j k l f) (f + 2) 1) 0) (qJp (gtC (sq1 a
 b d e h i j k l f) 1) 0 (gtN (sq1 a b d e h i j k l f) (f + 2) 1)) 0) 0 1 fun y5 => (Pb y5 (Pm (PL 0 (gtN (sq1 a b d e h i j k l f) (f + 2) 2)) (Pm (PL (gtN (sq1 a b d e h i j k l f) (f + 2) 2) 1000000) (Pb (iteZ (Pe (gtN (sq1 a b d e h i j k l f) (f + 2) 2) 0) (sameB (gtC (sq1 a b d e h i j k l f) 2) 0 (gtN (sq1 a b d e h i j k l f) (f + 2) 2)) 0) (Pm (PL 0 (gtN (sq1 a b d e h i j k l f) (f + 2) 3)) (Pm (PL (gtN (sq1 a b d e h i j k l f) (f + 2) 3) 1000000) (Pn (iteZ (Pe (gtN (sq1 a b d e h i j k l f) (f + 2) 3) 0) (qKc (gtC (sq1 a b d e h i j k l f) 3) 0 (gtN (sq1 a b d e h i j k l f) (f + 2) 3)) 0) 0 1 fun y6 => (Pb y6 (Pm (PL 0 (gtN (sq1 a b d e h i j k l f) (f + 2) 4)) (Pm (PL (gtN (sq1 a b d e h i j k l f) (f + 2) 4) 1000000) (Pn (iteZ (Pe (gtN (sq1 a b d e h i j k l f) (f + 2)
 4) 0) (qKc (gtC (sq1 a b d e h i j k l f) 4) 0 (gtN (sq1 a b d e h i j k l f) (f + 2) 4)) 0) 0 1 fun y7 => (Pb y7 (Pb (Pe g 0) Pt (Pb (Pe y3 5) (Pm (PL 0 (gtN (sq0 a b d e h i j k l c n y2) (y2 + 2) 0)) (Pm (PL (gtN (sq0 a b d e h i j k l c n y2) (y2 + 2) 0) 1000000) (Pn (iteZ (Pe (gtN (sq0 a b d e h i j k l c n y2) (y2 + 2) 0) 0) (qJp (gtC (sq0 a b d e h i j k l c n y2) 0) 0 (gtN (sq0 a b d e h i j k l c n y2) (y2 + 2) 0)) 0) 0 1 fun y8 => (Pb y8 (Pm (PL 0 (gtN (sq0 a b d e h i j k l c n y2) (y2 + 2) 1)) (Pm (PL (gtN (sq0 a b d e h i j k l c n y2) (y2 + 2) 1) 1000000) (Pn (iteZ (Pe (gtN (sq0 a b d e h i j k l c n y2) (y2 + 2) 1) 0) (qJp (gtC (sq0 a b d e h i j k l c n y2) 1) 0 (gtN (sq0 a b d e h i j k l c n y2) (y2 + 2) 1)) 0) 0 1 fun y9 => (Pb y9 (Pm (PL 0 (gtN (sq0 a b d e h i
 j k l c n y2) (y2 + 2) 2)) (Pm (PL (gtN (sq0 a b d e h i j k l c n y2) (y2 + 2) 2) 1000000) (Pb (iteZ (Pe (gtN (sq0 a b d e h i j k l c n y2) (y2 + 2) 2) 0) (sameB (gtC (sq0 a b d e h i j k l c n y2) 2) 0 (gtN (sq0 a b d e h i j k l c n y2) (y2 + 2) 2)) 0) (Pm (PL 0 (gtN (sq0 a b d e h i j k l c n y2) (y2 + 2) 3)) (Pm (PL (gtN (sq0 a b d e h i j k l c n y2) (y2 + 2) 3) 1000000) (Pn (iteZ (Pe (gtN (sq0 a b d e h i j k l c n y2) (y2 + 2) 3) 0) (qKc (gtC (sq0 a b d e h i j k l c n y2) 3) 0 (gtN (sq0 a b d e h i j k l c n y2) (y2 + 2) 3)) 0) 0 1 fun y10 => (Pb y10 (Pm (PL 0 (gtN (sq0 a b d e h i j k l c n y2) (y2 + 2) 4)) (Pm (PL (gtN (sq0 a b d e h i j k l c n y2) (y2 + 2) 4) 1000000) (Pn (iteZ (Pe (gtN (sq0 a b d e h i j k l c n y2) (y2 + 2) 4) 0) (qKc (gtC (sq0 a b d e h i j k l c n
 y2) 4) 0 (gtN (sq0 a b d e h i j k l c n y2) (y2 + 2) 4)) 0) 0 1 fun y11 => (Pb y11 Pt Pf)))) Pf)))) Pf))) Pf)))) Pf)))) Pf)) Pf)))) Pf)))) Pf))) Pf)))) Pf)))) Pf)))))))))))))))))))))))))))))))))) Pt) Pt) Pt) Pt)

theorem holds (n0_0 n0_1 n0_2 n0_3 n0_4 p1 n2 c0_0 c0_1 c0_2 c0_3 c0_4 c2 r0_0 r0_1 r0_2 r0_3 r0_4 r2 : Int) (l_n0_0 : 0 ≤ n0_0) (u_n0_0 : n0_0 ≤ 140737488355328) (l_n0_1 : 0 ≤ n0_1) (u_n0_1 : n0_1 ≤ 140737488355328) (l_n0_2 : 0 ≤ n0_2) (u_n0_2 : n0_2 ≤ 140737488355328) (l_n0_3 : 0 ≤ n0_3) (u_n0_3 : n0_3 ≤ 140737488355328) (l_n0_4 : 0 ≤ n0_4) (u_n0_4 : n0_4 ≤ 140737488355328) (l_p1 : -9223372036854775808 ≤ p1) (u_p1 : p1 ≤ 9223372036854775807) (l_n2 : 0 ≤ n2) (u_n2 : n2 ≤ 140737488355328) (h_n0_0 : n0_0 ≤ r0_0) (h_n0_1 : n0_1 ≤ r0_1) (h_n0_2 : n0_2 ≤ r0_2) (h_n0_3 : n0_3 ≤ r0_3) (h_n0_4 : n0_4 ≤ r0_4) (h_n2 : n2 ≤ r2) : P n0_0 n0_1 n0_2 n0_3 n0_4 p1 n2 c0_0 c0_1 c0_2 c0_3 c0_4 c2 r0_0 r0_1 r0_2 r0_3 r0_4 r2 := by
  delta P sq0 sq1 sq2 Pb Pm Pn Pf Pt PL Pl Pe Pd W6 kZ
  simp only [nrm, nro, Int.reduceEq, Int.reduceNeg, reduceIte]
  simp only [chk_ev, putN_ev, putZ_ev]
  have hw : ∀ c d : Int, ¬ qJp c d 0 = 0 := fun c d => by rw [sameW_one fun j h0 h1 => by omega]; decide
  have hb : ∀ c d : Int, ¬ sameB c d 0 = 0 := fun c d => by unfold sameB; rw [if_pos fun i hi => by omega]; decide
  have hz : ∀ c d : Int, ¬ qKc c d 0 = 0 := fun c d => (sameZ_iff c d 0).2 fun i hi => by omega
  refine ⟨fun a0 => ⟨fun a1 => ⟨fun a2 => ⟨fun a3 => ⟨fun _ => trivial, fun a4 => ⟨fun _ => trivial, fun a5 => ⟨by omega, by omega, by omega, by omega, by omega, by omega, by omega, by omega, by omega, by omega, ?_⟩⟩⟩, fun _ => trivial⟩, fun _ => trivial⟩, fun _ => trivial⟩, fun _ => trivial⟩
  rintro y0 h0 _
  refine ⟨fun _ => trivial, fun hc => ?_⟩
  rw [hc] at h0
  have hchk := h0.symm
  obtain ⟨_, _, _, _, hS, _⟩ := chk_zero hchk
  subst hS
  have F := chk_fit hchk l_n0_0 l_n0_1 l_n0_3 l_n0_4
  have hp : 0 ≤ pN n0_0 n0_2 n0_3 n0_4 ∧ pN n0_0 n0_2 n0_3 n0_4 ≤ 100000 := by unfold pN; omega
  have hbeg := fun l => beg_put n0_0 n0_2 n0_3 n0_4 c0_0 c0_1 c0_2 c0_3 c0_4 hp.1 l
  simp only [hchk, if_true]
  have hw64 : IntKind.wrap .i64 (pN n0_0 n0_2 n0_3 n0_4 + 2 - 2) = pN n0_0 n0_2 n0_3 n0_4 := by rw [w64 (by omega) (by omega)]; omega
  rw [hw64]
  refine ⟨fun _ => trivial, fun g0 => ⟨by omega, fun _ => trivial, fun g1 => ⟨by omega, by omega, by omega, by omega, by omega, ?_⟩⟩⟩
  generalize hq : slcZ (pC n0_0 n0_2 n0_3 n0_4 c0_0 c0_1 c0_2 c0_3 c0_4) (pN n0_0 n0_2 n0_3 n0_4) = q at hbeg ⊢
  -- too few
  have e1 : gtE (slcZ q p1) (p1 + 2) = 4 := by
    rw [gtE_in (ope_slc q g0), show p1 + 2 - 2 = p1 by omega]
    refine beg_short (cC := c0_0) (cD := c0_1) (cS := c0_2) (cI := c0_3) (cO := c0_4) F (l := p1) (fun i i0 i1 i2 => ?_) g0 g1
    obtain ⟨k, rfl⟩ : ∃ k : Nat, i = k := ⟨i.toNat, by omega⟩
    rw [slc_by g0 i1]
    exact hbeg p1 k i0 i1 i2
  have z1 : ∀ k, gtN (slcZ q p1) (p1 + 2) k = 0 := gtN_bad (by rw [e1]; decide)
  rw [e1]
  rintro y1 hy1 _
  refine ⟨by omega, by omega, by omega, by omega, by omega, by omega, ?_⟩
  rintro L rfl _
  refine ⟨by omega, by omega, ?_⟩
  generalize hqa : appZ (appZ 0 0 q) (pN n0_0 n0_2 n0_3 n0_4) c2 = qa
  have hL0 : 0 ≤ pN n0_0 n0_2 n0_3 n0_4 + n2 := by omega
  -- too many
  have e2 : ¬ n2 = 0 → gtE (slcZ qa (pN n0_0 n0_2 n0_3 n0_4 + n2)) (pN n0_0 n0_2 n0_3 n0_4 + n2 + 2) = 5 := fun hn => by
    rw [gtE_in (ope_slc qa hL0), show pN n0_0 n0_2 n0_3 n0_4 + n2 + 2 - 2 = pN n0_0 n0_2 n0_3 n0_4 + n2 by omega]
    refine beg_long (cC := c0_0) (cD := c0_1) (cS := c0_2) (cI := c0_3) (cO := c0_4) F (l := pN n0_0 n0_2 n0_3 n0_4 + n2) (fun i i0 i1 i2 => ?_) (by omega)
    obtain ⟨k, rfl⟩ : ∃ k : Nat, i = k := ⟨i.toNat, by omega⟩
    rw [slc_by hL0 i1, ← hbeg _ k i0 i1 i2, ← hqa]
    unfold byt
    rw [rdZ_app, if_pos (by omega), rdZ_app, if_neg (by simp)]
    congr 2
  rintro y3 hy3 _
  simp only [z1, if_true]
  refine ⟨hy1, ?_⟩
  refine ⟨by decide, by decide, ?_⟩
  rintro _ rfl _
  refine ⟨hw _ _, by decide, by decide, ?_⟩
  rintro _ rfl _
  refine ⟨hw _ _, by decide, by decide, hb _ _, by decide, by decide, ?_⟩
  rintro _ rfl _
  refine ⟨hz _ _, by decide, by decide, ?_⟩
  rintro _ rfl _
  refine ⟨hz _ _, ?_⟩
  refine ⟨fun _ => trivial, fun hn => ?_⟩
  have z2 : ∀ k, gtN (slcZ qa (pN n0_0 n0_2 n0_3 n0_4 + n2)) (pN n0_0 n0_2 n0_3 n0_4 + n2 + 2) k = 0 := gtN_bad (by rw [e2 hn]; decide)
  rw [e2 hn] at hy3
  simp only [z2, if_true]
  refine ⟨hy3, ?_⟩
  refine ⟨by decide, by decide, ?_⟩
  rintro _ rfl _
  refine ⟨hw _ _, by decide, by decide, ?_⟩
  rintro _ rfl _
  refine ⟨hw _ _, by decide, by decide, hb _ _, by decide, by decide, ?_⟩
  rintro _ rfl _
  refine ⟨hz _ _, by decide, by decide, ?_⟩
  rintro _ rfl _
  exact hz _ _

theorem plain (i v ro p) : statR 2 rc tree ⟨i, fN, v, ro, p⟩ = P (i 0) (i 1) (i 2) (i 3) (i 4) (i 5) (i 6) (i 7) (i 8) (i 9) (i 10) (i 11) (i 12) (i 13) (i 14) (i 15) (i 16) (i 17) (i 18) := by kernel_rfl
theorem ran : ranR us (fun _ _ => .auto) rc 2 tree = true := by kernel_rfl
theorem fineT : fineR 2 rc tree = true := by kernel_rfl
theorem ok : RcOk (cxOf 2) rc := okR us_ok ran fineT okb fun i v ro p hρ hcap hpre => by rw [plain]; have q := hρ.hi; exact holds _ _ _ _ _ _ _ _ _ _ _ _ _ _ _ _ _ _ _ (q 0 _ rfl).1 (q 0 _ rfl).2 (q 1 _ rfl).1 (q 1 _ rfl).2 (q 2 _ rfl).1 (q 2 _ rfl).2 (q 3 _ rfl).1 (q 3 _ rfl).2 (q 4 _ rfl).1 (q 4 _ rfl).2 (q 5 _ rfl).1 (q 5 _ rfl).2 (q 6 _ rfl).1 (q 6 _ rfl).2 (hcap _ (mg 0 rfl)) (hcap _ (mg 1 rfl)) (hcap _ (mg 2 rfl)) (hcap _ (mg 3 rfl)) (hcap _ (mg 4 rfl)) (hcap _ (mg 5 rfl))
theorem laidMet_tail {P : Program} {x : String × DataW Unit} {rest : List (String × DataW Unit)} {W : World} (h : laidMet P (x :: rest) W) : laidMet P rest W := by
  obtain ⟨ps, hl, hn, hf⟩ := h
  obtain ⟨n, d⟩ := x
  obtain ⟨g, t, cs, fuel, p, q, _, _, _, _, hq, rfl⟩ := hl
  exact ⟨q, hq, (List.nodup_append.1 hn).2.1, fun b off hm => hf b off (List.mem_append_right _ hm)⟩
theorem listE_LZ (P : Program) (l : List Int) (ro : List RO) : ∀ zs : List Int, (qZx (zs.map E.c)).ev (envR P l ro) = LZ zs
  | [] => rfl
  | z :: zs => by
    have h : (qZx ((z :: zs).map E.c)).ev (envR P l ro) = qQz z ((qZx (zs.map E.c)).ev (envR P l ro)) := rfl
    rw [h, listE_LZ P l ro zs]
    unfold qQz
    rw [ZL_LZ]
def tab0 : List Int := [0, 4129, 8258, 12387, 16516, 20645, 24774, 28903, 33032, 37161, 41290, 45419, 49548, 53677, 57806, 61935]
theorem tabG0 : Tryd.prog.globalNamed "astrolabe/crc.four" = some 0 := by kernel_rfl
theorem tabW0 : ∀ z ∈ tab0, IntKind.wrap .i32 z = z := fun z hz => by
  have h := List.all_eq_true.1 (show tab0.all (fun z => decide (IntKind.wrap .i32 z = z)) = true by kernel_rfl) z hz
  simpa using h
theorem tabIs0 {W : World} (h : laidMetH Tryd.prog Rows.imageShortRow.laid W) : Lib.TabIs Tryd.prog W "astrolabe/crc.four" .i32 tab0 := by
  rw [MakeChecks.laidMetH_plain _ _ _ (by kernel_rfl)] at h
  exact Lib.tabIs_of_head tabG0 (t := 94) (e := 21) (n := 16) (by kernel_rfl) (by kernel_rfl) (by kernel_rfl) (by kernel_rfl) (by kernel_rfl) h

theorem walk (w : World) (a0_0 : RO) (k0_0 : a0_0.cks = [.int .u32]) (n0_0 : a0_0.a = none → a0_0.n = 0) (m0_0 : a0_0.n ≤ a0_0.cap) (t0_0 : RoAt w a0_0) (b0_0 : (a0_0.n : Int) ≤ 140737488355328) (a0_1 : RO) (k0_1 : a0_1.cks = [.int .i32]) (n0_1 : a0_1.a = none → a0_1.n = 0) (m0_1 : a0_1.n ≤ a0_1.cap) (t0_1 : RoAt w a0_1) (b0_1 : (a0_1.n : Int) ≤ 140737488355328) (a0_2 : RO) (k0_2 : a0_2.cks = [.bool]) (n0_2 : a0_2.a = none → a0_2.n = 0) (m0_2 : a0_2.n ≤ a0_2.cap) (t0_2 : RoAt w a0_2) (b0_2 : (a0_2.n : Int) ≤ 140737488355328) (a0_3 : RO) (k0_3 : a0_3.cks = [.int .i64]) (n0_3 : a0_3.a = none → a0_3.n = 0) (m0_3 : a0_3.n ≤ a0_3.cap) (t0_3 : RoAt w a0_3) (b0_3 : (a0_3.n : Int) ≤ 140737488355328) (a0_4 : RO) (k0_4 : a0_4.cks = [.int .i64]) (n0_4 : a0_4.a = none → a0_4.n = 0) (m0_4 : a0_4.n ≤ a0_4.cap) (t0_4 : RoAt w a0_4) (b0_4 : (a0_4.n : Int) ≤ 140737488355328) (a1 : Int) (w1 : (Lit.int .i64 a1).wf = true) (a2 : RO) (k2 : a2.cks = [.int .u8]) (n2 : a2.a = none → a2.n = 0) (m2 : a2.n ≤ a2.cap) (t2 : RoAt w a2) (b2 : (a2.n : Int) ≤ 140737488355328) (tb0 : Lib.TabIs Tryd.prog w "astrolabe/crc.four" .i32 tab0) :
    Calls Tryd.prog 3 #[.agg #[.slice a0_0.a a0_0.n a0_0.cap, .slice a0_1.a a0_1.n a0_1.cap, .slice a0_2.a a0_2.n a0_2.cap, .slice a0_3.a a0_3.n a0_3.cap, .slice a0_4.a a0_4.n a0_4.cap], .int .i64 a1, .slice a2.a a2.n a2.cap] w fun e w' => e = .returned (.bool true) ∧ Below w.heap.size w w' := by
  refine law_of (cx := cxOf 2) ok ⟨rfl, rfl, rfl⟩ (ρ := envR Tryd.prog [(a0_0.n : Int), (a0_1.n : Int), (a0_2.n : Int), (a0_3.n : Int), (a0_4.n : Int), a1, (a2.n : Int), a0_0.c, a0_1.c, a0_2.c, a0_3.c, a0_4.c, a2.c, (a0_0.cap : Int), (a0_1.cap : Int), (a0_2.cap : Int), (a0_3.cap : Int), (a0_4.cap : Int), (a2.cap : Int)] [a0_0, a0_1, a0_2, a0_3, a0_4, a2, tabRo 0 .i32 tab0]) (envR_ok (cx := rc.cx (cxOf 2)) rfl rfl (bnd_cons ⟨Int.natCast_nonneg _, b0_0⟩ (bnd_cons ⟨Int.natCast_nonneg _, b0_1⟩ (bnd_cons ⟨Int.natCast_nonneg _, b0_2⟩ (bnd_cons ⟨Int.natCast_nonneg _, b0_3⟩ (bnd_cons ⟨Int.natCast_nonneg _, b0_4⟩ (bnd_cons (wf_bd w1) (bnd_cons ⟨Int.natCast_nonneg _, b2⟩ (bnd_nil _)))))))) ⟨⟨k0_0, rfl, (Int.toNat_natCast _).symm, (Int.toNat_natCast _).symm, n0_0, fun g h => by cases h⟩, ⟨⟨k0_1, rfl, (Int.toNat_natCast _).symm, (Int.toNat_natCast _).symm, n0_1, fun g h => by cases h⟩, ⟨⟨k0_2, rfl, (Int.toNat_natCast _).symm, (Int.toNat_natCast _).symm, n0_2, fun g h => by cases h⟩, ⟨⟨k0_3, rfl, (Int.toNat_natCast _).symm, (Int.toNat_natCast _).symm, n0_3, fun g h => by cases h⟩, ⟨⟨k0_4, rfl, (Int.toNat_natCast _).symm, (Int.toNat_natCast _).symm, n0_4, fun g h => by cases h⟩, ⟨⟨k2, rfl, (Int.toNat_natCast _).symm, (Int.toNat_natCast _).symm, n2, fun g h => by cases h⟩, ⟨⟨rfl, (listE_LZ _ _ _ tab0).symm, rfl, rfl, (fun h => by cases h), fun g h => by cases h; rfl⟩, trivial⟩⟩⟩⟩⟩⟩⟩) (fun d hd => by
    simp only [show qXh rc.b rc.c rc.ls 0 0 0 = [⟨[.int .u32], .v 7, .v 0, .v 13, none⟩, ⟨[.int .i32], .v 8, .v 1, .v 14, none⟩, ⟨[.bool], .v 9, .v 2, .v 15, none⟩, ⟨[.int .i64], .v 10, .v 3, .v 16, none⟩, ⟨[.int .i64], .v 11, .v 4, .v 17, none⟩, ⟨[.int .u8], .v 12, .v 6, .v 18, none⟩] from rfl, List.mem_cons, List.not_mem_nil, or_false] at hd
    rcases hd with rfl | rfl | rfl | rfl | rfl | rfl
    · exact Int.ofNat_le.2 m0_0
    · exact Int.ofNat_le.2 m0_1
    · exact Int.ofNat_le.2 m0_2
    · exact Int.ofNat_le.2 m0_3
    · exact Int.ofNat_le.2 m0_4
    · exact Int.ofNat_le.2 m2) (roOk_of ⟨t0_0, ⟨t0_1, ⟨t0_2, ⟨t0_3, ⟨t0_4, ⟨t2, ⟨tabRo_at tb0 tabG0 tabW0, trivial⟩⟩⟩⟩⟩⟩⟩) ?_
  rw [show rc.args = [.agg [.sl (.inp 0) 1 (.c 0) (.v 0) (some (.v 13)), .sl (.inp 1) 1 (.c 0) (.v 1) (some (.v 14)), .sl (.inp 2) 1 (.c 0) (.v 2) (some (.v 15)), .sl (.inp 3) 1 (.c 0) (.v 3) (some (.v 16)), .sl (.inp 4) 1 (.c 0) (.v 4) (some (.v 17))], .int .i64 (.v 5), .sl (.inp 5) 1 (.c 0) (.v 6) (some (.v 18))] from rfl]
  simp only [SV.denL, SV.den, E.ev, map_addr_zero]
  rfl
theorem lifted (os : Os) (started : os.Started) (H : Type) (enc : TypeId × Value → H) :
    ReturnsInHanded {} Tryd.checked os 3 .any (fun w args => (Rows.imageShortSpec.pre enc Tryd.prog Tryd.f3 Rows.imageShortRow.domain false w args ∧ laidMetH Tryd.prog Rows.imageShortRow.laid w) ∧ sizedMet enc Tryd.prog Tryd.f3 (OpenSpec.ofChange Rows.imageShortSpec) false w args)
      (Rows.imageShortSpec.post enc Tryd.prog Tryd.f3 false true false false) := by
  refine returnsInHanded_of_change_and (C := Tryd.checked) (X := fun w _ => laidMetH Tryd.prog Rows.imageShortRow.laid w) (fun _ _ _ hh h => h.of_heap hh) own started (by kernel_rfl) Tryd.func3
    (ChangeSpec.witness_shaped (enc := enc) (C := Tryd.checked) (os := os) (X := fun w _ => laidMetH Tryd.prog Rows.imageShortRow.laid w) false (World.laidAll Tryd.prog os Rows.imageShortRow.laid) #[.agg #[.slice none 0 0, .slice none 0 0, .slice none 0 0, .slice none 0 0, .slice none 0 0], .int .i64 0, .slice none 0 0] 8 (World.laidAll_os _ _ _)
      (World.shaped_of_ZipB (by kernel_rfl) (by kernel_rfl)) (by kernel_rfl) (by kernel_rfl) (by kernel_rfl)
      (by rw [MakeChecks.laidMetH_plain _ _ _ (by kernel_rfl)]; exact laidMet_laidAll _ (by kernel_rfl) (by kernel_rfl))) ?_
  intro W base args ds gs before hval0 hW hcnd hw0 hL _
  have hval : ∀ (j : Nat) t v, Tryd.f3.params[j]? = some t → args[j]? = some v → Value.okWide Tryd.prog W .any base t v := hval0
  have hW' := hW
  obtain ⟨p, q, hA0, hV, rfl, hfz, hnd⟩ := hW
  have hA : DataW.TrodAll enc Tryd.prog W 0 (fun _ => true) true Tryd.f3.params.toList args.toList ds p := hA0
  have hw := hw0
  rw [Tryd.params3] at hA hval hw
  obtain ⟨v0, vs0, d0, ds0, p0, q0, hargs, rfl, rfl, h0, r0⟩ := trodAll_cons hA
  have h0k := h0
  obtain ⟨v1, vs1, d1, ds1, p1, q1, rfl, rfl, rfl, h1, r1⟩ := trodAll_cons r0
  have h1k := h1
  obtain ⟨v2, vs2, d2, ds2, p2, q2, rfl, rfl, rfl, h2, r2⟩ := trodAll_cons r1
  have h2k := h2
  obtain ⟨rfl, rfl, rfl⟩ := trodAll_nil r2
  obtain rfl : args = #[v0, v1, v2] := by cases args; simp_all
  obtain ⟨rfl, rfl⟩ := trodVars_none hV
  obtain ⟨ros0, hl0, rfl, hp0⟩ := Go.Eng.open_rows (kss := [[.int .u32], [.int .i32], [.bool], [.int .i64], [.int .i64]]) Tryd.underlying27 (by kernel_rfl) (by kernel_rfl) ⟨⟨⟨_, Tryd.underlying22, (ElT.one Tryd.underlying41 (by kernel_rfl)), of_decide_eq_true (by kernel_rfl), by kernel_rfl⟩, by decide⟩, ⟨⟨_, Tryd.underlying23, (ElT.one Tryd.underlying21 (by kernel_rfl)), of_decide_eq_true (by kernel_rfl), by kernel_rfl⟩, by decide⟩, ⟨⟨_, Tryd.underlying24, (ElT.one Tryd.underlying4 (by kernel_rfl)), of_decide_eq_true (by kernel_rfl), by kernel_rfl⟩, by decide⟩, ⟨⟨_, Tryd.underlying25, (ElT.one Tryd.underlying3 (by kernel_rfl)), of_decide_eq_true (by kernel_rfl), by kernel_rfl⟩, by decide⟩, ⟨⟨_, Tryd.underlying25, (ElT.one Tryd.underlying3 (by kernel_rfl)), of_decide_eq_true (by kernel_rfl), by kernel_rfl⟩, by decide⟩, trivial⟩ (hval 0 27 v0 rfl rfl) h0 (weights_of (gs := []) hw (j := 0) (t := 27) rfl rfl)
  obtain ⟨a0_0, ros0, rfl⟩ := List.exists_cons_of_length_eq_add_one hl0
  have hl0 := Nat.succ.inj hl0
  obtain ⟨a0_1, ros0, rfl⟩ := List.exists_cons_of_length_eq_add_one hl0
  have hl0 := Nat.succ.inj hl0
  obtain ⟨a0_2, ros0, rfl⟩ := List.exists_cons_of_length_eq_add_one hl0
  have hl0 := Nat.succ.inj hl0
  obtain ⟨a0_3, ros0, rfl⟩ := List.exists_cons_of_length_eq_add_one hl0
  have hl0 := Nat.succ.inj hl0
  obtain ⟨a0_4, ros0, rfl⟩ := List.exists_cons_of_length_eq_add_one hl0
  have hl0 := Nat.succ.inj hl0
  obtain rfl := List.eq_nil_of_length_eq_zero hl0
  obtain ⟨k0_0, n0_0, m0_0, t0_0, b0_0, _⟩ := hp0 0 _ _ rfl rfl
  obtain ⟨k0_1, n0_1, m0_1, t0_1, b0_1, _⟩ := hp0 1 _ _ rfl rfl
  obtain ⟨k0_2, n0_2, m0_2, t0_2, b0_2, _⟩ := hp0 2 _ _ rfl rfl
  obtain ⟨k0_3, n0_3, m0_3, t0_3, b0_3, _⟩ := hp0 3 _ _ rfl rfl
  obtain ⟨k0_4, n0_4, m0_4, t0_4, b0_4, _⟩ := hp0 4 _ _ rfl rfl
  obtain ⟨a1, rfl, rfl, rfl, w1⟩ := open_int Tryd.underlying3 (hval 1 3 v1 rfl rfl) h1
  obtain ⟨a2, k2, rfl, n2, m2, t2, b2, _⟩ := Go.Eng.open_row (ks := [.int .u8]) Tryd.underlying28 (ElT.one Tryd.underlying5 (by kernel_rfl)) (by decide) (of_decide_eq_true (by kernel_rfl)) (by kernel_rfl) (hval 2 28 v2 rfl rfl) h2 (weights_of (gs := []) hw (j := 2) (t := 28) rfl rfl)
  clear hA0 hval0
  refine (walk W a0_0 k0_0 n0_0 m0_0 t0_0 b0_0 a0_1 k0_1 n0_1 m0_1 t0_1 b0_1 a0_2 k0_2 n0_2 m0_2 t0_2 b0_2 a0_3 k0_3 n0_3 m0_3 t0_3 b0_3 a0_4 k0_4 n0_4 m0_4 t0_4 b0_4 a1 w1 a2 k2 n2 m2 t2 b2 (tabIs0 hL)).mono fun e W' ⟨he, hg⟩ => ?_
  subst he
  have hin0 : ∀ x ∈ p0, x ∈ p0 ++ ([] ++ (p2 ++ [])) ++ [] := fun x hx => by simp [hx]
  have hlt0 : ∀ x ∈ p0, x.block < W.heap.size := fun x hx => by simpa using hW'.lt x (by simp [hx])
  have hin2 : ∀ x ∈ p2, x ∈ p0 ++ ([] ++ (p2 ++ [])) ++ [] := fun x hx => by simp [hx]
  have hlt2 : ∀ x ∈ p2, x.block < W.heap.size := fun x hx => by simpa using hW'.lt x (by simp [hx])
  exact ⟨_, rfl, post_below (pa := _) (pv := []) hW' hg (fun _ _ _ => (trodAll_cons_mk (shut_bool Tryd.underlying4 _) trodAll_mk0)) (fun sp hsp => (trodAll_cons_mk (WideElems.Trod_stays laidOut (by kernel_rfl) (of_decide_eq_true (by kernel_rfl)) h0k (fun x hx => hg.same (hlt0 x hx)) (fun x hx => hsp x (hin0 x hx))) (trodAll_cons_mk (shut_int Tryd.underlying3 w1) (trodAll_cons_mk (WideElems.Trod_stays laidOut (by kernel_rfl) (of_decide_eq_true (by kernel_rfl)) h2k (fun x hx => hg.same (hlt2 x hx)) (fun x hx => hsp x (hin2 x hx))) trodAll_mk0)))) (fun _ _ => rfl) (by simp)
    (ok_one (by kernel_rfl) rfl (okWide_bool_mk Tryd.underlying4 _))⟩

theorem over : Rows.imageShortRow.holds Tryd.pinned (OpenSpec.ofChange Rows.imageShortSpec) :=
  OpenClaim.holds_of_wide 3 Tryd.f3 rfl rfl rfl rfl rfl rfl rfl ⟨rfl, rfl, rfl, rfl, rfl⟩ rfl rfl rfl rfl rfl (by kernel_rfl) Tryd.func3 (by kernel_rfl)
    (of_decide_eq_true (by kernel_rfl)) (by unfold Func.isWrapper; first | (rw [if_pos (by decide +kernel)]; kernel_rfl) | (rw [if_neg (by decide +kernel)]; exact ⟨rfl, rfl⟩))
    (fun os started H enc _ => lifted os started H enc)

/-- the statement -/
theorem proved : Rows.ImageShortCardSaid :=
  Claim7.holds_tied_plain_at .later [] [.data] true (true, "1c525066835f2bb1417f890dfa84707824a61b34b5f422b13fcac4f0475469f8") true
    over (fun _ h => by cases h) (by kernel_rfl) (fun _ h => by cases h) imageShort_row_tie rfl ⟨rfl, rfl⟩ (by kernel_rfl) rfl
    (fun f fn hf hfn => by
      obtain rfl : f = 3 := Option.some.inj ((show Tryd.prog.funcNamed "astrolabe/astrolabelaw22.ImageShort" = some 3 by kernel_rfl).symm.trans hf) |>.symm
      obtain rfl : fn = Tryd.f3 := (Option.some.inj (Tryd.func3.symm.trans hfn)).symm
      exact ⟨by kernel_rfl, fun j t ht => by
        rw [Tryd.params3] at ht
        have h3 : t = 3 ∨ t = 27 ∨ t = 28 := by
          rcases j with _ | _ | _ | j
          · exact (.inr (.inl (by simpa using ht.symm)))
          · exact (.inl (by simpa using ht.symm))
          · exact (.inr (.inr (by simpa using ht.symm)))
          · simp at ht
        rcases h3 with rfl | rfl | rfl
        · exact (show Tryd.prog.wantsStandIn 3 = false by kernel_rfl)
        · exact (show Tryd.prog.wantsStandIn 27 = false by kernel_rfl)
        · exact (show Tryd.prog.wantsStandIn 28 = false by kernel_rfl)⟩)
    (by kernel_rfl)
#print axioms proved
end Go.Proofs.YtkjbmbmdmhfbeacDoor.imageShort
