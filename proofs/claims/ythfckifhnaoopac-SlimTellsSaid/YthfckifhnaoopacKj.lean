/-
  What functions of the program answer, as numbers of what they are handed: their runs by the engine, the plain statements behind them. No condition.
-/
import Derived.Test.YthfckifhnaoopacKi
import Derived.Test.YthfckifhnaoopacGab
import Derived.Test.YthfckifhnaoopacGp1
import Derived.Test.YthfckifhnaoopacGp2
set_option linter.unusedVariables false
set_option linter.unusedSimpArgs false
set_option maxRecDepth 100000
namespace Go.Proofs.Ythfckifhnaoopac
open Go.Eng Go.RowKit
namespace CRFie13
def rc : Rc := ⟨61, [none, none], [.int .u8, .int .i64], [], .one, [.int .i64 (.ite (.b .eq .i64 (.v 0) (.c 45)) (.ite (.b .eq .i64 (.v 1) (.c 0)) (.c 0) (.c 3)) (.ite (.b .eq .i64 (.v 0) (.c 115)) (.ite (.b .le .i64 (.b .psub .i64 (.c 0) (.c 32768)) (.v 1)) (.ite (.b .le .i64 (.v 1) (.c 32767)) (.c 0) (.c 6)) (.c 6)) (.ite (.b .eq .i64 (.v 0) (.c 117)) (.ite (.b .le .i64 (.c 0) (.v 1)) (.ite (.b .le .i64 (.v 1) (.c 65535)) (.c 0) (.c 6)) (.c 6)) (.ite (.b .le .i64 (.c 0) (.v 1)) (.ite (.b .le .i64 (.v 1) (.c 31)) (.c 0) (.c 6)) (.c 6)))))]⟩
theorem okb : rc.ok = true := by kernel_rfl
noncomputable def us : SMs := fun Γ ins n => smH (cxG n Γ ins) [] (smR (cxG n Γ ins) [])
theorem us_ok : SMsOk us := fun Γ ins n => qZp (tabsG n Γ ins) (qZk _) (qZo (tabsG n Γ ins) (qZy _))
def tree : TT (List E) :=
 (.br (te (.v 0) (.c 45)) (.br (tn (.v 1) (.c 0)) (.leaf [(.c 3)]) (.leaf [(.c 0)])) (.br (te (.v 0) (.c 115)) (.br (tk (.v 1) (.c (-32768))) (.leaf [(.c 6)]) (.br (tk (.c 32767) (.v 1)) (.leaf [(.c 6)]) (.leaf [(.c 0)]))) (.br (te (.v 0) (.c 117)) (.br (tk (.v 1) (.c 0)) (.leaf [(.c 6)]) (.br (tk (.c 65535) (.v 1)) (.leaf [(.c 6)]) (.leaf [(.c 0)]))) (.br (tk (.v 1) (.c 0)) (.leaf [(.c 6)]) (.br (tk (.c 31) (.v 1)) (.leaf [(.c 6)]) (.leaf [(.c 0)]))))))
def sL0 (a b z0 : Int) : Prop := (z0 : Int) = (iteZ (Pe a 45) (iteZ (Pe b 0) 0 3) (iteZ (Pe a 115) (iteZ (PL (0 - 32768) b) (iteZ (PL b 32767) 0 6) 6) (iteZ (Pe a 117) (iteZ (PL 0 b) (iteZ (PL b 65535) 0 6) 6) (iteZ (PL 0 b) (iteZ (PL b 31) 0 6) 6)))) ∧ True
def P (a b : Int) : Prop :=
 (Pb (Pe a 45) (Pb (Pd b 0) (sL0 a b 3) (sL0 a b 0)) (Pb (Pe a 115) (Pb (Pl b (-32768)) (sL0 a b 6) (Pb (Pl 32767 b) (sL0 a b 6) (sL0 a b 0))) (Pb (Pe a 117) (Pb (Pl b 0) (sL0 a b 6) (Pb (Pl 65535 b) (sL0 a b 6) (sL0 a b 0))) (Pb (Pl b 0) (sL0 a b 6) (Pb (Pl 31 b) (sL0 a b 6) (sL0 a b 0))))))
theorem holds (p0 p1 : Int) (l_p0 : 0 ≤ p0) (u_p0 : p0 ≤ 255) (l_p1 : -9223372036854775808 ≤ p1) (u_p1 : p1 ≤ 9223372036854775807) : P p0 p1 := by
 delta P sL0 Pb PL Pl Pe Pd
 simp only [nrm, Int.reduceEq, Int.reduceNeg, reduceIte]
 repeat' (refine And.intro (fun _ => ?_) (fun _ => ?_))
 all_goals (repeat' split)
 all_goals omega
theorem plain (i v ro p) : statR 2 rc tree ⟨i, fN, v, ro, p⟩ = P (i 0) (i 1) := by kernel_rfl
theorem ran : ranR us (fun f _ => if [61].contains f then .unroll 400 else .auto) rc 2 tree = true := by kernel_rfl
theorem fineT : fineR 2 rc tree = true := by kernel_rfl
theorem ok : RcOk (cxOf 2) rc := okR us_ok ran fineT okb fun i v ro p hρ hcap hpre => by rw [plain]; have q := hρ.hi; exact holds _ _ (q 0 _ rfl).1 (q 0 _ rfl).2 (q 1 _ rfl).1 (q 1 _ rfl).2
end CRFie13
namespace CRChk13
def rc : Rc := ⟨44, [some 5], [.int .i64, .int .i64, .int .i64, .int .i64, .int .i64], [], .one, [.int .i64 (.f 141 (.v 0) (.v 1) (qZj [(.v 2), (.v 3), (.v 4)]))]⟩
theorem okb : rc.ok = true := by kernel_rfl
noncomputable def us : SMs := fun Γ ins n => smH (cxG n Γ ins) [] (smR (cxG n Γ ins) [CRShape06.rc, CRFie13.rc])
theorem us_ok : SMsOk us := fun Γ ins n => qZp (tabsG n Γ ins) (qZk _) (qZo (tabsG n Γ ins) (qQe CRShape06.okb (rc_n CRShape06.ok) (qQe CRFie13.okb (rc_n CRFie13.ok) (qZy _))))
def Q0 : E := (tl (.c 1) (.v 0))
def Q1 : E := (tl (.v 0) (.c 43))
def Q2 : E := (.ite Q1 (.c 4) (.c 0))
def Q3 : E := (.ite Q0 Q2 (.c 0))
def Q4 : E := (tl (.v 0) (.c 38))
def Q5 : E := (te (.v 0) (.c 40))
def Q6 : E := (.ite Q5 (.c 100) (.c 45))
def Q7 : E := (.ite Q4 (.c 100) Q6)
def Q8 : E := (tl (.v 0) (.c 32))
def Q9 : E := (te (.v 0) (.c 33))
def Q10 : E := (te (.v 0) (.c 41))
def Q11 : E := (.ite Q10 (.c 97) (.c 45))
def Q12 : E := (.ite Q4 (.c 97) Q11)
def Q13 : E := (.ite Q9 (.c 45) Q12)
def Q14 : E := (.ite Q8 (.c 97) Q13)
def Q15 : E := (tl (.v 0) (.c 23))
def Q16 : E := (.ite Q15 (.c 98) (.c 45))
def Q17 : E := (te (.v 0) (.c 31))
def Q18 : E := (tl (.v 0) (.c 31))
def Q19 : E := (tl (.v 0) (.c 40))
def Q20 : E := (.ite Q19 (.c 117) (.c 45))
def Q21 : E := (.ite Q18 (.c 45) Q20)
def Q22 : E := (.ite Q17 (.c 115) Q21)
def Q23 : E := (tC Q22 (.c 0))
def Q24 : E := (tC Q16 Q23)
def Q25 : E := (tC Q14 Q24)
def Q26 : E := (tC Q7 Q25)
def Q27 : E := (tC Q26 (.c 0))
def Q28 : E := (tC Q3 Q27)
def Q29 : E := (.f 21 Q28 (.c 0) (.c 0))
def tree : TT (List E) :=
 (.br (.f 20 Q28 (tC (.c 0) (tC (.c 0) (.c 0))) (.c 0)) (.leaf [(.c 2)]) (.br (tk (.c 0) Q29) (.new 1000 (.f 22 Q28 (.c 0) (.c 0)) (.new 1001 (.ite (te (.cl 1000 0 255) (.c 45)) (.ite (te (.v 1) (.c 0)) (.c 0) (.c 3)) (.ite (te (.cl 1000 0 255) (.c 115)) (.ite (tl (.c (-32768)) (.v 1)) (.ite (tl (.v 1) (.c 32767)) (.c 0) (.c 6)) (.c 6)) (.ite (te (.cl 1000 0 255) (.c 117)) (.ite (tl (.c 0) (.v 1)) (.ite (tl (.v 1) (.c 65535)) (.c 0) (.c 6)) (.c 6)) (.ite (tl (.c 0) (.v 1)) (.ite (tl (.v 1) (.c 31)) (.c 0) (.c 6)) (.c 6))))) (.br (tn (.cl 1001 0 6) (.c 0)) (.leaf [(.cl 1001 0 6)]) (.br (tk (.c 1) Q29) (.new 1002 (.f 22 Q28 (.c 1) (.c 0)) (.new 1003 (.ite (te (.cl 1002 0 255) (.c 45)) (.ite (te (.v 2) (.c 0)) (.c 0) (.c 3)) (.ite (te (.cl 1002 0 255) (.c 115)) (.ite (tl (.c (-32768)) (.v
 2)) (.ite (tl (.v 2) (.c 32767)) (.c 0) (.c 6)) (.c 6)) (.ite (te (.cl 1002 0 255) (.c 117)) (.ite (tl (.c 0) (.v 2)) (.ite (tl (.v 2) (.c 65535)) (.c 0) (.c 6)) (.c 6)) (.ite (tl (.c 0) (.v 2)) (.ite (tl (.v 2) (.c 31)) (.c 0) (.c 6)) (.c 6))))) (.br (tn (.cl 1003 0 6) (.c 0)) (.leaf [(.cl 1003 0 6)]) (.br (tk (.c 2) Q29) (.new 1004 (.f 22 Q28 (.c 2) (.c 0)) (.new 1005 (.ite (te (.cl 1004 0 255) (.c 45)) (.ite (te (.v 3) (.c 0)) (.c 0) (.c 3)) (.ite (te (.cl 1004 0 255) (.c 115)) (.ite (tl (.c (-32768)) (.v 3)) (.ite (tl (.v 3) (.c 32767)) (.c 0) (.c 6)) (.c 6)) (.ite (te (.cl 1004 0 255) (.c 117)) (.ite (tl (.c 0) (.v 3)) (.ite (tl (.v 3) (.c 65535)) (.c 0) (.c 6)) (.c 6)) (.ite (tl (.c 0) (.v 3)) (.ite (tl (.v 3) (.c 31)) (.c 0) (.c 6)) (.c 6))))) (.br (tn (.cl 1005 0 6) (.c 0))
 (.leaf [(.cl 1005 0 6)]) (.br (tk (.c 3) Q29) (.new 1006 (.f 22 Q28 (.c 3) (.c 0)) (.new 1007 (.ite (te (.cl 1006 0 255) (.c 45)) (.ite (te (.v 4) (.c 0)) (.c 0) (.c 3)) (.ite (te (.cl 1006 0 255) (.c 115)) (.ite (tl (.c (-32768)) (.v 4)) (.ite (tl (.v 4) (.c 32767)) (.c 0) (.c 6)) (.c 6)) (.ite (te (.cl 1006 0 255) (.c 117)) (.ite (tl (.c 0) (.v 4)) (.ite (tl (.v 4) (.c 65535)) (.c 0) (.c 6)) (.c 6)) (.ite (tl (.c 0) (.v 4)) (.ite (tl (.v 4) (.c 31)) (.c 0) (.c 6)) (.c 6))))) (.br (tn (.cl 1007 0 6) (.c 0)) (.leaf [(.cl 1007 0 6)]) (.leaf [(.c 0)])))) (.bad 200))))) (.bad 200))))) (.bad 200))))) (.bad 200)))
noncomputable def sq0 (a : Int) : Int := (kZ (iteZ (PL 1 a) (iteZ (PL a 43) 4 0) 0) (kZ (kZ (iteZ (PL a 38) 100 (iteZ (Pe a 40) 100 45)) (kZ (iteZ (PL a 32) 97 (iteZ (Pe a 33) 45 (iteZ (PL a 38) 97 (iteZ (Pe a 41) 97 45)))) (kZ (iteZ (PL a 23) 98 45) (kZ (iteZ (Pe a 31) 115 (iteZ (PL a 31) 45 (iteZ (PL a 40) 117 45))) 0)))) 0))
def P (a b c d e : Int) : Prop :=
 (Pb (seqZ (sq0 a) (kZ 0 (kZ 0 0))) ((2 : Int) = (cckZ a b (kZ c (kZ d (kZ e 0)))) ∧ True) (Pm (Pl 0 (qZb (sq0 a))) (Pn (qZg (sq0 a) 0) 0 255 fun y0 => Pn (iteZ (Pe y0 45) (iteZ (Pe b 0) 0 3) (iteZ (Pe y0 115) (iteZ (PL (-32768) b) (iteZ (PL b 32767) 0 6) 6) (iteZ (Pe y0 117) (iteZ (PL 0 b) (iteZ (PL b 65535) 0 6) 6) (iteZ (PL 0 b) (iteZ (PL b 31) 0 6) 6)))) 0 6 fun y1 => (Pb (Pd y1 0) ((y1 : Int) = (cckZ a b (kZ c (kZ d (kZ e 0)))) ∧ True) (Pm (Pl 1 (qZb (sq0 a))) (Pn (qZg (sq0 a) 1) 0 255 fun y2 => Pn (iteZ (Pe y2 45) (iteZ (Pe c 0) 0 3) (iteZ (Pe y2 115) (iteZ (PL (-32768) c) (iteZ (PL c 32767) 0 6) 6) (iteZ (Pe y2 117) (iteZ (PL 0 c) (iteZ (PL c 65535) 0 6) 6) (iteZ (PL 0 c) (iteZ (PL c 31) 0 6) 6)))) 0 6 fun y3 => (Pb (Pd y3 0) ((y3 : Int) = (cckZ a b (kZ c (kZ d (kZ e
 0)))) ∧ True) (Pm (Pl 2 (qZb (sq0 a))) (Pn (qZg (sq0 a) 2) 0 255 fun y4 => Pn (iteZ (Pe y4 45) (iteZ (Pe d 0) 0 3) (iteZ (Pe y4 115) (iteZ (PL (-32768) d) (iteZ (PL d 32767) 0 6) 6) (iteZ (Pe y4 117) (iteZ (PL 0 d) (iteZ (PL d 65535) 0 6) 6) (iteZ (PL 0 d) (iteZ (PL d 31) 0 6) 6)))) 0 6 fun y5 => (Pb (Pd y5 0) ((y5 : Int) = (cckZ a b (kZ c (kZ d (kZ e 0)))) ∧ True) (Pm (Pl 3 (qZb (sq0 a))) (Pn (qZg (sq0 a) 3) 0 255 fun y6 => Pn (iteZ (Pe y6 45) (iteZ (Pe e 0) 0 3) (iteZ (Pe y6 115) (iteZ (PL (-32768) e) (iteZ (PL e 32767) 0 6) 6) (iteZ (Pe y6 117) (iteZ (PL 0 e) (iteZ (PL e 65535) 0 6) 6) (iteZ (PL 0 e) (iteZ (PL e 31) 0 6) 6)))) 0 6 fun y7 => (Pb (Pd y7 0) ((y7 : Int) = (cckZ a b (kZ c (kZ d (kZ e 0)))) ∧ True) ((0 : Int) = (cckZ a b (kZ c (kZ d (kZ e 0)))) ∧ True))))))))))))))
theorem sb4 (L b0 b1 b2 b3 : Int) : qZg (qQz L (qQz (qQz b0 (qQz b1 (qQz b2 (qQz b3 0)))) 0)) 0 = b0 % 256 ∧ qZg (qQz L (qQz (qQz b0 (qQz b1 (qQz b2 (qQz b3 0)))) 0)) 1 = b1 % 256 ∧ qZg (qQz L (qQz (qQz b0 (qQz b1 (qQz b2 (qQz b3 0)))) 0)) 2 = b2 % 256 ∧
  qZg (qQz L (qQz (qQz b0 (qQz b1 (qQz b2 (qQz b3 0)))) 0)) 3 = b3 % 256 := by
 have e : rdZ (qQz L (qQz (qQz b0 (qQz b1 (qQz b2 (qQz b3 0)))) 0)) 1 = qQz b0 (qQz b1 (qQz b2 (qQz b3 0))) := by rw [qQk _ _ (by decide)]; exact qQx _ _
 unfold qZg
 rw [e]
 refine ⟨by rw [qQx], ?_, ?_, ?_⟩
 ·rw [qQk _ _ (by decide)]; exact congrArg (· % 256) (qQx _ _)
 ·rw [qQk _ _ (by decide), qQk _ _ (by decide)]; exact congrArg (· % 256) (qQx _ _)
 ·rw [qQk _ _ (by decide), qQk _ _ (by decide), qQk _ _ (by decide)]; exact congrArg (· % 256) (qQx _ _)
theorem fl {y v t : Int} (h : (y = 45 ∧ t = 0) ∨ (y = 115 ∧ t = 2) ∨ (y = 117 ∧ t = 3) ∨ (y ≠ 45 ∧ y ≠ 115 ∧ y ≠ 117 ∧ t = 1)) :
  (if y = 45 then if v = 0 then 0 else 3 else if y = 115 then if -32768 ≤ v then if v ≤ 32767 then 0 else 6 else 6 else if y = 117 then if 0 ≤ v then if v ≤ 65535 then 0 else 6 else 6 else if 0 ≤ v then if v ≤ 31 then 0 else 6 else 6) = fieE t v := by
 unfold fieE
 rcases h with ⟨rfl, rfl⟩ | ⟨rfl, rfl⟩ | ⟨rfl, rfl⟩ | ⟨h1, h2, h3, rfl⟩
 ·simp
 ·repeat' split <;> omega
 ·repeat' split <;> omega
 ·rw [if_neg h1, if_neg h2, if_neg h3]
  repeat' split <;> omega
theorem sqA {L q : Int} (h : L = 4) : seqZ (qQz L q) (qQz 0 (qQz 0 0)) = 0 := by
 subst h
 unfold seqZ
 rw [if_neg]
 intro e
 have h1 := qZw (qQz 4 q)
 have h2 := qZw (qQz 0 (qQz 0 0))
 rw [e, h2] at h1
 unfold qZb at h1
 rw [qQx, qQx] at h1
 unfold qXq at h1
 simp at h1
theorem sl4 {L q : Int} (h : L = 4) : qZb (qQz L q) = 4 := by
 subst h; unfold qZb; rw [qQx]; unfold qXq; simp
theorem sqB {L q : Int} (h : L = 0) : seqZ (qQz L q) (qQz 0 (qQz 0 0)) ≠ 0 := by
 subst h
 have e : ∀ q, qZb (qQz 0 q) = 0 := fun q => by unfold qZb; rw [qQx]; simp [qXq]
 unfold seqZ
 rw [if_pos]
 ·decide
 ·unfold qQw
  rw [e, e]
  simp
set_option maxHeartbeats 4000000 in
theorem holds (p0_0 p0_1 p0_2 p0_3 p0_4 : Int) (l_p0_0 : -9223372036854775808 ≤ p0_0) (u_p0_0 : p0_0 ≤ 9223372036854775807) (l_p0_1 : -9223372036854775808 ≤ p0_1) (u_p0_1 : p0_1 ≤ 9223372036854775807) (l_p0_2 : -9223372036854775808 ≤ p0_2) (u_p0_2 : p0_2 ≤ 9223372036854775807) (l_p0_3 : -9223372036854775808 ≤ p0_3) (u_p0_3 : p0_3 ≤ 9223372036854775807) (l_p0_4 : -9223372036854775808 ≤ p0_4) (u_p0_4 : p0_4 ≤ 9223372036854775807) : P p0_0 p0_1 p0_2 p0_3 p0_4 := by
 delta P sq0 Pb Pm Pn PL Pl Pe Pd kZ
 simp only [nrm, Int.reduceEq, Int.reduceNeg, reduceIte, cckZ_I]
 rcases Decidable.em (1 ≤ p0_0 ∧ p0_0 ≤ 43) with ⟨g1, g2⟩ | g
 ·have hL : (if 1 ≤ p0_0 then if p0_0 ≤ 43 then (4 : Int) else 0 else 0) = 4 := by rw [if_pos g1, if_pos g2]
  refine ⟨fun h => absurd (sqA hL) h, fun _ => ?_⟩
  rw [sl4 hL]
  obtain ⟨s0, s1, s2, s3⟩ := sb4 (if 1 ≤ p0_0 then if p0_0 ≤ 43 then (4 : Int) else 0 else 0) (if p0_0 ≤ 38 then 100 else if p0_0 = 40 then 100 else 45) (if p0_0 ≤ 32 then 97 else if p0_0 = 33 then 45 else if p0_0 ≤ 38 then 97 else if p0_0 = 41 then 97 else 45) (if p0_0 ≤ 23 then 98 else 45) (if p0_0 = 31 then 115 else if p0_0 ≤ 31 then 45 else if p0_0 ≤ 40 then 117 else 45)
  rw [s0, s1, s2, s3]
  have e : ∀ d a b n : Int, cckI p0_0 d a b n = if fieE (shpZ p0_0 0) d ≠ 0 then fieE (shpZ p0_0 0) d else if fieE (shpZ p0_0 1) a ≠ 0 then fieE (shpZ p0_0 1) a else if fieE (shpZ p0_0 2) b ≠ 0 then fieE (shpZ p0_0 2) b else fieE (shpZ p0_0 3) n := fun d a b n => by
   unfold cckI; rw [if_neg (by omega)]
  refine ⟨fun _ y0 hy0 _ z0 hz0 _ => ?_, fun h => by omega⟩
  rw [fl (t := shpZ p0_0 0) (by subst hy0; unfold shpZ; repeat' split; all_goals omega)] at hz0
  refine ⟨fun h => by rw [e, ← hz0, if_pos h], fun h => ?_⟩
  refine ⟨fun _ y1 hy1 _ z1 hz1 _ => ?_, fun h => by omega⟩
  rw [fl (t := shpZ p0_0 1) (by subst hy1; unfold shpZ; repeat' split; all_goals omega)] at hz1
  refine ⟨fun h1 => by rw [e, ← hz0, ← hz1, if_neg (fun k => k h), if_pos h1], fun h1 => ?_⟩
  refine ⟨fun _ y2 hy2 _ z2 hz2 _ => ?_, fun h => by omega⟩
  rw [fl (t := shpZ p0_0 2) (by subst hy2; unfold shpZ; repeat' split; all_goals omega)] at hz2
  refine ⟨fun h2 => by rw [e, ← hz0, ← hz1, ← hz2, if_neg (fun k => k h), if_neg (fun k => k h1), if_pos h2], fun h2 => ?_⟩
  refine ⟨fun _ y3 hy3 _ z3 hz3 _ => ?_, fun h => by omega⟩
  rw [fl (t := shpZ p0_0 3) (by subst hy3; unfold shpZ; repeat' split; all_goals omega)] at hz3
  have e2 : cckI p0_0 p0_1 p0_2 p0_3 p0_4 = z3 := by rw [e, ← hz0, ← hz1, ← hz2, ← hz3, if_neg (fun k => k h), if_neg (fun k => k h1), if_neg (fun k => k h2)]
  exact ⟨fun _ => e2.symm, fun h => by rw [e2, h]⟩
 ·have hL : (if 1 ≤ p0_0 then if p0_0 ≤ 43 then (4 : Int) else 0 else 0) = 0 := by
   repeat' split
   all_goals omega
  refine ⟨fun _ => ?_, fun h => absurd h (sqB hL)⟩
  unfold cckI
  rw [if_pos (by omega)]
theorem plain (i v ro p) : statR 2 rc tree ⟨i, fN, v, ro, p⟩ = P (i 0) (i 1) (i 2) (i 3) (i 4) := by kernel_rfl
theorem ran : ranR us (fun f _ => if [44].contains f then .unroll 400 else .auto) rc 2 tree = true := by kernel_rfl
theorem fineT : fineR 2 rc tree = true := by kernel_rfl
theorem ok : RcOk (cxOf 2) rc := okR us_ok ran fineT okb fun i v ro p hρ hcap hpre => by rw [plain]; have q := hρ.hi; exact holds _ _ _ _ _ (q 0 _ rfl).1 (q 0 _ rfl).2 (q 1 _ rfl).1 (q 1 _ rfl).2 (q 2 _ rfl).1 (q 2 _ rfl).2 (q 3 _ rfl).1 (q 3 _ rfl).2 (q 4 _ rfl).1 (q 4 _ rfl).2
end CRChk13
end Go.Proofs.Ythfckifhnaoopac
