/-
  The law SlimRuns answers true at every input: the law is run by the engine (a symbolic run, proved sound), the tree of its answers, as a plain statement, is shown to hold. No condition.
-/
import Derived.Test.YtdnkgacjibjlhaaGreatDoorKc
import Derived.Test.YtdnkgacjibjlhaaGreatDoorKf
import Derived.Test.YtdnkgacjibjlhaaGreatDoorKi
import Derived.Test.YtdnkgacjibjlhaaGreatDoorKj
import Derived.Test.YtdnkgacjibjlhaaGreatDoorKm
import Derived.Test.YtdnkgacjibjlhaaGreatDoorKn
import Derived.Test.YtdnkgacjibjlhaaGreatDoorGab
import Derived.Test.YtdnkgacjibjlhaaGreatDoorGib
import Derived.Test.YtdnkgacjibjlhaaGreatDoorGp7
import Derived.Test.YtdnkgacjibjlhaaGreatDoorGp1
import Derived.Test.YtdnkgacjibjlhaaGreatDoorGp2
import Derived.WalkKit
import Derived.ProofKit
import Derived.OpenShut
import Derived.LaidMore
import Derived.Stop.Joined
import Derived.SevenTiedAt
import Derived.SizedLaws
import Derived.Lay
import Derived.Test.YtdnkgacjibjlhaaGreatDoorCards
import Derived.Test.YtdnkgacjibjlhaaGreatDoorTie
namespace Go.Proofs.YtdnkgacjibjlhaaGreatDoor.slimRuns
open Go.ChangeShapes Go.WideShapes Go.ChangeAt Go.Eng Go.RowKit
set_option linter.unusedVariables false
set_option linter.unusedSimpArgs false
set_option maxRecDepth 100000
def rc : Rc := ⟨3, [some 5, none], [.row [.int .u32] 140737488355328, .row [.int .i32] 140737488355328, .row [.bool] 140737488355328, .row [.int .i64] 140737488355328, .row [.int .i64] 140737488355328, .int .u8], [], .one, [.bool (.c 1)]⟩
theorem okb : rc.ok = true := by kernel_rfl
noncomputable def us : SMs := fun Γ ins n => smH (cxG n Γ ins) [CCNew.rk.rh, CCNewOO.rk.rh, CCRun0.rk.rh] (qYj 37 (libGReach Γ ins n) (qYj 21 (libClone21 Γ ins n) (qYj 22 (libClone22 Γ ins n) (qYj 23 (libClone23 Γ ins n) (qYj 29 (libClone29 Γ ins n) (smR (cxG n Γ ins) [CSSlim.rc, CRNumber45.rc, CLWith.rc, CRSame16.rc, CRSame15.rc, CGNext.rc, CAwake45.rc]))))))
theorem us_ok : SMsOk us := fun Γ ins n => qZs (tabsG n Γ ins) (rhs_cons CCNew.okh (rh_n CCNew.ok) (rhs_cons CCNewOO.okh (rh_n CCNewOO.ok) (rhs_cons CCRun0.okh (rh_n CCRun0.ok) (qZy _)))) (qZg (libGReach_ok CGNext.nextC Γ ins n) (qZg (libClone21_ok Γ ins n) (qZg (libClone22_ok Γ ins n) (qZg (libClone23_ok Γ ins n) (qZg (libClone29_ok Γ ins n) (qZp (tabsG n Γ ins) (qQh CSSlim.okb (rc_n CSSlim.ok) (qQh CRNumber45.okb (rc_n CRNumber45.ok) (qQh CLWith.okb (rc_n CLWith.ok) (qQh CRSame16.okb (rc_n CRSame16.ok) (qQh CRSame15.okb (rc_n CRSame15.ok) (qQh CGNext.okb (rc_n CGNext.ok) (qQh CAwake45.okb (rc_n CAwake45.ok) (qZv _))))))))))))))
def Q0 : E := (tC (.v 10) (.c 0))
def Q1 : E := (tC (.v 9) Q0)
def Q2 : E := (tC (.v 4) Q1)
def Q3 : E := (tC (.v 3) Q2)
def Q4 : E := (tC (.v 2) Q3)
def Q5 : E := (.f 84 (.v 0) (.v 1) Q4)
def Q6 : E := (te Q5 (.c 0))
def Q7 : E := (.f 175 (.v 6) (.v 0) (.c 0))
def Q8 : E := (te Q7 (.c 0))
def Q9 : E := (.cl 1001 0 140737488355328)
def Q10 : E := (.f 88 (.v 6) (.v 0) (.c 0))
def Q11 : E := (.f 74 (.v 7) (.c 0) (.c 0))
def Q12 : E := (tC Q11 (.c 0))
def Q13 : E := (tC (.v 5) Q12)
def Q14 : E := (tC (.v 1) Q13)
def Q15 : E := (.f 73 Q10 (.v 0) Q14)
def Q16 : E := (tR Q15 (.c 5))
def Q17 : E := (tC (.v 0) (.c 0))
def Q18 : E := (tC (.v 6) Q17)
def Q19 : E := (tR Q15 (.c 3))
def Q20 : E := (t6 Q19)
def Q21 : E := (.cl 1007 0 1000000)
def Q22 : E := (.f 174 (.v 6) (.v 0) (.c 0))
def Q23 : E := (.f 88 Q22 (.cl 1000 0 1000) (.c 0))
def Q24 : E := (.f 68 Q23 (.cl 1000 0 1000) (.c 0))
def Q25 : E := (tC Q21 Q12)
def Q26 : E := (tC Q9 Q25)
def Q27 : E := (.f 73 Q23 (.cl 1000 0 1000) Q26)
def Q28 : E := (te (.cl 1008 0 999999) Q21)
def Q29 : E := (.f 178 Q18 Q16 (.cl 1006 0 999999))
def Q30 : E := (tl Q9 (.c 1000000))
def Q31 : E := (te (.v 1) Q9)
def Q32 : E := (tR Q15 (.c 1))
def Q33 : E := (.cl 1011 0 4611686018427387904)
def Q34 : E := (tk Q33 (.c 32))
def Q35 : E := (tl (.c 32) Q33)
def Q36 : E := (tp Q33 (.c 1))
def Q37 : E := (tl Q36 (.c 4611686018427387904))
def Q38 : E := (tR Q15 (.c 0))
def Q39 : E := (tR Q38 Q33)
def Q40 : E := (t3 Q39)
def Q41 : E := (te (.v 1013) (.c 0))
def Q42 : E := (tC Q9 Q13)
def Q43 : E := (.f 73 Q23 (.cl 1000 0 1000) Q42)
def tree : TT (List E) :=
 (.br (tl (.v 0) (.c 200)) (.br (tl (.v 1) (.c 2100)) (.br (tl (.v 2) (.c 2100)) (.br (tl (.v 3) (.c 300)) (.br (.nt (tl (.v 4) (.c 300))) (.leaf [(.c 1)]) (.br (tk (.c 40) (.v 0)) (.leaf [(.c 1)]) (.br (tl (.v 0) (.c 1000000)) (.br (tl (.v 1) (.c 1000000)) (.br (tl (.v 2) (.c 1000000)) (.br (tl (.v 3) (.c 1000000)) (.br (tl (.v 4) (.c 1000000)) (.br (tl (.v 0) (.v 11)) (.br (tl (.v 1) (.v 12)) (.br (tl (.v 2) (.v 13)) (.br (tl (.v 3) (.v 14)) (.br (tl (.v 4) (.v 15)) (.br (tl (.v 0) (.c 64)) (.new 1000 (.ite Q6 (.ite Q8 (.f 171 (.v 6) (.v 0) (.c 0)) (.c 0)) (.c 0)) (.new 1001 (.ite Q6 (.ite Q8 (.v 1) (.c 0)) (.c 0)) (.new 1002 (.ite Q6 (.ite Q8 (.v 2) (.c 0)) (.c 0)) (.new 1003 (.ite Q6 (.ite Q8 (.v 3) (.c 0)) (.c 0)) (.new 1004 (.ite Q6 (.ite Q8 (.v 4) (.c 0)) (.c 0)) (.new 1005 (.ite
 Q6 (.ite Q8 (.c 0) (.c 12)) Q5) (.br (tn (.cl 1005 0 12) (.c 0)) (.leaf [(.c 1)]) (.br (tl (.v 0) (.c 16384)) (.br (tl (.v 1) (.c 2048)) (.br (tl Q9 (.c 2048)) (.br (.f 68 Q10 (.v 0) (.c 0)) (.new 1006 (.f 75 Q15 (.c 0) (.c 0)) (.br (tl (.v 0) (.c 1000)) (.br (te (.f 179 Q16 (.cl 1006 0 999999) (.v 0)) (.c 1)) (.new 1007 (.f 177 Q18 Q16 (.cl 1006 0 999999)) (.br (te Q20 (.c 0)) (.br (tl Q21 (.c 500000)) (.br Q24 (.br (tn (t6 (tR Q27 (.c 3))) Q20) (.leaf [(.c 0)]) (.new 1008 (.f 75 Q27 (.c 0) (.c 0)) (.new 1009 (.ite Q28 (.f 71 (tR Q27 (.c 5)) Q29 (.cl 1008 0 999999)) (.c 0)) (.br (.nt (.cl 1009 0 1)) (.leaf [(.c 0)]) (.br Q30 (.new 1010 (.ite Q31 (.f 72 Q32 (tR Q27 (.c 1)) (.v 1)) (.c 0)) (.br (.nt (.cl 1010 0 1)) (.leaf [(.c 0)]) (.loop ⟨1011, [some (0, 4611686018427387904)], [(.c 0)],
 1013⟩ (.br Q34 (.br Q35 (.br Q37 (.back [Q36]) (.bad 303)) (.br (tn Q40 (t3 (tR (tR Q27 (.c 0)) Q33))) (.exit 0) (.br Q37 (.back [Q36]) (.bad 303)))) (.exit 1)) (.br Q41 (.leaf [(.c 0)]) (.leaf [(.c 1)]))))) (.bad 200)))))) (.bad 200)) (.bad 200)) (.br Q24 (.br (tn (t6 (tR Q43 (.c 3))) Q20) (.leaf [(.c 0)]) (.new 1008 (.f 75 Q43 (.c 0) (.c 0)) (.new 1009 (.ite Q28 (.f 71 (tR Q43 (.c 5)) Q29 (.cl 1008 0 999999)) (.c 0)) (.br (.nt (.cl 1009 0 1)) (.leaf [(.c 0)]) (.br Q30 (.new 1010 (.ite Q31 (.f 72 Q32 (tR Q43 (.c 1)) (.v 1)) (.c 0)) (.br (.nt (.cl 1010 0 1)) (.leaf [(.c 0)]) (.loop ⟨1011, [some (0, 4611686018427387904)], [(.c 0)], 1013⟩ (.br Q34 (.br Q35 (.br Q37 (.back [Q36]) (.bad 303)) (.br (tn Q40 (t3 (tR (tR Q43 (.c 0)) Q33))) (.exit 0) (.br Q37 (.back [Q36]) (.bad 303)))) (.exit
 1)) (.br Q41 (.leaf [(.c 0)]) (.leaf [(.c 1)]))))) (.bad 200)))))) (.bad 200)))) (.bad 200)) (.bad 200))) (.bad 200)) (.bad 200)) (.bad 200)) (.bad 200))))))))) (.bad 200)) (.bad 200)) (.bad 200)) (.bad 200)) (.bad 200)) (.bad 200)) (.bad 200)) (.bad 200)) (.bad 200)) (.bad 200)) (.bad 200)))) (.leaf [(.c 1)])) (.leaf [(.c 1)])) (.leaf [(.c 1)])) (.leaf [(.c 1)]))

noncomputable def sq0 (g a b f h : Int) : Int := (runP (decW g a) a (kZ b (kZ f (kZ (nuP h) 0))))
def P (a b c d e f g h i j k l n o p q : Int) : Prop :=
 (Pb (PL a 200) (Pb (PL b 2100) (Pb (PL c 2100) (Pb (PL d 300) (Pb (Pe (PL e 300) 0) Pt (Pb (Pl 40 a) Pt (Pm (PL a 1000000) (Pm (PL b 1000000) (Pm (PL c 1000000) (Pm (PL d 1000000) (Pm (PL e 1000000) (Pm (PL a l) (Pm (PL b n) (Pm (PL c o) (Pm (PL d p) (Pm (PL e q) (Pm (PL a 64) (Pn (iteZ (Pe (chkZ a b (kZ c (kZ d (kZ e (kZ j (kZ k 0)))))) 0) (iteZ (Pe (slmE g a) 0) (plcN g a) 0) 0) 0 1000 fun y0 => Pn (iteZ (Pe (chkZ a b (kZ c (kZ d (kZ e (kZ j (kZ k 0)))))) 0) (iteZ (Pe (slmE g a) 0) b 0) 0) 0 140737488355328 fun y1 => Pn (iteZ (Pe (chkZ a b (kZ c (kZ d (kZ e (kZ j (kZ k 0)))))) 0) (iteZ (Pe (slmE g a) 0) c 0) 0) 0 140737488355328 fun y2 => Pn (iteZ (Pe (chkZ a b (kZ c (kZ d (kZ e (kZ j (kZ k 0)))))) 0) (iteZ (Pe (slmE g a) 0) d 0) 0) 0 140737488355328 fun y3 => Pn (iteZ (Pe (chkZ a b
 (kZ c (kZ d (kZ e (kZ j (kZ k 0)))))) 0) (iteZ (Pe (slmE g a) 0) e 0) 0) 0 140737488355328 fun y4 => Pn (iteZ (Pe (chkZ a b (kZ c (kZ d (kZ e (kZ j (kZ k 0)))))) 0) (iteZ (Pe (slmE g a) 0) 0 12) (chkZ a b (kZ c (kZ d (kZ e (kZ j (kZ k 0))))))) 0 12 fun y5 => (Pb (Pd y5 0) Pt (Pm (PL a 16384) (Pm (PL b 2048) (Pm (PL y1 2048) (Pm (okC (decW g a) a) (Pn (mkN (sq0 g a b f h)) 0 999999 fun y6 => (Pm (PL a 1000) (Pm (Pe (mokZ (rdZ (sq0 g a b f h) 5) y6 a) 1) (Pn (wthN (kZ g (kZ a 0)) (rdZ (sq0 g a b f h) 5) y6) 0 1000000 fun y7 => (Pb (Pe (W6 (rdZ (sq0 g a b f h) 3)) 0) (Pm (PL y7 500000) (Pm (okC (decW (slmZ g a) y0) y0) (Pb (Pd (W6 (rdZ (runP (decW (slmZ g a) y0) y0 (kZ y1 (kZ y7 (kZ (nuP h) 0)))) 3)) (W6 (rdZ (sq0 g a b f h) 3))) Pf (Pn (mkN (runP (decW (slmZ g a) y0) y0 (kZ y1 (kZ y7 (kZ
 (nuP h) 0))))) 0 999999 fun y8 => Pn (iteZ (Pe y8 y7) (sameM (rdZ (runP (decW (slmZ g a) y0) y0 (kZ y1 (kZ y7 (kZ (nuP h) 0)))) 5) (wthZ (kZ g (kZ a 0)) (rdZ (sq0 g a b f h) 5) y6) y8) 0) 0 1 fun y9 => (Pb (Pe y9 0) Pf (Pm (PL y1 1000000) (Pn (iteZ (Pe b y1) (sameW (rdZ (sq0 g a b f h) 1) (rdZ (runP (decW (slmZ g a) y0) y0 (kZ y1 (kZ y7 (kZ (nuP h) 0)))) 1) b) 0) 0 1 fun y10 => (Pb (Pe y10 0) Pf (∃ I1011 : Int → Nat → Prop, (∃ m, I1011 0 m) ∧ ∀ y11 : Int, ∀ m11, ((0 ≤ y11 ∧ y11 ≤ 4611686018427387904) ∧ True) → I1011 y11 m11 → (Pb (Pl y11 32) (Pb (PL 32 y11) (Pm (PL (y11 + 1) 4611686018427387904) (∃ m', m' < m11 ∧ I1011 (y11 + 1) m')) (Pb (Pd (W3 (rdZ (rdZ (sq0 g a b f h) 0) y11)) (W3 (rdZ (rdZ (runP (decW (slmZ g a) y0) y0 (kZ y1 (kZ y7 (kZ (nuP h) 0)))) 0) y11))) (Pb (Pe (0 : Int) 0) Pf
 Pt) (Pm (PL (y11 + 1) 4611686018427387904) (∃ m', m' < m11 ∧ I1011 (y11 + 1) m')))) (Pb (Pe (1 : Int) 0) Pf Pt))))))))))) (Pm (okC (decW (slmZ g a) y0) y0) (Pb (Pd (W6 (rdZ (runP (decW (slmZ g a) y0) y0 (kZ y1 (kZ f (kZ (nuP h) 0)))) 3)) (W6 (rdZ (sq0 g a b f h) 3))) Pf (Pn (mkN (runP (decW (slmZ g a) y0) y0 (kZ y1 (kZ f (kZ (nuP h) 0))))) 0 999999 fun y8 => Pn (iteZ (Pe y8 y7) (sameM (rdZ (runP (decW (slmZ g a) y0) y0 (kZ y1 (kZ f (kZ (nuP h) 0)))) 5) (wthZ (kZ g (kZ a 0)) (rdZ (sq0 g a b f h) 5) y6) y8) 0) 0 1 fun y9 => (Pb (Pe y9 0) Pf (Pm (PL y1 1000000) (Pn (iteZ (Pe b y1) (sameW (rdZ (sq0 g a b f h) 1) (rdZ (runP (decW (slmZ g a) y0) y0 (kZ y1 (kZ f (kZ (nuP h) 0)))) 1) b) 0) 0 1 fun y10 => (Pb (Pe y10 0) Pf (∃ I1011 : Int → Nat → Prop, (∃ m, I1011 0 m) ∧ ∀ y11 : Int, ∀ m11, ((0 ≤
 y11 ∧ y11 ≤ 4611686018427387904) ∧ True) → I1011 y11 m11 → (Pb (Pl y11 32) (Pb (PL 32 y11) (Pm (PL (y11 + 1) 4611686018427387904) (∃ m', m' < m11 ∧ I1011 (y11 + 1) m')) (Pb (Pd (W3 (rdZ (rdZ (sq0 g a b f h) 0) y11)) (W3 (rdZ (rdZ (runP (decW (slmZ g a) y0) y0 (kZ y1 (kZ f (kZ (nuP h) 0)))) 0) y11))) (Pb (Pe (0 : Int) 0) Pf Pt) (Pm (PL (y11 + 1) 4611686018427387904) (∃ m', m' < m11 ∧ I1011 (y11 + 1) m')))) (Pb (Pe (1 : Int) 0) Pf Pt)))))))))))))))))))))))))))))))))) Pt) Pt) Pt) Pt)

set_option maxHeartbeats 4000000 in
theorem holds (n0_0 n0_1 n0_2 n0_3 n0_4 p1 c0_0 c0_1 c0_2 c0_3 c0_4 r0_0 r0_1 r0_2 r0_3 r0_4 : Int) (l_n0_0 : 0 ≤ n0_0) (u_n0_0 : n0_0 ≤ 140737488355328) (l_n0_1 : 0 ≤ n0_1) (u_n0_1 : n0_1 ≤ 140737488355328) (l_n0_2 : 0 ≤ n0_2) (u_n0_2 : n0_2 ≤ 140737488355328) (l_n0_3 : 0 ≤ n0_3) (u_n0_3 : n0_3 ≤ 140737488355328) (l_n0_4 : 0 ≤ n0_4) (u_n0_4 : n0_4 ≤ 140737488355328) (l_p1 : 0 ≤ p1) (u_p1 : p1 ≤ 255) (h_n0_0 : n0_0 ≤ r0_0) (h_n0_1 : n0_1 ≤ r0_1) (h_n0_2 : n0_2 ≤ r0_2) (h_n0_3 : n0_3 ≤ r0_3) (h_n0_4 : n0_4 ≤ r0_4) : P n0_0 n0_1 n0_2 n0_3 n0_4 p1 c0_0 c0_1 c0_2 c0_3 c0_4 r0_0 r0_1 r0_2 r0_3 r0_4 := by
  delta P sq0 Pb Pm Pn Pf Pt PL Pl Pe Pd W6 W3 kZ
  simp only [nrm, nro, Int.reduceEq, Int.reduceNeg, reduceIte]
  refine ⟨fun g1 => ⟨fun g2 => ⟨fun g3 => ⟨fun g4 => ⟨fun _ => trivial, fun g5 => ⟨fun _ => trivial, fun g6 => ?_⟩⟩, fun _ => trivial⟩, fun _ => trivial⟩, fun _ => trivial⟩, fun _ => trivial⟩
  refine ⟨by omega, by omega, by omega, by omega, by omega, h_n0_0, h_n0_1, h_n0_2, h_n0_3, h_n0_4, by omega, ?_⟩
  have one : ¬(1 : Int) = 0 := by decide
  rintro x0 hx0 - x1 hx1 - x2 - - x3 - - x4 - - x5 hx5 -
  refine ⟨fun _ => trivial, fun h5 => ?_⟩
  obtain ⟨hck, hE⟩ : chkZ n0_0 n0_1 (qQq n0_2 (qQq n0_3 (qQq n0_4 (qQq c0_3 (qQq c0_4 0))))) = 0 ∧ slmE c0_0 n0_0 = 0 := by
    rw [hx5] at h5
    split at h5
    · rename_i h
      split at h5
      · rename_i h'
        exact ⟨h, h'⟩
      · omega
    · rename_i h
      exact absurd h5 h
  rw [if_pos hck, if_pos hE] at hx0 hx1
  subst hx0 hx1
  have hd := chk_two hck
  clear hck h5 hx5
  obtain ⟨N, rfl⟩ := Int.eq_ofNat_of_zero_le l_n0_0
  obtain ⟨A, B, hS, hA, a1, b1, hB⟩ := slim_runs (c := c0_0) (N := N) (nr := x1) (S := p1) (rm := c0_1) (by omega) hE (by omega) (by omega) (by omega) (by omega)
  obtain ⟨s1, s2, s3, s4, s5⟩ := sl_all hS (by omega) a1
  have hok1 : ¬okC (decW c0_0 N) N = 0 := okC_dec c0_0 N
  have hok2 : ¬okC (decW (slmZ c0_0 N) (plcN c0_0 N)) (plcN c0_0 N) = 0 := by
    have := okC_dec (slmZ c0_0 N) (plcN c0_0 N).toNat
    have e : (((plcN c0_0 N).toNat : Nat) : Int) = plcN c0_0 N := Int.toNat_of_nonneg (qKd c0_0 N).1
    rw [e] at this
    exact this
  generalize runP (decW c0_0 N) N _ = R at hA ⊢
  simp only [hA.rg, hA.rm, hA.st, hA.mq, hA.nm]
  refine ⟨by omega, by omega, by omega, hok1, ?_⟩
  rintro m rfl -
  refine ⟨by omega, s1, ?_⟩
  rintro w hw -
  rw [s2] at hw
  subst hw
  refine ⟨fun hst => ⟨by omega, hok2, ?_⟩, fun hst => ⟨hok2, ?_⟩⟩
  · have hb := hB B.nm (fun _ => rfl) (fun h => absurd hst h)
    generalize runP (decW (slmZ c0_0 N) (plcN c0_0 N)) (plcN c0_0 N) _ = R2 at hb ⊢
    simp only [hb.rg, hb.rm, hb.st, hb.mq, hb.nm, hS.st, hS.rm, hS.rg]
    refine ⟨fun h => absurd trivial h, fun _ => ?_⟩
    rintro m2 rfl - y hy -
    rw [if_pos rfl, s3] at hy
    refine ⟨fun h => by omega, fun _ => ⟨by omega, ?_⟩⟩
    rintro z hz -
    rw [if_pos trivial, sameW_refl] at hz
    refine ⟨fun h => by omega, fun _ => ?_⟩
    refine ⟨fun i m => (0 ≤ i ∧ i ≤ 32) ∧ m = (32 - i).toNat, ⟨_, ⟨by omega, by omega⟩, rfl⟩, ?_⟩
    rintro i m ⟨i8, i9⟩ ⟨⟨i0, i1⟩, rfl⟩
    exact ⟨fun h => ⟨fun g => by omega, fun g => ⟨fun h => absurd trivial h, fun _ => ⟨by omega, _, by omega, ⟨by omega, by omega⟩, rfl⟩⟩⟩, fun h => trivial⟩
  · have hb := hB p1 (fun h => absurd h hst) (fun _ => rfl)
    generalize runP (decW (slmZ c0_0 N) (plcN c0_0 N)) (plcN c0_0 N) _ = R2 at hb ⊢
    simp only [hb.rg, hb.rm, hb.st, hb.mq, hb.nm, hS.st, hS.rm, hS.rg]
    refine ⟨fun h => absurd trivial h, fun _ => ?_⟩
    rintro m2 rfl - y hy -
    rw [if_pos rfl, s3] at hy
    refine ⟨fun h => by omega, fun _ => ⟨by omega, ?_⟩⟩
    rintro z hz -
    rw [if_pos trivial, sameW_refl] at hz
    refine ⟨fun h => by omega, fun _ => ?_⟩
    refine ⟨fun i m => (0 ≤ i ∧ i ≤ 32) ∧ m = (32 - i).toNat, ⟨_, ⟨by omega, by omega⟩, rfl⟩, ?_⟩
    rintro i m ⟨i8, i9⟩ ⟨⟨i0, i1⟩, rfl⟩
    exact ⟨fun h => ⟨fun g => by omega, fun g => ⟨fun h => absurd trivial h, fun _ => ⟨by omega, _, by omega, ⟨by omega, by omega⟩, rfl⟩⟩⟩, fun h => trivial⟩

theorem plain (i v ro p) : statR 2 rc tree ⟨i, fN, v, ro, p⟩ = P (i 0) (i 1) (i 2) (i 3) (i 4) (i 5) (i 6) (i 7) (i 8) (i 9) (i 10) (i 11) (i 12) (i 13) (i 14) (i 15) := by kernel_rfl
theorem ran : ranR us (fun _ _ => .auto) rc 2 tree = true := by kernel_rfl
theorem fineT : fineR 2 rc tree = true := by kernel_rfl
theorem ok : RcOk (cxOf 2) rc := okR us_ok ran fineT okb fun i v ro p hρ hcap hpre => by rw [plain]; have q := hρ.hi; exact holds _ _ _ _ _ _ _ _ _ _ _ _ _ _ _ _ (q 0 _ rfl).1 (q 0 _ rfl).2 (q 1 _ rfl).1 (q 1 _ rfl).2 (q 2 _ rfl).1 (q 2 _ rfl).2 (q 3 _ rfl).1 (q 3 _ rfl).2 (q 4 _ rfl).1 (q 4 _ rfl).2 (q 5 _ rfl).1 (q 5 _ rfl).2 (hcap _ (mg 0 rfl)) (hcap _ (mg 1 rfl)) (hcap _ (mg 2 rfl)) (hcap _ (mg 3 rfl)) (hcap _ (mg 4 rfl))
theorem laidMet_tail {P : Program} {x : String × DataW Unit} {rest : List (String × DataW Unit)} {W : World} (h : laidMet P (x :: rest) W) : laidMet P rest W := by
  obtain ⟨ps, hl, hn, hf⟩ := h
  obtain ⟨n, d⟩ := x
  obtain ⟨g, t, cs, fuel, p, q, _, _, _, _, hq, rfl⟩ := hl
  exact ⟨q, hq, (List.nodup_append.1 hn).2.1, fun b off hm => hf b off (List.mem_append_right _ hm)⟩
theorem listE_LZ (P : Program) (l : List Int) (ro : List RO) : ∀ zs : List Int, (qQm (zs.map E.c)).ev (envR P l ro) = LZ zs
  | [] => rfl
  | z :: zs => by
    have h : (qQm ((z :: zs).map E.c)).ev (envR P l ro) = qQq z ((qQm (zs.map E.c)).ev (envR P l ro)) := rfl
    rw [h, listE_LZ P l ro zs]
    unfold qQq
    rw [qKw]
def tab0 : List Int := [1, 1, 1, 1, 1, 1, 1, 1, 1, 1, 1, 1, 1, 1, 1, 1, 1, 3, 3, 3, 3, 2, 2, 1, 1, 1, 1, 1, 1, 1, 1, 1, 1, 2, 2, 1, 1, 1, 3, 3, 3, 1, 1]
theorem tabG0 : Tryz.prog.globalNamed "astrolabe/ops.costs" = some 0 := by kernel_rfl
theorem tabW0 : ∀ z ∈ tab0, IntKind.wrap .i64 z = z := fun z hz => by
  have h := List.all_eq_true.1 (show tab0.all (fun z => decide (IntKind.wrap .i64 z = z)) = true by kernel_rfl) z hz
  simpa using h
theorem tabIs0 {W : World} (h : laidMetH Tryz.prog Rows.slimRunsRow.laid W) : Lib.TabIs Tryz.prog W "astrolabe/ops.costs" .i64 tab0 := by
  rw [MakeChecks.laidMetH_plain _ _ _ (by kernel_rfl)] at h
  exact Lib.tabIs_of_head tabG0 (t := 147) (e := 3) (n := 43) (by kernel_rfl) (by kernel_rfl) (by kernel_rfl) (by kernel_rfl) (by kernel_rfl) h

theorem walk (w : World) (a0_0 : RO) (k0_0 : a0_0.cks = [.int .u32]) (n0_0 : a0_0.a = none → a0_0.n = 0) (m0_0 : a0_0.n ≤ a0_0.cap) (t0_0 : RoAt w a0_0) (b0_0 : (a0_0.n : Int) ≤ 140737488355328) (a0_1 : RO) (k0_1 : a0_1.cks = [.int .i32]) (n0_1 : a0_1.a = none → a0_1.n = 0) (m0_1 : a0_1.n ≤ a0_1.cap) (t0_1 : RoAt w a0_1) (b0_1 : (a0_1.n : Int) ≤ 140737488355328) (a0_2 : RO) (k0_2 : a0_2.cks = [.bool]) (n0_2 : a0_2.a = none → a0_2.n = 0) (m0_2 : a0_2.n ≤ a0_2.cap) (t0_2 : RoAt w a0_2) (b0_2 : (a0_2.n : Int) ≤ 140737488355328) (a0_3 : RO) (k0_3 : a0_3.cks = [.int .i64]) (n0_3 : a0_3.a = none → a0_3.n = 0) (m0_3 : a0_3.n ≤ a0_3.cap) (t0_3 : RoAt w a0_3) (b0_3 : (a0_3.n : Int) ≤ 140737488355328) (a0_4 : RO) (k0_4 : a0_4.cks = [.int .i64]) (n0_4 : a0_4.a = none → a0_4.n = 0) (m0_4 : a0_4.n ≤ a0_4.cap) (t0_4 : RoAt w a0_4) (b0_4 : (a0_4.n : Int) ≤ 140737488355328) (a1 : Int) (w1 : (Lit.int .u8 a1).wf = true) (tb0 : Lib.TabIs Tryz.prog w "astrolabe/ops.costs" .i64 tab0) :
    Calls Tryz.prog 3 #[.agg #[.slice a0_0.a a0_0.n a0_0.cap, .slice a0_1.a a0_1.n a0_1.cap, .slice a0_2.a a0_2.n a0_2.cap, .slice a0_3.a a0_3.n a0_3.cap, .slice a0_4.a a0_4.n a0_4.cap], .int .u8 a1] w fun e w' => e = .returned (.bool true) ∧ Below w.heap.size w w' := by
  refine law_of (cx := cxOf 2) ok ⟨rfl, rfl, rfl⟩ (ρ := envR Tryz.prog [(a0_0.n : Int), (a0_1.n : Int), (a0_2.n : Int), (a0_3.n : Int), (a0_4.n : Int), a1, a0_0.c, a0_1.c, a0_2.c, a0_3.c, a0_4.c, (a0_0.cap : Int), (a0_1.cap : Int), (a0_2.cap : Int), (a0_3.cap : Int), (a0_4.cap : Int)] [a0_0, a0_1, a0_2, a0_3, a0_4, tabRo 0 .i64 tab0]) (envR_ok (cx := rc.cx (cxOf 2)) rfl rfl (bnd_cons ⟨Int.natCast_nonneg _, b0_0⟩ (bnd_cons ⟨Int.natCast_nonneg _, b0_1⟩ (bnd_cons ⟨Int.natCast_nonneg _, b0_2⟩ (bnd_cons ⟨Int.natCast_nonneg _, b0_3⟩ (bnd_cons ⟨Int.natCast_nonneg _, b0_4⟩ (bnd_cons (wf_bd w1) (bnd_nil _))))))) ⟨⟨k0_0, rfl, (Int.toNat_natCast _).symm, (Int.toNat_natCast _).symm, n0_0, fun g h => by cases h⟩, ⟨⟨k0_1, rfl, (Int.toNat_natCast _).symm, (Int.toNat_natCast _).symm, n0_1, fun g h => by cases h⟩, ⟨⟨k0_2, rfl, (Int.toNat_natCast _).symm, (Int.toNat_natCast _).symm, n0_2, fun g h => by cases h⟩, ⟨⟨k0_3, rfl, (Int.toNat_natCast _).symm, (Int.toNat_natCast _).symm, n0_3, fun g h => by cases h⟩, ⟨⟨k0_4, rfl, (Int.toNat_natCast _).symm, (Int.toNat_natCast _).symm, n0_4, fun g h => by cases h⟩, ⟨⟨rfl, (listE_LZ _ _ _ tab0).symm, rfl, rfl, (fun h => by cases h), fun g h => by cases h; exact ⟨rfl, rfl⟩⟩, trivial⟩⟩⟩⟩⟩⟩) (fun d hd => by
    simp only [show qXm rc.b rc.c rc.ls 0 0 0 = [⟨[.int .u32], .v 6, .v 0, .v 11, none⟩, ⟨[.int .i32], .v 7, .v 1, .v 12, none⟩, ⟨[.bool], .v 8, .v 2, .v 13, none⟩, ⟨[.int .i64], .v 9, .v 3, .v 14, none⟩, ⟨[.int .i64], .v 10, .v 4, .v 15, none⟩] from rfl, List.mem_cons, List.not_mem_nil, or_false] at hd
    rcases hd with rfl | rfl | rfl | rfl | rfl
    · exact Int.ofNat_le.2 m0_0
    · exact Int.ofNat_le.2 m0_1
    · exact Int.ofNat_le.2 m0_2
    · exact Int.ofNat_le.2 m0_3
    · exact Int.ofNat_le.2 m0_4) (roOk_of ⟨t0_0, ⟨t0_1, ⟨t0_2, ⟨t0_3, ⟨t0_4, ⟨tabRo_at tb0 tabG0 tabW0, trivial⟩⟩⟩⟩⟩⟩) ?_
  rw [show rc.args = [.agg [.sl (.inp 0) 1 (.c 0) (.v 0) (some (.v 11)), .sl (.inp 1) 1 (.c 0) (.v 1) (some (.v 12)), .sl (.inp 2) 1 (.c 0) (.v 2) (some (.v 13)), .sl (.inp 3) 1 (.c 0) (.v 3) (some (.v 14)), .sl (.inp 4) 1 (.c 0) (.v 4) (some (.v 15))], .int .u8 (.v 5)] from rfl]
  simp only [SV.denL, SV.den, E.ev, qKy]
  rfl
theorem lifted (os : Os) (started : os.Started) (H : Type) (enc : TypeId × Value → H) :
    ReturnsInHanded {} Tryz.checked os 3 .any (fun w args => (Rows.slimRunsSpec.pre enc Tryz.prog Tryz.f3 Rows.slimRunsRow.domain false w args ∧ laidMetH Tryz.prog Rows.slimRunsRow.laid w) ∧ sizedMet enc Tryz.prog Tryz.f3 (OpenSpec.ofChange Rows.slimRunsSpec) false w args)
      (Rows.slimRunsSpec.post enc Tryz.prog Tryz.f3 false true false false) := by
  refine returnsInHanded_of_change_and (C := Tryz.checked) (X := fun w _ => laidMetH Tryz.prog Rows.slimRunsRow.laid w) (fun _ _ _ hh h => h.of_heap hh) own started (by kernel_rfl) Tryz.func3
    (ChangeSpec.witness_shaped (enc := enc) (C := Tryz.checked) (os := os) (X := fun w _ => laidMetH Tryz.prog Rows.slimRunsRow.laid w) false (World.laidAll Tryz.prog os Rows.slimRunsRow.laid) #[.agg #[.slice none 0 0, .slice none 0 0, .slice none 0 0, .slice none 0 0, .slice none 0 0], .int .u8 0] 8 (World.laidAll_os _ _ _)
      (World.shaped_of_ZipB (by kernel_rfl) (by kernel_rfl)) (by kernel_rfl) (by kernel_rfl) (by kernel_rfl)
      (by rw [MakeChecks.laidMetH_plain _ _ _ (by kernel_rfl)]; exact laidMet_laidAll _ (by kernel_rfl) (by kernel_rfl))) ?_
  intro W base args ds gs before hval0 hW hcnd hw0 hL _
  have hval : ∀ (j : Nat) t v, Tryz.f3.params[j]? = some t → args[j]? = some v → Value.okWide Tryz.prog W .any base t v := hval0
  have hW' := hW
  obtain ⟨p, q, hA0, hV, rfl, hfz, hnd⟩ := hW
  have hA : DataW.TrodAll enc Tryz.prog W 0 (fun _ => true) true Tryz.f3.params.toList args.toList ds p := hA0
  have hw := hw0
  rw [Tryz.params3] at hA hval hw
  obtain ⟨v0, vs0, d0, ds0, p0, q0, hargs, rfl, rfl, h0, r0⟩ := trodAll_cons hA
  have h0k := h0
  obtain ⟨v1, vs1, d1, ds1, p1, q1, rfl, rfl, rfl, h1, r1⟩ := trodAll_cons r0
  have h1k := h1
  obtain ⟨rfl, rfl, rfl⟩ := trodAll_nil r1
  obtain rfl : args = #[v0, v1] := by cases args; simp_all
  obtain ⟨rfl, rfl⟩ := trodVars_none hV
  obtain ⟨ros0, hl0, rfl, hp0⟩ := Go.Eng.open_rows (kss := [[.int .u32], [.int .i32], [.bool], [.int .i64], [.int .i64]]) Tryz.underlying27 (by kernel_rfl) (by kernel_rfl) ⟨⟨⟨_, Tryz.underlying22, (ElT.one Tryz.underlying46 (by kernel_rfl)), of_decide_eq_true (by kernel_rfl), by kernel_rfl⟩, by decide⟩, ⟨⟨_, Tryz.underlying23, (ElT.one Tryz.underlying21 (by kernel_rfl)), of_decide_eq_true (by kernel_rfl), by kernel_rfl⟩, by decide⟩, ⟨⟨_, Tryz.underlying24, (ElT.one Tryz.underlying4 (by kernel_rfl)), of_decide_eq_true (by kernel_rfl), by kernel_rfl⟩, by decide⟩, ⟨⟨_, Tryz.underlying25, (ElT.one Tryz.underlying3 (by kernel_rfl)), of_decide_eq_true (by kernel_rfl), by kernel_rfl⟩, by decide⟩, ⟨⟨_, Tryz.underlying25, (ElT.one Tryz.underlying3 (by kernel_rfl)), of_decide_eq_true (by kernel_rfl), by kernel_rfl⟩, by decide⟩, trivial⟩ (hval 0 27 v0 rfl rfl) h0 (weights_of (gs := []) hw (j := 0) (t := 27) rfl rfl)
  obtain ⟨a0_0, ros0, rfl⟩ := List.exists_cons_of_length_eq_add_one hl0
  have hl0 := Nat.succ.inj hl0
  obtain ⟨a0_1, ros0, rfl⟩ := List.exists_cons_of_length_eq_add_one hl0
  have hl0 := Nat.succ.inj hl0
  obtain ⟨a0_2, ros0, rfl⟩ := List.exists_cons_of_length_eq_add_one hl0
  have hl0 := Nat.succ.inj hl0
  obtain ⟨a0_3, ros0, rfl⟩ := List.exists_cons_of_length_eq_add_one hl0
  have hl0 := Nat.succ.inj hl0
  obtain ⟨a0_4, ros0, rfl⟩ := List.exists_cons_of_length_eq_add_one hl0
  have hl0 := Nat.succ.inj hl0
  obtain rfl := List.eq_nil_of_length_eq_zero hl0
  obtain ⟨k0_0, n0_0, m0_0, t0_0, b0_0, _⟩ := hp0 0 _ _ rfl rfl
  obtain ⟨k0_1, n0_1, m0_1, t0_1, b0_1, _⟩ := hp0 1 _ _ rfl rfl
  obtain ⟨k0_2, n0_2, m0_2, t0_2, b0_2, _⟩ := hp0 2 _ _ rfl rfl
  obtain ⟨k0_3, n0_3, m0_3, t0_3, b0_3, _⟩ := hp0 3 _ _ rfl rfl
  obtain ⟨k0_4, n0_4, m0_4, t0_4, b0_4, _⟩ := hp0 4 _ _ rfl rfl
  obtain ⟨a1, rfl, rfl, rfl, w1⟩ := open_int Tryz.underlying5 (hval 1 5 v1 rfl rfl) h1
  clear hA0 hval0
  refine (walk W a0_0 k0_0 n0_0 m0_0 t0_0 b0_0 a0_1 k0_1 n0_1 m0_1 t0_1 b0_1 a0_2 k0_2 n0_2 m0_2 t0_2 b0_2 a0_3 k0_3 n0_3 m0_3 t0_3 b0_3 a0_4 k0_4 n0_4 m0_4 t0_4 b0_4 a1 w1 (tabIs0 hL)).mono fun e W' ⟨he, hg⟩ => ?_
  subst he
  have hin0 : ∀ x ∈ p0, x ∈ p0 ++ ([] ++ []) ++ [] := fun x hx => by simp [hx]
  have hlt0 : ∀ x ∈ p0, x.block < W.heap.size := fun x hx => by simpa using hW'.lt x (by simp [hx])
  exact ⟨_, rfl, post_below (pa := _) (pv := []) hW' hg (fun _ _ _ => (trodAll_cons_mk (shut_bool Tryz.underlying4 _) trodAll_mk0)) (fun sp hsp => (trodAll_cons_mk (WideElems.Trod_stays laidOut (by kernel_rfl) (of_decide_eq_true (by kernel_rfl)) h0k (fun x hx => hg.same (hlt0 x hx)) (fun x hx => hsp x (hin0 x hx))) (trodAll_cons_mk (shut_int Tryz.underlying5 w1) trodAll_mk0))) (fun _ _ => rfl) (by simp)
    (ok_one (by kernel_rfl) rfl (okWide_bool_mk Tryz.underlying4 _))⟩

theorem over : Rows.slimRunsRow.holds Tryz.pinned (OpenSpec.ofChange Rows.slimRunsSpec) :=
  OpenClaim.holds_of_wide 3 Tryz.f3 rfl rfl rfl rfl rfl rfl rfl ⟨rfl, rfl, rfl, rfl, rfl⟩ rfl rfl rfl rfl rfl (by kernel_rfl) Tryz.func3 (by kernel_rfl)
    (of_decide_eq_true (by kernel_rfl)) (by unfold Func.isWrapper; first | (rw [if_pos (by decide +kernel)]; kernel_rfl) | (rw [if_neg (by decide +kernel)]; exact ⟨rfl, rfl⟩))
    (fun os started H enc _ => lifted os started H enc)

/-- the statement -/
theorem proved : Rows.SlimRunsCardSaid :=
  Claim7.holds_tied_plain_at .later [] [.data] true (true, "c63a311350840c417b9e8700bca87038fbce7ac577857244ba0480b78b7ac925") false
    over (fun _ h => by cases h) (by kernel_rfl) (fun _ h => by cases h) slimRuns_row_tie rfl ⟨rfl, rfl⟩ (by kernel_rfl) rfl
    (fun f fn hf hfn => by
      obtain rfl : f = 3 := Option.some.inj ((show Tryz.prog.funcNamed "astrolabe/astrolabelaw45.SlimRuns" = some 3 by kernel_rfl).symm.trans hf) |>.symm
      obtain rfl : fn = Tryz.f3 := (Option.some.inj (Tryz.func3.symm.trans hfn)).symm
      exact ⟨by kernel_rfl, fun j t ht => by
        rw [Tryz.params3] at ht
        have h3 : t = 5 ∨ t = 27 := by
          rcases j with _ | _ | j
          · exact (.inr (by simpa using ht.symm))
          · exact (.inl (by simpa using ht.symm))
          · simp at ht
        rcases h3 with rfl | rfl
        · exact (show Tryz.prog.wantsStandIn 5 = false by kernel_rfl)
        · exact (show Tryz.prog.wantsStandIn 27 = false by kernel_rfl)⟩)
    (by kernel_rfl)
#print axioms proved
end Go.Proofs.YtdnkgacjibjlhaaGreatDoor.slimRuns
