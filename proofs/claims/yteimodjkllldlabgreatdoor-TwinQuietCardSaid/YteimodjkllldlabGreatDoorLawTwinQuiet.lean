/-
  The law TwinQuiet answers true at every input: the law is run by the engine (a symbolic run, proved sound), the tree of its answers, as a plain statement, is shown to hold. No condition.
-/
import Derived.Test.YteimodjkllldlabGreatDoorKd
import Derived.Test.YteimodjkllldlabGreatDoorKe
import Derived.Test.YteimodjkllldlabGreatDoorKh
import Derived.Test.YteimodjkllldlabGreatDoorGab
import Derived.Test.YteimodjkllldlabGreatDoorGmZj
import Derived.Test.YteimodjkllldlabGreatDoorGmI
import Derived.Test.YteimodjkllldlabGreatDoorGmH
import Derived.Test.YteimodjkllldlabGreatDoorGmE
import Derived.WalkKit
import Derived.ProofKit
import Derived.OpenShut
import Derived.LaidMore
import Derived.Stop.Joined
import Derived.SevenTiedAt
import Derived.SizedLaws
import Derived.Lay
import Derived.Test.YteimodjkllldlabGreatDoorCards
import Derived.Test.YteimodjkllldlabGreatDoorTie
namespace Go.Proofs.YteimodjkllldlabGreatDoor.twinQuiet
open Go.ChangeShapes Go.WideShapes Go.ChangeAt Go.Eng Go.RowKit
set_option linter.unusedVariables false
set_option linter.unusedSimpArgs false
set_option maxRecDepth 100000
def rc : Rc := ⟨3, [some 5, none, none, none], [.row [.int .u32] 140737488355328, .row [.int .i32] 140737488355328, .row [.bool] 140737488355328, .row [.int .i64] 140737488355328, .row [.int .i64] 140737488355328, .row [.int .i32] 140737488355328, .row [.int .i32] 140737488355328, .int .u8], [], .one, [.bool (.c 1)]⟩
theorem okb : rc.ok = true := by kernel_rfl
noncomputable def us : SMs := fun Γ ins n => smH (cxG n Γ ins) [] (smR (cxG n Γ ins) [CAwake26.rc, CRICheck.rc, CTwRun.rc, CRFCheck.rc, CRSame15.rc])
theorem us_ok : SMsOk us := fun Γ ins n => qJk (tabsG n Γ ins) (qZb _) (qZt (tabsG n Γ ins) (qZq CAwake26.okb (rc_n CAwake26.ok) (qZq CRICheck.okb (rc_n CRICheck.ok) (qZq CTwRun.okb (rc_n CTwRun.ok) (qZq CRFCheck.okb (rc_n CRFCheck.ok) (qZq CRSame15.okb (rc_n CRSame15.ok) (qZc _)))))))
def Q0 : E := (tC (.v 12) (.c 0))
def Q1 : E := (tC (.v 11) Q0)
def Q2 : E := (tC (.v 4) Q1)
def Q3 : E := (tC (.v 3) Q2)
def Q4 : E := (tC (.v 2) Q3)
def Q5 : E := (.f 84 (.v 0) (.v 1) Q4)
def Q6 : E := (te Q5 (.c 0))
def Q7 : E := (te (.v 5) (.v 3))
def Q8 : E := (.b .pmul .i64 Q6 Q7)
def Q9 : E := (.b .pmul .i64 Q8 Q7)
def Q10 : E := (.f 88 (.v 8) (.v 0) (.c 0))
def Q11 : E := (tC (.v 9) (.c 0))
def Q12 : E := (tC (.v 13) Q11)
def Q13 : E := (.f 86 (.v 11) (.v 3) Q12)
def Q14 : E := (.f 74 Q13 (.c 0) (.c 0))
def Q15 : E := (tC Q14 (.c 0))
def Q16 : E := (tC (.v 7) Q15)
def Q17 : E := (tC (.v 1) Q16)
def Q18 : E := (.f 73 Q10 (.v 0) Q17)
def Q19 : E := (tR Q18 (.c 5))
def Q20 : E := (.f 75 Q18 (.c 0) (.c 0))
def Q21 : E := (tC Q20 (.c 0))
def Q22 : E := (tC Q20 Q21)
def Q23 : E := (.f 37 Q19 Q19 Q22)
def Q24 : E := (tR Q18 (.c 3))
def Q25 : E := (t6 Q24)
def Q26 : E := (.f 35 Q19 Q20 (.c 0))
def Q27 : E := (tn Q5 (.c 0))
def Q28 : E := (tR Q18 (.c 1))
def Q29 : E := (.f 87 (.v 12) (.v 4) Q28)
def Q30 : E := (te (.v 6) (.v 3))
def Q31 : E := (.b .pmul .i64 Q8 Q30)
def Q32 : E := (tC (.v 14) Q11)
def Q33 : E := (.f 86 (.v 11) (.v 3) Q32)
def Q34 : E := (.f 74 Q33 (.c 0) (.c 0))
def Q35 : E := (tC Q34 (.c 0))
def Q36 : E := (tC (.v 7) Q35)
def Q37 : E := (tC (.v 1) Q36)
def Q38 : E := (.f 73 Q10 (.v 0) Q37)
def Q39 : E := (tR Q38 (.c 5))
def Q40 : E := (.f 75 Q38 (.c 0) (.c 0))
def Q41 : E := (tR Q38 (.c 3))
def Q42 : E := (t6 Q41)
def tree : TT (List E) :=
 (.br (tl (.v 0) (.c 200)) (.br (tl (.v 1) (.c 2100)) (.br (tl (.v 2) (.c 2100)) (.br (tl (.v 3) (.c 300)) (.br (.nt (tl (.v 4) (.c 300))) (.leaf [(.c 1)]) (.br (tl (.v 0) (.c 1000000)) (.br (tl (.v 1) (.c 1000000)) (.br (tl (.v 2) (.c 1000000)) (.br (tl (.v 3) (.c 1000000)) (.br (tl (.v 4) (.c 1000000)) (.br (tl (.v 0) (.v 15)) (.br (tl (.v 1) (.v 16)) (.br (tl (.v 2) (.v 17)) (.br (tl (.v 3) (.v 18)) (.br (tl (.v 4) (.v 19)) (.new 1000 Q5 (.br (tn (.cl 1000 0 9) (.c 0)) (.leaf [(.c 1)]) (.br (tn (.v 5) (.v 3)) (.leaf [(.c 1)]) (.br (tn (.v 6) (.v 3)) (.leaf [(.c 1)]) (.br (tl (.v 5) (.c 1000000)) (.br (tl (.v 5) (.v 20)) (.new 1001 (.ite Q9 (te Q23 (.c (-1))) (.c 0)) (.new 1002 (.ite Q9 Q25 (.c 0)) (.new 1003 (.ite Q9 Q26 (.c 0)) (.new 1004 (.ite Q9 (.v 4) (.c 0)) (.new 1005 (.ite Q9
 Q20 (.c 0)) (.new 1006 (.ite Q27 Q5 (.ite (.b .pmul .i64 Q7 Q7) (.c 0) (.c 2))) (.br (tn (.cl 1006 0 9) (.c 0)) (.leaf [(.c 0)]) (.br (.nt (.cl 1001 0 1)) (.leaf [(.c 0)]) (.br (tn (.ite Q9 Q23 (.c 0)) (.c (-1))) (.leaf [(.c 0)]) (.br (tl (.cl 1004 0 140737488355328) (.c 1000000)) (.new 1007 (.f 72 Q29 Q29 (.cl 1004 0 140737488355328)) (.br (.nt (.cl 1007 0 1)) (.leaf [(.c 0)]) (.new 1008 (.ite Q27 Q5 (.f 104 (.v 8) (.v 0) (tC (.v 1) (tC (.v 10) (tC (.v 11) (tC (.v 3) (.c 0))))))) (.br (tn (.cl 1008 0 12) (.c 0)) (.leaf [(.c 1)]) (.br (tl (.v 6) (.c 1000000)) (.br (tl (.v 6) (.v 21)) (.new 1009 (.ite Q31 (.b .pmul .i64 (te (.f 37 Q19 Q39 (tC Q20 (tC Q40 (.c 0)))) (.c (-1))) (te Q25 Q42)) (.c 0)) (.new 1010 (.ite Q31 Q25 (.c 0)) (.new 1011 (.ite Q31 Q42 (.c 0)) (.new 1012 (.ite Q31 Q26
 (.c 0)) (.new 1013 (.ite Q31 (.f 35 Q39 Q40 (.c 0)) (.c 0)) (.new 1014 (.ite Q31 (.v 4) (.c 0)) (.new 1015 (.ite Q31 Q20 (.c 0)) (.new 1016 (.ite Q31 Q40 (.c 0)) (.new 1017 (.ite Q27 Q5 (.ite (.b .pmul .i64 Q7 Q30) (.c 0) (.c 2))) (.br (te (.cl 1017 0 9) (.c 0)) (.br (.nt (.nt (.cl 1009 0 1))) (.leaf [(.c 1)]) (.leaf [(.c 0)])) (.leaf [(.c 1)]))))))))))) (.bad 200)) (.bad 200)))))) (.bad 200))))))))))) (.bad 200)) (.bad 200)))))) (.bad 200)) (.bad 200)) (.bad 200)) (.bad 200)) (.bad 200)) (.bad 200)) (.bad 200)) (.bad 200)) (.bad 200)) (.bad 200))) (.leaf [(.c 1)])) (.leaf [(.c 1)])) (.leaf [(.c 1)])) (.leaf [(.c 1)]))

noncomputable def sq0 (i a b h l d o j : Int) : Int := (runP (decW i a) a (kZ b (kZ h (kZ (nuP (pokZ l d (kZ o (kZ j 0)))) 0))))
noncomputable def sq1 (a b c d e l n : Int) : Int := (chkZ a b (kZ c (kZ d (kZ e (kZ l (kZ n 0))))))
noncomputable def sq2 (i a b h l d p j : Int) : Int := (runP (decW i a) a (kZ b (kZ h (kZ (nuP (pokZ l d (kZ p (kZ j 0)))) 0))))
def P (a b c d e f g h i j k l n o p q r s t u v w : Int) : Prop :=
 (Pb (PL a 200) (Pb (PL b 2100) (Pb (PL c 2100) (Pb (PL d 300) (Pb (Pe (PL e 300) 0) Pt (Pm (PL a 1000000) (Pm (PL b 1000000) (Pm (PL c 1000000) (Pm (PL d 1000000) (Pm (PL e 1000000) (Pm (PL a q) (Pm (PL b r) (Pm (PL c s) (Pm (PL d t) (Pm (PL e u) (Pn (sq1 a b c d e l n) 0 9 fun y0 => (Pb (Pd y0 0) Pt (Pb (Pd f d) Pt (Pb (Pd g d) Pt (Pm (PL f 1000000) (Pm (PL f v) (Pn (iteZ (((Pe (sq1 a b c d e l n) 0) * (Pe f d)) * (Pe f d)) (Pe (qZu (rdZ (sq0 i a b h l d o j) 5) (rdZ (sq0 i a b h l d o j) 5) (kZ (mkN (sq0 i a b h l d o j)) (kZ (mkN (sq0 i a b h l d o j)) 0))) (-1)) 0) 0 1 fun y1 => Pn (iteZ (((Pe (sq1 a b c d e l n) 0) * (Pe f d)) * (Pe f d)) (W6 (rdZ (sq0 i a b h l d o j) 3)) 0) (-9223372036854775808) 9223372036854775807 fun y2 => Pn (iteZ (((Pe (sq1 a b c d e l n) 0) * (Pe f d)) *
 (Pe f d)) (costZ (rdZ (sq0 i a b h l d o j) 5) (mkN (sq0 i a b h l d o j))) 0) (-9223372036854775808) 9223372036854775807 fun y3 => Pn (iteZ (((Pe (sq1 a b c d e l n) 0) * (Pe f d)) * (Pe f d)) e 0) 0 140737488355328 fun y4 => Pn (iteZ (((Pe (sq1 a b c d e l n) 0) * (Pe f d)) * (Pe f d)) (mkN (sq0 i a b h l d o j)) 0) 0 999999 fun y5 => Pn (iteZ (Pd (sq1 a b c d e l n) 0) (sq1 a b c d e l n) (iteZ ((Pe f d) * (Pe f d)) 0 2)) 0 9 fun y6 => (Pb (Pd y6 0) Pf (Pb (Pe y1 0) Pf (Pb (Pd (iteZ (((Pe (sq1 a b c d e l n) 0) * (Pe f d)) * (Pe f d)) (qZu (rdZ (sq0 i a b h l d o j) 5) (rdZ (sq0 i a b h l d o j) 5) (kZ (mkN (sq0 i a b h l d o j)) (kZ (mkN (sq0 i a b h l d o j)) 0))) 0) (-1)) Pf (Pm (PL y4 1000000) (Pn (sameW (outZ n e (rdZ (sq0 i a b h l d o j) 1)) (outZ n e (rdZ (sq0 i a b h l d o
 j) 1)) y4) 0 1 fun y7 => (Pb (Pe y7 0) Pf (Pn (iteZ (Pd (sq1 a b c d e l n) 0) (sq1 a b c d e l n) (fwhZ i a (kZ b (kZ k (kZ l (kZ d 0)))))) 0 12 fun y8 => (Pb (Pd y8 0) Pt (Pm (PL g 1000000) (Pm (PL g w) (Pn (iteZ (((Pe (sq1 a b c d e l n) 0) * (Pe f d)) * (Pe g d)) ((Pe (qZu (rdZ (sq0 i a b h l d o j) 5) (rdZ (sq2 i a b h l d p j) 5) (kZ (mkN (sq0 i a b h l d o j)) (kZ (mkN (sq2 i a b h l d p j)) 0))) (-1)) * (Pe (W6 (rdZ (sq0 i a b h l d o j) 3)) (W6 (rdZ (sq2 i a b h l d p j) 3)))) 0) 0 1 fun y9 => Pn (iteZ (((Pe (sq1 a b c d e l n) 0) * (Pe f d)) * (Pe g d)) (W6 (rdZ (sq0 i a b h l d o j) 3)) 0) (-9223372036854775808) 9223372036854775807 fun y10 => Pn (iteZ (((Pe (sq1 a b c d e l n) 0) * (Pe f d)) * (Pe g d)) (W6 (rdZ (sq2 i a b h l d p j) 3)) 0) (-9223372036854775808)
 9223372036854775807 fun y11 => Pn (iteZ (((Pe (sq1 a b c d e l n) 0) * (Pe f d)) * (Pe g d)) (costZ (rdZ (sq0 i a b h l d o j) 5) (mkN (sq0 i a b h l d o j))) 0) (-9223372036854775808) 9223372036854775807 fun y12 => Pn (iteZ (((Pe (sq1 a b c d e l n) 0) * (Pe f d)) * (Pe g d)) (costZ (rdZ (sq2 i a b h l d p j) 5) (mkN (sq2 i a b h l d p j))) 0) (-9223372036854775808) 9223372036854775807 fun y13 => Pn (iteZ (((Pe (sq1 a b c d e l n) 0) * (Pe f d)) * (Pe g d)) e 0) 0 140737488355328 fun y14 => Pn (iteZ (((Pe (sq1 a b c d e l n) 0) * (Pe f d)) * (Pe g d)) (mkN (sq0 i a b h l d o j)) 0) 0 999999 fun y15 => Pn (iteZ (((Pe (sq1 a b c d e l n) 0) * (Pe f d)) * (Pe g d)) (mkN (sq2 i a b h l d p j)) 0) 0 999999 fun y16 => Pn (iteZ (Pd (sq1 a b c d e l n) 0) (sq1 a b c d e l n) (iteZ ((Pe f d) *
 (Pe g d)) 0 2)) 0 9 fun y17 => (Pb (Pe y17 0) (Pb (Pe (Pe y9 0) 0) Pt Pf) Pt)))))))))))))))))))))))))))))) Pt) Pt) Pt) Pt)

set_option maxHeartbeats 4000000 in
theorem holds (n0_0 n0_1 n0_2 n0_3 n0_4 n1 n2 p3 c0_0 c0_1 c0_2 c0_3 c0_4 c1 c2 r0_0 r0_1 r0_2 r0_3 r0_4 r1 r2 : Int) (l_n0_0 : 0 ≤ n0_0) (u_n0_0 : n0_0 ≤ 140737488355328) (l_n0_1 : 0 ≤ n0_1) (u_n0_1 : n0_1 ≤ 140737488355328) (l_n0_2 : 0 ≤ n0_2) (u_n0_2 : n0_2 ≤ 140737488355328) (l_n0_3 : 0 ≤ n0_3) (u_n0_3 : n0_3 ≤ 140737488355328) (l_n0_4 : 0 ≤ n0_4) (u_n0_4 : n0_4 ≤ 140737488355328) (l_n1 : 0 ≤ n1) (u_n1 : n1 ≤ 140737488355328) (l_n2 : 0 ≤ n2) (u_n2 : n2 ≤ 140737488355328) (l_p3 : 0 ≤ p3) (u_p3 : p3 ≤ 255) (h_n0_0 : n0_0 ≤ r0_0) (h_n0_1 : n0_1 ≤ r0_1) (h_n0_2 : n0_2 ≤ r0_2) (h_n0_3 : n0_3 ≤ r0_3) (h_n0_4 : n0_4 ≤ r0_4) (h_n1 : n1 ≤ r1) (h_n2 : n2 ≤ r2) : P n0_0 n0_1 n0_2 n0_3 n0_4 n1 n2 p3 c0_0 c0_1 c0_2 c0_3 c0_4 c1 c2 r0_0 r0_1 r0_2 r0_3 r0_4 r1 r2 := by
  delta P sq0 sq1 sq2 Pb Pm Pn Pf Pt PL Pe Pd W6 kZ
  simp only [nrm, nro, Int.reduceEq, Int.reduceNeg, reduceIte]
  simp only [chk_ev]
  have s1 : ¬ (1 : Int) = 0 := by decide
  simp only [sameW_refl, s1, not_false_eq_true, implies_true, true_and, and_true]
  intro g1 g2 g3 g4 g5
  refine ⟨by omega, by omega, by omega, by omega, by omega, h_n0_0, h_n0_1, h_n0_2, h_n0_3, h_n0_4, ?_⟩
  rintro x rfl - h e1 e2
  subst e1 e2
  have b1 : ∀ z : Int, qQz (z == z) = 1 := fun z => by unfold qQz; simp
  simp only [h, b1, first_self]
  have m3 : ((1 : Int) * 1 * 1 = 0) = False := by simp
  have m2 : ((1 : Int) * 1 = 0) = False := by simp
  simp only [m3, m2, not_false_eq_true, not_true_eq_false, if_true, if_false]
  obtain ⟨k1, k2, k3, k4, k5, k6, k7, k8⟩ := chk_zero h
  generalize hA : runP (decW c0_0 n0_0) n0_0 (qQq n0_1 (qQq p3 (qQq (nuP (pokZ c0_3 n2 (qQq c1 (qQq c0_1 0)))) 0))) = A
  generalize hB : runP (decW c0_0 n0_0) n0_0 (qQq n0_1 (qQq p3 (qQq (nuP (pokZ c0_3 n2 (qQq c2 (qQq c0_1 0)))) 0))) = B
  refine ⟨by omega, by omega, ?_⟩
  rintro _ rfl - _ rfl - _ rfl - y4 e4 - _ rfl - _ rfl -
  refine ⟨fun g => g rfl, fun _ => ⟨fun g => absurd g (by decide), fun _ => ⟨fun g => g, fun _ => ⟨by omega, ?_⟩⟩⟩⟩
  rintro _ rfl -
  refine ⟨fun g => absurd g (by decide), fun _ => ?_⟩
  rintro x rfl - hx
  obtain ⟨ho, hn⟩ := taken_ok l_n0_0 hx
  have hq := quiet_runs l_n0_0 k1 ho (M := pokZ c0_3 n2 (qQq c1 (qQq c0_1 0))) (N := pokZ c0_3 n2 (qQq c2 (qQq c0_1 0))) (fun j j0 j1 hj => by
    rw [pokZ_ev, pokZ_ev, pok_open hn k6 _ (by omega) j j0 hj, pok_open hn k6 _ (by omega) j j0 hj]) hA.symm hB.symm
  obtain ⟨q5, qn, q3, _⟩ := hq
  refine ⟨by omega, by omega, ?_⟩
  rw [q5, qn, q3, first_self, b1, b1]
  rintro y9 rfl - _ - - _ - - _ - - _ - - _ - - _ - - _ - - _ - - -
  decide

theorem plain (i v ro p) : statR 2 rc tree ⟨i, fN, v, ro, p⟩ = P (i 0) (i 1) (i 2) (i 3) (i 4) (i 5) (i 6) (i 7) (i 8) (i 9) (i 10) (i 11) (i 12) (i 13) (i 14) (i 15) (i 16) (i 17) (i 18) (i 19) (i 20) (i 21) := by kernel_rfl
theorem ran : ranR us (fun _ _ => .auto) rc 2 tree = true := by kernel_rfl
theorem fineT : fineR 2 rc tree = true := by kernel_rfl
theorem ok : RcOk (cxOf 2) rc := okR us_ok ran fineT okb fun i v ro p hρ hcap hpre => by rw [plain]; have q := hρ.hi; exact holds _ _ _ _ _ _ _ _ _ _ _ _ _ _ _ _ _ _ _ _ _ _ (q 0 _ rfl).1 (q 0 _ rfl).2 (q 1 _ rfl).1 (q 1 _ rfl).2 (q 2 _ rfl).1 (q 2 _ rfl).2 (q 3 _ rfl).1 (q 3 _ rfl).2 (q 4 _ rfl).1 (q 4 _ rfl).2 (q 5 _ rfl).1 (q 5 _ rfl).2 (q 6 _ rfl).1 (q 6 _ rfl).2 (q 7 _ rfl).1 (q 7 _ rfl).2 (hcap _ (mg 0 rfl)) (hcap _ (mg 1 rfl)) (hcap _ (mg 2 rfl)) (hcap _ (mg 3 rfl)) (hcap _ (mg 4 rfl)) (hcap _ (mg 5 rfl)) (hcap _ (mg 6 rfl))
theorem laidMet_tail {P : Program} {x : String × DataW Unit} {rest : List (String × DataW Unit)} {W : World} (h : laidMet P (x :: rest) W) : laidMet P rest W := by
  obtain ⟨ps, hl, hn, hf⟩ := h
  obtain ⟨n, d⟩ := x
  obtain ⟨g, t, cs, fuel, p, q, _, _, _, _, hq, rfl⟩ := hl
  exact ⟨q, hq, (List.nodup_append.1 hn).2.1, fun b off hm => hf b off (List.mem_append_right _ hm)⟩
theorem listE_LZ (P : Program) (l : List Int) (ro : List RO) : ∀ zs : List Int, (qQx (zs.map E.c)).ev (envR P l ro) = LZ zs
  | [] => rfl
  | z :: zs => by
    have h : (qQx ((z :: zs).map E.c)).ev (envR P l ro) = qQq z ((qQx (zs.map E.c)).ev (envR P l ro)) := rfl
    rw [h, listE_LZ P l ro zs]
    unfold qQq
    rw [ZL_LZ]
def tab0 : List Int := [1, 1, 1, 1, 1, 1, 1, 1, 1, 1, 1, 1, 1, 1, 1, 1, 1, 3, 3, 3, 3, 2, 2, 1, 1, 1, 1, 1, 1, 1, 1, 1, 1, 2, 2, 1, 1, 1, 3, 3, 3, 1, 1]
theorem tabG0 : Tryz.prog.globalNamed "astrolabe/ops.costs" = some 0 := by kernel_rfl
theorem tabW0 : ∀ z ∈ tab0, IntKind.wrap .i64 z = z := fun z hz => by
  have h := List.all_eq_true.1 (show tab0.all (fun z => decide (IntKind.wrap .i64 z = z)) = true by kernel_rfl) z hz
  simpa using h
theorem tabIs0 {W : World} (h : laidMetH Tryz.prog Rows.twinQuietRow.laid W) : Lib.TabIs Tryz.prog W "astrolabe/ops.costs" .i64 tab0 := by
  rw [MakeChecks.laidMetH_plain _ _ _ (by kernel_rfl)] at h
  exact Lib.tabIs_of_head tabG0 (t := 158) (e := 3) (n := 43) (by kernel_rfl) (by kernel_rfl) (by kernel_rfl) (by kernel_rfl) (by kernel_rfl) h

theorem walk (w : World) (a0_0 : RO) (k0_0 : a0_0.cks = [.int .u32]) (n0_0 : a0_0.a = none → a0_0.n = 0) (m0_0 : a0_0.n ≤ a0_0.cap) (t0_0 : RoAt w a0_0) (b0_0 : (a0_0.n : Int) ≤ 140737488355328) (a0_1 : RO) (k0_1 : a0_1.cks = [.int .i32]) (n0_1 : a0_1.a = none → a0_1.n = 0) (m0_1 : a0_1.n ≤ a0_1.cap) (t0_1 : RoAt w a0_1) (b0_1 : (a0_1.n : Int) ≤ 140737488355328) (a0_2 : RO) (k0_2 : a0_2.cks = [.bool]) (n0_2 : a0_2.a = none → a0_2.n = 0) (m0_2 : a0_2.n ≤ a0_2.cap) (t0_2 : RoAt w a0_2) (b0_2 : (a0_2.n : Int) ≤ 140737488355328) (a0_3 : RO) (k0_3 : a0_3.cks = [.int .i64]) (n0_3 : a0_3.a = none → a0_3.n = 0) (m0_3 : a0_3.n ≤ a0_3.cap) (t0_3 : RoAt w a0_3) (b0_3 : (a0_3.n : Int) ≤ 140737488355328) (a0_4 : RO) (k0_4 : a0_4.cks = [.int .i64]) (n0_4 : a0_4.a = none → a0_4.n = 0) (m0_4 : a0_4.n ≤ a0_4.cap) (t0_4 : RoAt w a0_4) (b0_4 : (a0_4.n : Int) ≤ 140737488355328) (a1 : RO) (k1 : a1.cks = [.int .i32]) (n1 : a1.a = none → a1.n = 0) (m1 : a1.n ≤ a1.cap) (t1 : RoAt w a1) (b1 : (a1.n : Int) ≤ 140737488355328) (a2 : RO) (k2 : a2.cks = [.int .i32]) (n2 : a2.a = none → a2.n = 0) (m2 : a2.n ≤ a2.cap) (t2 : RoAt w a2) (b2 : (a2.n : Int) ≤ 140737488355328) (a3 : Int) (w3 : (Lit.int .u8 a3).wf = true) (tb0 : Lib.TabIs Tryz.prog w "astrolabe/ops.costs" .i64 tab0) :
    Calls Tryz.prog 3 #[.agg #[.slice a0_0.a a0_0.n a0_0.cap, .slice a0_1.a a0_1.n a0_1.cap, .slice a0_2.a a0_2.n a0_2.cap, .slice a0_3.a a0_3.n a0_3.cap, .slice a0_4.a a0_4.n a0_4.cap], .slice a1.a a1.n a1.cap, .slice a2.a a2.n a2.cap, .int .u8 a3] w fun e w' => e = .returned (.bool true) ∧ Below w.heap.size w w' := by
  refine law_of (cx := cxOf 2) ok ⟨rfl, rfl, rfl⟩ (ρ := envR Tryz.prog [(a0_0.n : Int), (a0_1.n : Int), (a0_2.n : Int), (a0_3.n : Int), (a0_4.n : Int), (a1.n : Int), (a2.n : Int), a3, a0_0.c, a0_1.c, a0_2.c, a0_3.c, a0_4.c, a1.c, a2.c, (a0_0.cap : Int), (a0_1.cap : Int), (a0_2.cap : Int), (a0_3.cap : Int), (a0_4.cap : Int), (a1.cap : Int), (a2.cap : Int)] [a0_0, a0_1, a0_2, a0_3, a0_4, a1, a2, tabRo 0 .i64 tab0]) (envR_ok (cx := rc.cx (cxOf 2)) rfl rfl (qKa ⟨Int.natCast_nonneg _, b0_0⟩ (qKa ⟨Int.natCast_nonneg _, b0_1⟩ (qKa ⟨Int.natCast_nonneg _, b0_2⟩ (qKa ⟨Int.natCast_nonneg _, b0_3⟩ (qKa ⟨Int.natCast_nonneg _, b0_4⟩ (qKa ⟨Int.natCast_nonneg _, b1⟩ (qKa ⟨Int.natCast_nonneg _, b2⟩ (qKa (wf_bd w3) (bnd_nil _))))))))) ⟨⟨k0_0, rfl, (Int.toNat_natCast _).symm, (Int.toNat_natCast _).symm, n0_0, fun g h => by cases h⟩, ⟨⟨k0_1, rfl, (Int.toNat_natCast _).symm, (Int.toNat_natCast _).symm, n0_1, fun g h => by cases h⟩, ⟨⟨k0_2, rfl, (Int.toNat_natCast _).symm, (Int.toNat_natCast _).symm, n0_2, fun g h => by cases h⟩, ⟨⟨k0_3, rfl, (Int.toNat_natCast _).symm, (Int.toNat_natCast _).symm, n0_3, fun g h => by cases h⟩, ⟨⟨k0_4, rfl, (Int.toNat_natCast _).symm, (Int.toNat_natCast _).symm, n0_4, fun g h => by cases h⟩, ⟨⟨k1, rfl, (Int.toNat_natCast _).symm, (Int.toNat_natCast _).symm, n1, fun g h => by cases h⟩, ⟨⟨k2, rfl, (Int.toNat_natCast _).symm, (Int.toNat_natCast _).symm, n2, fun g h => by cases h⟩, ⟨⟨rfl, (listE_LZ _ _ _ tab0).symm, rfl, rfl, (fun h => by cases h), fun g h => by cases h; rfl⟩, trivial⟩⟩⟩⟩⟩⟩⟩⟩) (fun d hd => by
    simp only [show qXn rc.b rc.c rc.ls 0 0 0 = [⟨[.int .u32], .v 8, .v 0, .v 15, none⟩, ⟨[.int .i32], .v 9, .v 1, .v 16, none⟩, ⟨[.bool], .v 10, .v 2, .v 17, none⟩, ⟨[.int .i64], .v 11, .v 3, .v 18, none⟩, ⟨[.int .i64], .v 12, .v 4, .v 19, none⟩, ⟨[.int .i32], .v 13, .v 5, .v 20, none⟩, ⟨[.int .i32], .v 14, .v 6, .v 21, none⟩] from rfl, List.mem_cons, List.not_mem_nil, or_false] at hd
    rcases hd with rfl | rfl | rfl | rfl | rfl | rfl | rfl
    · exact Int.ofNat_le.2 m0_0
    · exact Int.ofNat_le.2 m0_1
    · exact Int.ofNat_le.2 m0_2
    · exact Int.ofNat_le.2 m0_3
    · exact Int.ofNat_le.2 m0_4
    · exact Int.ofNat_le.2 m1
    · exact Int.ofNat_le.2 m2) (roOk_of ⟨t0_0, ⟨t0_1, ⟨t0_2, ⟨t0_3, ⟨t0_4, ⟨t1, ⟨t2, ⟨tabRo_at tb0 tabG0 tabW0, trivial⟩⟩⟩⟩⟩⟩⟩⟩) ?_
  rw [show rc.args = [.agg [.sl (.inp 0) 1 (.c 0) (.v 0) (some (.v 15)), .sl (.inp 1) 1 (.c 0) (.v 1) (some (.v 16)), .sl (.inp 2) 1 (.c 0) (.v 2) (some (.v 17)), .sl (.inp 3) 1 (.c 0) (.v 3) (some (.v 18)), .sl (.inp 4) 1 (.c 0) (.v 4) (some (.v 19))], .sl (.inp 5) 1 (.c 0) (.v 5) (some (.v 20)), .sl (.inp 6) 1 (.c 0) (.v 6) (some (.v 21)), .int .u8 (.v 7)] from rfl]
  simp only [SV.denL, SV.den, E.ev, map_addr_zero]
  rfl
theorem lifted (os : Os) (started : os.Started) (H : Type) (enc : TypeId × Value → H) :
    ReturnsInHanded {} Tryz.checked os 3 .any (fun w args => (Rows.twinQuietSpec.pre enc Tryz.prog Tryz.f3 Rows.twinQuietRow.domain false w args ∧ laidMetH Tryz.prog Rows.twinQuietRow.laid w) ∧ sizedMet enc Tryz.prog Tryz.f3 (OpenSpec.ofChange Rows.twinQuietSpec) false w args)
      (Rows.twinQuietSpec.post enc Tryz.prog Tryz.f3 false true false false) := by
  refine returnsInHanded_of_change_and (C := Tryz.checked) (X := fun w _ => laidMetH Tryz.prog Rows.twinQuietRow.laid w) (fun _ _ _ hh h => h.of_heap hh) own started (by kernel_rfl) Tryz.func3
    (ChangeSpec.witness_shaped (enc := enc) (C := Tryz.checked) (os := os) (X := fun w _ => laidMetH Tryz.prog Rows.twinQuietRow.laid w) false (World.laidAll Tryz.prog os Rows.twinQuietRow.laid) #[.agg #[.slice none 0 0, .slice none 0 0, .slice none 0 0, .slice none 0 0, .slice none 0 0], .slice none 0 0, .slice none 0 0, .int .u8 0] 8 (World.laidAll_os _ _ _)
      (World.shaped_of_ZipB (by kernel_rfl) (by kernel_rfl)) (by kernel_rfl) (by kernel_rfl) (by kernel_rfl)
      (by rw [MakeChecks.laidMetH_plain _ _ _ (by kernel_rfl)]; exact laidMet_laidAll _ (by kernel_rfl) (by kernel_rfl))) ?_
  intro W base args ds gs before hval0 hW hcnd hw0 hL _
  have hval : ∀ (j : Nat) t v, Tryz.f3.params[j]? = some t → args[j]? = some v → Value.okWide Tryz.prog W .any base t v := hval0
  have hW' := hW
  obtain ⟨p, q, hA0, hV, rfl, hfz, hnd⟩ := hW
  have hA : DataW.TrodAll enc Tryz.prog W 0 (fun _ => true) true Tryz.f3.params.toList args.toList ds p := hA0
  have hw := hw0
  rw [Tryz.params3] at hA hval hw
  obtain ⟨v0, vs0, d0, ds0, p0, q0, hargs, rfl, rfl, h0, r0⟩ := trodAll_cons hA
  have h0k := h0
  obtain ⟨v1, vs1, d1, ds1, p1, q1, rfl, rfl, rfl, h1, r1⟩ := trodAll_cons r0
  have h1k := h1
  obtain ⟨v2, vs2, d2, ds2, p2, q2, rfl, rfl, rfl, h2, r2⟩ := trodAll_cons r1
  have h2k := h2
  obtain ⟨v3, vs3, d3, ds3, p3, q3, rfl, rfl, rfl, h3, r3⟩ := trodAll_cons r2
  have h3k := h3
  obtain ⟨rfl, rfl, rfl⟩ := trodAll_nil r3
  obtain rfl : args = #[v0, v1, v2, v3] := by cases args; simp_all
  obtain ⟨rfl, rfl⟩ := trodVars_none hV
  obtain ⟨ros0, hl0, rfl, hp0⟩ := Go.Eng.open_rows (kss := [[.int .u32], [.int .i32], [.bool], [.int .i64], [.int .i64]]) Tryz.underlying27 (by kernel_rfl) (by kernel_rfl) ⟨⟨⟨_, Tryz.underlying22, (ElT.one Tryz.underlying43 (by kernel_rfl)), of_decide_eq_true (by kernel_rfl), by kernel_rfl⟩, by decide⟩, ⟨⟨_, Tryz.underlying23, (ElT.one Tryz.underlying21 (by kernel_rfl)), of_decide_eq_true (by kernel_rfl), by kernel_rfl⟩, by decide⟩, ⟨⟨_, Tryz.underlying24, (ElT.one Tryz.underlying4 (by kernel_rfl)), of_decide_eq_true (by kernel_rfl), by kernel_rfl⟩, by decide⟩, ⟨⟨_, Tryz.underlying25, (ElT.one Tryz.underlying3 (by kernel_rfl)), of_decide_eq_true (by kernel_rfl), by kernel_rfl⟩, by decide⟩, ⟨⟨_, Tryz.underlying25, (ElT.one Tryz.underlying3 (by kernel_rfl)), of_decide_eq_true (by kernel_rfl), by kernel_rfl⟩, by decide⟩, trivial⟩ (hval 0 27 v0 rfl rfl) h0 (weights_of (gs := []) hw (j := 0) (t := 27) rfl rfl)
  obtain ⟨a0_0, ros0, rfl⟩ := List.exists_cons_of_length_eq_add_one hl0
  have hl0 := Nat.succ.inj hl0
  obtain ⟨a0_1, ros0, rfl⟩ := List.exists_cons_of_length_eq_add_one hl0
  have hl0 := Nat.succ.inj hl0
  obtain ⟨a0_2, ros0, rfl⟩ := List.exists_cons_of_length_eq_add_one hl0
  have hl0 := Nat.succ.inj hl0
  obtain ⟨a0_3, ros0, rfl⟩ := List.exists_cons_of_length_eq_add_one hl0
  have hl0 := Nat.succ.inj hl0
  obtain ⟨a0_4, ros0, rfl⟩ := List.exists_cons_of_length_eq_add_one hl0
  have hl0 := Nat.succ.inj hl0
  obtain rfl := List.eq_nil_of_length_eq_zero hl0
  obtain ⟨k0_0, n0_0, m0_0, t0_0, b0_0, _⟩ := hp0 0 _ _ rfl rfl
  obtain ⟨k0_1, n0_1, m0_1, t0_1, b0_1, _⟩ := hp0 1 _ _ rfl rfl
  obtain ⟨k0_2, n0_2, m0_2, t0_2, b0_2, _⟩ := hp0 2 _ _ rfl rfl
  obtain ⟨k0_3, n0_3, m0_3, t0_3, b0_3, _⟩ := hp0 3 _ _ rfl rfl
  obtain ⟨k0_4, n0_4, m0_4, t0_4, b0_4, _⟩ := hp0 4 _ _ rfl rfl
  obtain ⟨a1, k1, rfl, n1, m1, t1, b1, _⟩ := Go.Eng.open_row (ks := [.int .i32]) Tryz.underlying23 (ElT.one Tryz.underlying21 (by kernel_rfl)) (by decide) (of_decide_eq_true (by kernel_rfl)) (by kernel_rfl) (hval 1 23 v1 rfl rfl) h1 (weights_of (gs := []) hw (j := 1) (t := 23) rfl rfl)
  obtain ⟨a2, k2, rfl, n2, m2, t2, b2, _⟩ := Go.Eng.open_row (ks := [.int .i32]) Tryz.underlying23 (ElT.one Tryz.underlying21 (by kernel_rfl)) (by decide) (of_decide_eq_true (by kernel_rfl)) (by kernel_rfl) (hval 2 23 v2 rfl rfl) h2 (weights_of (gs := []) hw (j := 2) (t := 23) rfl rfl)
  obtain ⟨a3, rfl, rfl, rfl, w3⟩ := open_int Tryz.underlying5 (hval 3 5 v3 rfl rfl) h3
  clear hA0 hval0
  refine (walk W a0_0 k0_0 n0_0 m0_0 t0_0 b0_0 a0_1 k0_1 n0_1 m0_1 t0_1 b0_1 a0_2 k0_2 n0_2 m0_2 t0_2 b0_2 a0_3 k0_3 n0_3 m0_3 t0_3 b0_3 a0_4 k0_4 n0_4 m0_4 t0_4 b0_4 a1 k1 n1 m1 t1 b1 a2 k2 n2 m2 t2 b2 a3 w3 (tabIs0 hL)).mono fun e W' ⟨he, hg⟩ => ?_
  subst he
  have hin0 : ∀ x ∈ p0, x ∈ p0 ++ (p1 ++ (p2 ++ ([] ++ []))) ++ [] := fun x hx => by simp [hx]
  have hlt0 : ∀ x ∈ p0, x.block < W.heap.size := fun x hx => by simpa using hW'.lt x (by simp [hx])
  have hin1 : ∀ x ∈ p1, x ∈ p0 ++ (p1 ++ (p2 ++ ([] ++ []))) ++ [] := fun x hx => by simp [hx]
  have hlt1 : ∀ x ∈ p1, x.block < W.heap.size := fun x hx => by simpa using hW'.lt x (by simp [hx])
  have hin2 : ∀ x ∈ p2, x ∈ p0 ++ (p1 ++ (p2 ++ ([] ++ []))) ++ [] := fun x hx => by simp [hx]
  have hlt2 : ∀ x ∈ p2, x.block < W.heap.size := fun x hx => by simpa using hW'.lt x (by simp [hx])
  exact ⟨_, rfl, post_below (pa := _) (pv := []) hW' hg (fun _ _ _ => (trodAll_cons_mk (shut_bool Tryz.underlying4 _) trodAll_mk0)) (fun sp hsp => (trodAll_cons_mk (WideElems.Trod_stays laidOut (by kernel_rfl) (of_decide_eq_true (by kernel_rfl)) h0k (fun x hx => hg.same (hlt0 x hx)) (fun x hx => hsp x (hin0 x hx))) (trodAll_cons_mk (WideElems.Trod_stays laidOut (by kernel_rfl) (of_decide_eq_true (by kernel_rfl)) h1k (fun x hx => hg.same (hlt1 x hx)) (fun x hx => hsp x (hin1 x hx))) (trodAll_cons_mk (WideElems.Trod_stays laidOut (by kernel_rfl) (of_decide_eq_true (by kernel_rfl)) h2k (fun x hx => hg.same (hlt2 x hx)) (fun x hx => hsp x (hin2 x hx))) (trodAll_cons_mk (shut_int Tryz.underlying5 w3) trodAll_mk0))))) (fun _ _ => rfl) (by simp)
    (ok_one (by kernel_rfl) rfl (okWide_bool_mk Tryz.underlying4 _))⟩

theorem over : Rows.twinQuietRow.holds Tryz.pinned (OpenSpec.ofChange Rows.twinQuietSpec) :=
  OpenClaim.holds_of_wide 3 Tryz.f3 rfl rfl rfl rfl rfl rfl rfl ⟨rfl, rfl, rfl, rfl, rfl⟩ rfl rfl rfl rfl rfl (by kernel_rfl) Tryz.func3 (by kernel_rfl)
    (of_decide_eq_true (by kernel_rfl)) (by unfold Func.isWrapper; first | (rw [if_pos (by decide +kernel)]; kernel_rfl) | (rw [if_neg (by decide +kernel)]; exact ⟨rfl, rfl⟩))
    (fun os started H enc _ => lifted os started H enc)

/-- the statement -/
theorem proved : Rows.TwinQuietCardSaid :=
  Claim7.holds_tied_plain_at .later [] [.data] true (true, "cfd5e8f370aac776a36069281a21bc87a3ceaa2b716b9e8dd14b1deebcad7bf1") false
    over (fun _ h => by cases h) (by kernel_rfl) (fun _ h => by cases h) twinQuiet_row_tie rfl ⟨rfl, rfl⟩ (by kernel_rfl) rfl
    (fun f fn hf hfn => by
      obtain rfl : f = 3 := Option.some.inj ((show Tryz.prog.funcNamed "astrolabe/astrolabelaw26.TwinQuiet" = some 3 by kernel_rfl).symm.trans hf) |>.symm
      obtain rfl : fn = Tryz.f3 := (Option.some.inj (Tryz.func3.symm.trans hfn)).symm
      exact ⟨by kernel_rfl, fun j t ht => by
        rw [Tryz.params3] at ht
        have h3 : t = 5 ∨ t = 23 ∨ t = 27 := by
          rcases j with _ | _ | _ | _ | j
          · exact (.inr (.inr (by simpa using ht.symm)))
          · exact (.inr (.inl (by simpa using ht.symm)))
          · exact (.inr (.inl (by simpa using ht.symm)))
          · exact (.inl (by simpa using ht.symm))
          · simp at ht
        rcases h3 with rfl | rfl | rfl
        · exact (show Tryz.prog.wantsStandIn 5 = false by kernel_rfl)
        · exact (show Tryz.prog.wantsStandIn 23 = false by kernel_rfl)
        · exact (show Tryz.prog.wantsStandIn 27 = false by kernel_rfl)⟩)
    (by kernel_rfl)
#print axioms proved
end Go.Proofs.YteimodjkllldlabGreatDoor.twinQuiet
