/-
  The law ForeTrue answers true at every input: the law is run by the engine (a symbolic run, proved sound), the tree of its answers, as a plain statement, is shown to hold. No condition.
-/
import Derived.Test.YteebeenfggchnaaGreatDoorKc
import Derived.Test.YteebeenfggchnaaGreatDoorKd
import Derived.Test.YteebeenfggchnaaGreatDoorKe
import Derived.Test.YteebeenfggchnaaGreatDoorGab
import Derived.Test.YteebeenfggchnaaGreatDoorGib
import Derived.Test.YteebeenfggchnaaGreatDoorGmU
import Derived.Test.YteebeenfggchnaaGreatDoorGmV
import Derived.Test.YteebeenfggchnaaGreatDoorGmH
import Derived.WalkKit
import Derived.ProofKit
import Derived.OpenShut
import Derived.LaidMore
import Derived.Stop.Joined
import Derived.SevenTiedAt
import Derived.SizedLaws
import Derived.Lay
import Derived.Test.YteebeenfggchnaaGreatDoorCards
import Derived.Test.YteebeenfggchnaaGreatDoorTie
namespace Go.Proofs.YteebeenfggchnaaGreatDoor.foreTrue
open Go.ChangeShapes Go.WideShapes Go.ChangeAt Go.Eng Go.RowKit
set_option linter.unusedVariables false
set_option linter.unusedSimpArgs false
set_option maxRecDepth 100000
def rc : Rc := ⟨3, [some 5, none, none], [.row [.int .u32] 140737488355328, .row [.int .i32] 140737488355328, .row [.bool] 140737488355328, .row [.int .i64] 140737488355328, .row [.int .i64] 140737488355328, .row [.int .i32] 140737488355328, .int .u8], [], .one, [.bool (.c 1)]⟩
theorem okb : rc.ok = true := by kernel_rfl
noncomputable def us : SMs := fun Γ ins n => smH (cxG n Γ ins) [CCNewO.rk.rh, CCRun0.rk.rh] (smAnd 24 (libClone24 Γ ins n) (smR (cxG n Γ ins) [CAwake25.rc, CRICheck.rc, CFTell.rc, CRLike.rc, CRSame16.rc]))
theorem us_ok : SMsOk us := fun Γ ins n => qZt (tabsG n Γ ins) (qJx CCNewO.okh (rh_n CCNewO.ok) (qJx CCRun0.okh (rh_n CCRun0.ok) (qZv _))) (smAnd_ok (libClone24_ok Γ ins n) (qZn (tabsG n Γ ins) (qQs CAwake25.okb (rc_n CAwake25.ok) (qQs CRICheck.okb (rc_n CRICheck.ok) (qQs CFTell.okb (rc_n CFTell.ok) (qQs CRLike.okb (rc_n CRLike.ok) (qQs CRSame16.okb (rc_n CRSame16.ok) (qZw _))))))))
def Q0 : E := (tC (.v 11) (.c 0))
def Q1 : E := (tC (.v 10) Q0)
def Q2 : E := (tC (.v 4) Q1)
def Q3 : E := (tC (.v 3) Q2)
def Q4 : E := (tC (.v 2) Q3)
def Q5 : E := (.f 84 (.v 0) (.v 1) Q4)
def Q6 : E := (te Q5 (.c 0))
def Q7 : E := (tC (.v 9) (.c 0))
def Q8 : E := (tC (.v 8) Q7)
def Q9 : E := (tC (.v 6) Q8)
def Q10 : E := (tC (.v 1) Q9)
def Q11 : E := (.f 97 (.v 7) (.v 0) Q10)
def Q12 : E := (.cl 1004 (-9223372036854775808) 9223372036854775807)
def Q13 : E := (.f 88 (.v 7) (.v 0) (.c 0))
def Q14 : E := (.f 68 Q13 (.v 0) (.c 0))
def Q15 : E := (te Q12 (.c 0))
def Q16 : E := (.cl 1001 (-9223372036854775808) 9223372036854775807)
def Q17 : E := (tl (.c 0) Q16)
def Q18 : E := (tl Q16 (.c 1000000))
def Q19 : E := (tC (.v 5) (.c 0))
def Q20 : E := (tC (.v 12) Q19)
def Q21 : E := (tC (.v 2) Q20)
def Q22 : E := (tC (.v 9) Q21)
def Q23 : E := (.f 102 (.v 8) (.v 1) Q22)
def Q24 : E := (.f 74 Q23 (.c 0) (.c 0))
def Q25 : E := (tC Q24 (.c 0))
def Q26 : E := (tC (.v 6) Q25)
def Q27 : E := (tC (.v 1) Q26)
def Q28 : E := (.f 73 Q13 (.v 0) Q27)
def Q29 : E := (.f 75 Q28 (.c 0) (.c 0))
def Q30 : E := (te (.cl 1005 0 999999) Q16)
def Q31 : E := (tR Q28 (.c 5))
def Q32 : E := (tR Q11 (.c 0))
def Q33 : E := (.f 71 Q31 Q32 (.cl 1005 0 999999))
def Q34 : E := (.ite Q30 Q33 (.c 0))
def Q35 : E := (tR Q28 (.c 3))
def Q36 : E := (t6 Q35)
def Q37 : E := (.cl 1007 (-9223372036854775808) 9223372036854775807)
def Q38 : E := (.cl 1002 (-9223372036854775808) 9223372036854775807)
def Q39 : E := (te Q37 Q38)
def Q40 : E := (tR Q28 (.c 2))
def Q41 : E := (t6 Q40)
def Q42 : E := (.cl 1008 (-9223372036854775808) 9223372036854775807)
def Q43 : E := (.cl 1003 (-9223372036854775808) 9223372036854775807)
def Q44 : E := (te Q42 Q43)
def Q45 : E := (te Q38 (.c 0))
def Q46 : E := (tl Q16 (.cl 1005 0 999999))
def Q47 : E := (tl Q16 Q29)
def Q48 : E := (.f 71 Q31 Q32 Q16)
def tree : TT (List E) :=
 (.br (tl (.v 0) (.c 200)) (.br (tl (.v 1) (.c 2100)) (.br (tl (.v 2) (.c 2100)) (.br (tl (.v 3) (.c 300)) (.br (.nt (tl (.v 4) (.c 300))) (.leaf [(.c 1)]) (.br (tl (.v 0) (.c 1000000)) (.br (tl (.v 1) (.c 1000000)) (.br (tl (.v 2) (.c 1000000)) (.br (tl (.v 3) (.c 1000000)) (.br (tl (.v 4) (.c 1000000)) (.br (tl (.v 0) (.v 13)) (.br (tl (.v 1) (.v 14)) (.br (tl (.v 2) (.v 15)) (.br (tl (.v 3) (.v 16)) (.br (tl (.v 4) (.v 17)) (.new 1000 Q5 (.br (tn (.cl 1000 0 9) (.c 0)) (.leaf [(.c 1)]) (.new 1001 (.ite Q6 (t6 (tR Q11 (.c 1))) (.c 0)) (.new 1002 (.ite Q6 (t6 (tR Q11 (.c 2))) (.c 0)) (.new 1003 (.ite Q6 (t6 (tR Q11 (.c 3))) (.c 0)) (.new 1004 (.ite Q6 (t6 (tR Q11 (.c 4))) Q5) (.br (tl (.v 5) (.v 18)) (.br (tl (.v 1) (.c 2048)) (.br (tl (.v 0) (.c 16384)) (.br (tn Q12 (.c 0)) (.br (tn Q12
 (.c 12)) (.leaf [(.c 0)]) (.br Q14 (.br Q15 (.br Q17 (.br Q18 (.new 1005 Q29 (.new 1006 Q34 (.br (.cl 1006 0 1) (.new 1007 Q36 (.br Q39 (.new 1008 Q41 (.br Q44 (.leaf [(.c 1)]) (.leaf [(.c 0)]))) (.leaf [(.c 0)]))) (.leaf [(.c 0)])))) (.bad 200)) (.bad 200)) (.br Q17 (.br Q45 (.new 1005 Q29 (.br Q46 (.br Q47 (.br Q18 (.new 1006 Q48 (.br (.cl 1006 0 1) (.leaf [(.c 1)]) (.leaf [(.c 0)]))) (.bad 200)) (.bad 200)) (.leaf [(.c 0)]))) (.leaf [(.c 0)])) (.bad 200))) (.bad 200))) (.br Q14 (.br Q15 (.br Q17 (.br Q18 (.new 1005 Q29 (.new 1006 Q34 (.br (.cl 1006 0 1) (.new 1007 Q36 (.br Q39 (.new 1008 Q41 (.br Q44 (.leaf [(.c 1)]) (.leaf [(.c 0)]))) (.leaf [(.c 0)]))) (.leaf [(.c 0)])))) (.bad 200)) (.bad 200)) (.br Q17 (.br Q45 (.new 1005 Q29 (.br Q46 (.br Q47 (.br Q18 (.new 1006 Q48 (.br (.cl
 1006 0 1) (.leaf [(.c 1)]) (.leaf [(.c 0)]))) (.bad 200)) (.bad 200)) (.leaf [(.c 0)]))) (.leaf [(.c 0)])) (.bad 200))) (.bad 200))) (.bad 200)) (.bad 200)) (.bad 200)))))))) (.bad 200)) (.bad 200)) (.bad 200)) (.bad 200)) (.bad 200)) (.bad 200)) (.bad 200)) (.bad 200)) (.bad 200)) (.bad 200))) (.leaf [(.c 1)])) (.leaf [(.c 1)])) (.leaf [(.c 1)])) (.leaf [(.c 1)]))

noncomputable def sq0 (h a b g i j c n f : Int) : Int := (runP (decW h a) a (kZ b (kZ g (kZ (nuP (likZ i b (kZ j (kZ c (kZ n (kZ f 0)))))) 0))))
def sq1 (h a y4 y1 b g i j c n f y2 y3 : Int) : Prop := (Pm (okC (decW h a) a) (Pb (Pe y4 0) (Pm (PL 0 y1) (Pm (PL y1 1000000) (Pn (mkN (sq0 h a b g i j c n f)) 0 999999 fun y5 => Pn (iteZ (Pe y5 y1) (qKf (rdZ (sq0 h a b g i j c n f) 5) (rdZ (ftlZ h a (kZ b (kZ g (kZ i (kZ j 0))))) 0) y5) 0) 0 1 fun y6 => (Pb y6 (Pn (W6 (rdZ (sq0 h a b g i j c n f) 3)) (-9223372036854775808) 9223372036854775807 fun y7 => (Pb (Pe y7 y2) (Pn (W6 (rdZ (sq0 h a b g i j c n f) 2)) (-9223372036854775808) 9223372036854775807 fun y8 => (Pb (Pe y8 y3) Pt Pf)) Pf)) Pf)))) (Pm (PL 0 y1) (Pb (Pe y2 0) (Pn (mkN (sq0 h a b g i j c n f)) 0 999999 fun y5 => (Pb (PL y1 y5) (Pm (PL y1 (mkN (sq0 h a b g i j c n f))) (Pm (PL y1 1000000) (Pn (qKf (rdZ (sq0 h a b g i j c n f) 5) (rdZ (ftlZ h a (kZ b (kZ g (kZ i (kZ j
 0))))) 0) y1) 0 1 fun y6 => (Pb y6 Pt Pf)))) Pf)) Pf))))
def P (a b c d e f g h i j k l n o p q r s t : Int) : Prop :=
 (Pb (PL a 200) (Pb (PL b 2100) (Pb (PL c 2100) (Pb (PL d 300) (Pb (Pe (PL e 300) 0) Pt (Pm (PL a 1000000) (Pm (PL b 1000000) (Pm (PL c 1000000) (Pm (PL d 1000000) (Pm (PL e 1000000) (Pm (PL a o) (Pm (PL b p) (Pm (PL c q) (Pm (PL d r) (Pm (PL e s) (Pn (chkZ a b (kZ c (kZ d (kZ e (kZ k (kZ l 0)))))) 0 9 fun y0 => (Pb (Pd y0 0) Pt (Pn (iteZ (Pe (chkZ a b (kZ c (kZ d (kZ e (kZ k (kZ l 0)))))) 0) (W6 (rdZ (ftlZ h a (kZ b (kZ g (kZ i (kZ j 0))))) 1)) 0) (-9223372036854775808) 9223372036854775807 fun y1 => Pn (iteZ (Pe (chkZ a b (kZ c (kZ d (kZ e (kZ k (kZ l 0)))))) 0) (W6 (rdZ (ftlZ h a (kZ b (kZ g (kZ i (kZ j 0))))) 2)) 0) (-9223372036854775808) 9223372036854775807 fun y2 => Pn (iteZ (Pe (chkZ a b (kZ c (kZ d (kZ e (kZ k (kZ l 0)))))) 0) (W6 (rdZ (ftlZ h a (kZ b (kZ g (kZ i (kZ j 0))))) 3))
 0) (-9223372036854775808) 9223372036854775807 fun y3 => Pn (iteZ (Pe (chkZ a b (kZ c (kZ d (kZ e (kZ k (kZ l 0)))))) 0) (W6 (rdZ (ftlZ h a (kZ b (kZ g (kZ i (kZ j 0))))) 4)) (chkZ a b (kZ c (kZ d (kZ e (kZ k (kZ l 0))))))) (-9223372036854775808) 9223372036854775807 fun y4 => (Pm (PL f t) (Pm (PL b 2048) (Pm (PL a 16384) (Pb (Pd y4 0) (Pb (Pd y4 12) Pf (sq1 h a y4 y1 b g i j c n f y2 y3)) (sq1 h a y4 y1 b g i j c n f y2 y3))))))))))))))))))) Pt) Pt) Pt) Pt)

set_option maxHeartbeats 4000000 in
theorem holds (n0_0 n0_1 n0_2 n0_3 n0_4 n1 p2 c0_0 c0_1 c0_2 c0_3 c0_4 c1 r0_0 r0_1 r0_2 r0_3 r0_4 r1 : Int) (l_n0_0 : 0 ≤ n0_0) (u_n0_0 : n0_0 ≤ 140737488355328) (l_n0_1 : 0 ≤ n0_1) (u_n0_1 : n0_1 ≤ 140737488355328) (l_n0_2 : 0 ≤ n0_2) (u_n0_2 : n0_2 ≤ 140737488355328) (l_n0_3 : 0 ≤ n0_3) (u_n0_3 : n0_3 ≤ 140737488355328) (l_n0_4 : 0 ≤ n0_4) (u_n0_4 : n0_4 ≤ 140737488355328) (l_n1 : 0 ≤ n1) (u_n1 : n1 ≤ 140737488355328) (l_p2 : 0 ≤ p2) (u_p2 : p2 ≤ 255) (h_n0_0 : n0_0 ≤ r0_0) (h_n0_1 : n0_1 ≤ r0_1) (h_n0_2 : n0_2 ≤ r0_2) (h_n0_3 : n0_3 ≤ r0_3) (h_n0_4 : n0_4 ≤ r0_4) (h_n1 : n1 ≤ r1) : P n0_0 n0_1 n0_2 n0_3 n0_4 n1 p2 c0_0 c0_1 c0_2 c0_3 c0_4 c1 r0_0 r0_1 r0_2 r0_3 r0_4 r1 := by
  delta P sq0 sq1 Pb Pm Pn Pf Pt PL Pe Pd W6 kZ
  simp only [nrm, nro, Int.reduceEq, Int.reduceNeg, reduceIte]
  simp only [chk_ev, sameM_refl]
  have s1 : ¬ (1 : Int) = 0 := by decide
  simp only [s1, not_false_eq_true, implies_true, true_and, and_true]
  intro g1 g2 g3 g4 g5
  refine ⟨by omega, by omega, by omega, by omega, by omega, h_n0_0, h_n0_1, h_n0_2, h_n0_3, h_n0_4, ?_⟩
  rintro x rfl - h
  obtain ⟨k1, k2, k3, k4, k5, k6, k7, k8⟩ := chk_zero h
  simp only [h, if_true]
  generalize hT : ftlZ c0_0 n0_0 _ = T
  generalize hL : likZ c0_1 n0_1 _ = L
  have hLk : ∀ j : Int, 0 ≤ j → j < n0_1 → rdZ c0_2 j = 0 → IntKind.wrap .i32 (rdZ L j) = IntKind.wrap .i32 (rdZ c0_1 j) := fun j j0 j1 e => by
    rw [← hL]; exact lik_open j0 j1 e
  have hok : okC (decW c0_0 n0_0) n0_0 ≠ 0 := by
    have := okC_dec c0_0 n0_0.toNat
    rwa [show ((n0_0.toNat : Nat) : Int) = n0_0 by omega] at this
  generalize hR : runP (decW c0_0 n0_0) n0_0 _ = R
  have hF := fore_true l_n0_0 (by omega) hT.symm hR.symm hLk
  have hb := ftl_nm hT.symm
  have hm := mkN_bd R
  have w1 : IntKind.wrap .i64 (rdZ T 1) = rdZ T 1 := w64 (by omega) (by omega)
  have w0 : IntKind.wrap .i64 0 = 0 := by decide
  have w12 : IntKind.wrap .i64 12 = 12 := by decide
  rw [w1]
  rintro y1 rfl - y2 rfl - y3 rfl - y4 e4 -
  refine ⟨h_n1, k2, k1, ?_⟩
  have yes : y4 = 0 → 0 ≤ rdZ T 1 ∧ rdZ T 1 ≤ 1000000 ∧ ∀ y5 : Int, y5 = mkN R → 0 ≤ y5 ∧ y5 ≤ 999999 → ∀ y6 : Int, (y6 = if y5 = rdZ T 1 then qKf (rdZ R 5) (rdZ T 0) y5 else 0) → 0 ≤ y6 ∧ y6 ≤ 1 → ¬ y6 = 0 ∧
      ∀ y7 : Int, y7 = IntKind.wrap .i64 (rdZ R 3) → -9223372036854775808 ≤ y7 ∧ y7 ≤ 9223372036854775807 → y7 = IntKind.wrap .i64 (rdZ T 2) ∧
      ∀ y8 : Int, y8 = IntKind.wrap .i64 (rdZ R 2) → -9223372036854775808 ≤ y8 ∧ y8 ≤ 9223372036854775807 → y8 = IntKind.wrap .i64 (rdZ T 3) := fun e0 => by
    rcases hF with ⟨f4, f1, f5, f3, f2⟩ | ⟨f4, _⟩
    · refine ⟨hb.1, by omega, ?_⟩
      rintro _ rfl - _ rfl -
      rw [if_pos f1, f5, sameM_refl]
      refine ⟨s1, ?_⟩
      rintro _ rfl -
      refine ⟨by rw [f3], ?_⟩
      rintro _ rfl -
      rw [f2]
    · rw [e4, f4, w12] at e0; exact absurd e0 (by decide)
  have no : ¬ y4 = 0 → 0 ≤ rdZ T 1 ∧ IntKind.wrap .i64 (rdZ T 2) = 0 ∧ ∀ y5 : Int, y5 = mkN R → 0 ≤ y5 ∧ y5 ≤ 999999 → rdZ T 1 ≤ y5 ∧ rdZ T 1 ≤ mkN R ∧ rdZ T 1 ≤ 1000000 ∧
      ∀ y6 : Int, y6 = qKf (rdZ R 5) (rdZ T 0) (rdZ T 1) → 0 ≤ y6 ∧ y6 ≤ 1 → ¬ y6 = 0 := fun e0 => by
    rcases hF with ⟨f4, _⟩ | ⟨f4, f2, f1, f5⟩
    · rw [e4, f4, w0] at e0; exact absurd rfl e0
    · refine ⟨hb.1, by rw [f2]; exact w0, ?_⟩
      rintro _ rfl -
      refine ⟨f1, f1, by omega, ?_⟩
      rintro _ rfl -
      rw [f5]; exact s1
  have e12 : ¬ y4 = 0 → y4 = 12 := fun e0 => by
    rcases hF with ⟨f4, _⟩ | ⟨f4, _⟩
    · rw [e4, f4, w0] at e0; exact absurd rfl e0
    · rw [e4, f4, w12]
  exact ⟨fun e0 => ⟨fun e => e (e12 e0), fun _ => ⟨hok, yes, no⟩⟩, fun _ => ⟨hok, yes, no⟩⟩

theorem plain (i v ro p) : statR 2 rc tree ⟨i, fN, v, ro, p⟩ = P (i 0) (i 1) (i 2) (i 3) (i 4) (i 5) (i 6) (i 7) (i 8) (i 9) (i 10) (i 11) (i 12) (i 13) (i 14) (i 15) (i 16) (i 17) (i 18) := by kernel_rfl
theorem ran : ranR us (fun _ _ => .auto) rc 2 tree = true := by kernel_rfl
theorem fineT : fineR 2 rc tree = true := by kernel_rfl
theorem ok : RcOk (cxOf 2) rc := okR us_ok ran fineT okb fun i v ro p hρ hcap hpre => by rw [plain]; have q := hρ.hi; exact holds _ _ _ _ _ _ _ _ _ _ _ _ _ _ _ _ _ _ _ (q 0 _ rfl).1 (q 0 _ rfl).2 (q 1 _ rfl).1 (q 1 _ rfl).2 (q 2 _ rfl).1 (q 2 _ rfl).2 (q 3 _ rfl).1 (q 3 _ rfl).2 (q 4 _ rfl).1 (q 4 _ rfl).2 (q 5 _ rfl).1 (q 5 _ rfl).2 (q 6 _ rfl).1 (q 6 _ rfl).2 (hcap _ (mg 0 rfl)) (hcap _ (mg 1 rfl)) (hcap _ (mg 2 rfl)) (hcap _ (mg 3 rfl)) (hcap _ (mg 4 rfl)) (hcap _ (mg 5 rfl))
theorem laidMet_tail {P : Program} {x : String × DataW Unit} {rest : List (String × DataW Unit)} {W : World} (h : laidMet P (x :: rest) W) : laidMet P rest W := by
  obtain ⟨ps, hl, hn, hf⟩ := h
  obtain ⟨n, d⟩ := x
  obtain ⟨g, t, cs, fuel, p, q, _, _, _, _, hq, rfl⟩ := hl
  exact ⟨q, hq, (List.nodup_append.1 hn).2.1, fun b off hm => hf b off (List.mem_append_right _ hm)⟩
theorem listE_LZ (P : Program) (l : List Int) (ro : List RO) : ∀ zs : List Int, (qQy (zs.map E.c)).ev (envR P l ro) = LZ zs
  | [] => rfl
  | z :: zs => by
    have h : (qQy ((z :: zs).map E.c)).ev (envR P l ro) = qQq z ((qQy (zs.map E.c)).ev (envR P l ro)) := rfl
    rw [h, listE_LZ P l ro zs]
    unfold qQq
    rw [ZL_LZ]
def tab0 : List Int := [1, 1, 1, 1, 1, 1, 1, 1, 1, 1, 1, 1, 1, 1, 1, 1, 1, 3, 3, 3, 3, 2, 2, 1, 1, 1, 1, 1, 1, 1, 1, 1, 1, 2, 2, 1, 1, 1, 3, 3, 3, 1, 1]
theorem tabG0 : Tryz.prog.globalNamed "astrolabe/ops.costs" = some 1 := by kernel_rfl
theorem tabW0 : ∀ z ∈ tab0, IntKind.wrap .i64 z = z := fun z hz => by
  have h := List.all_eq_true.1 (show tab0.all (fun z => decide (IntKind.wrap .i64 z = z)) = true by kernel_rfl) z hz
  simpa using h
theorem tabIs0 {W : World} (h : laidMetH Tryz.prog Rows.foreTrueRow.laid W) : Lib.TabIs Tryz.prog W "astrolabe/ops.costs" .i64 tab0 := by
  rw [MakeChecks.laidMetH_plain _ _ _ (by kernel_rfl)] at h
  exact Lib.tabIs_of_head tabG0 (t := 125) (e := 3) (n := 43) (by kernel_rfl) (by kernel_rfl) (by kernel_rfl) (by kernel_rfl) (by kernel_rfl) (laidMet_tail (laidMet_tail h))
def tab1 : List Int := [0, 0, 0, 0, 0, 0, 0, 0, 0, 1, 1, 1, 1, 1, 0, 0, 0, 0, 0, 0, 0, 0, 0, 0, 0, 0, 0, 0, 0, 0, 0, 0, 1, 0, 0, 0, 0, 0, 0, 0, 0, 0, 0, 0, 0, 0, 0, 0, 0, 0, 0, 0, 0, 0, 0, 0, 0, 0, 0, 0, 0, 0, 0, 0, 0, 0, 0, 0, 0, 0, 0, 0, 0, 0, 0, 0, 0, 0, 0, 0, 0, 0, 0, 0, 0, 0, 0, 0, 0, 0, 0, 0, 0, 0, 0, 0, 0, 0, 0, 0, 0, 0, 0, 0, 0, 0, 0, 0, 0, 0, 0, 0, 0, 0, 0, 0, 0, 0, 0, 0, 0, 0, 0, 0, 0, 0, 0, 0, 0, 0, 0, 0, 0, 0, 0, 0, 0, 0, 0, 0, 0, 0, 0, 0, 0, 0, 0, 0, 0, 0, 0, 0, 0, 0, 0, 0, 0, 0, 0, 0, 0, 0, 0, 0, 0, 0, 0, 0, 0, 0, 0, 0, 0, 0, 0, 0, 0, 0, 0, 0, 0, 0, 0, 0, 0, 0, 0, 0, 0, 0, 0, 0, 0, 0, 0, 0, 0, 0, 0, 0, 0, 0, 0, 0, 0, 0, 0, 0, 0, 0, 0, 0, 0, 0, 0, 0, 0, 0, 0, 0, 0, 0, 0, 0, 0, 0, 0, 0, 0, 0, 0, 0, 0, 0, 0, 0, 0, 0, 0, 0, 0, 0, 0, 0, 0, 0, 0, 0, 0, 0, 0, 0, 0, 0, 0, 0]
theorem tabG1 : Tryz.prog.globalNamed "strings.asciiSpace" = some 0 := by kernel_rfl
theorem tabW1 : ∀ z ∈ tab1, IntKind.wrap .u8 z = z := fun z hz => by
  have h := List.all_eq_true.1 (show tab1.all (fun z => decide (IntKind.wrap .u8 z = z)) = true by kernel_rfl) z hz
  simpa using h
theorem tabIs1 {W : World} (h : laidMetH Tryz.prog Rows.foreTrueRow.laid W) : Lib.TabIs Tryz.prog W "strings.asciiSpace" .u8 tab1 := by
  rw [MakeChecks.laidMetH_plain _ _ _ (by kernel_rfl)] at h
  exact Lib.tabIs_of_head tabG1 (t := 117) (e := 5) (n := 256) (by kernel_rfl) (by kernel_rfl) (by kernel_rfl) (by kernel_rfl) (by kernel_rfl) (laidMet_tail h)

theorem walk (w : World) (a0_0 : RO) (k0_0 : a0_0.cks = [.int .u32]) (n0_0 : a0_0.a = none → a0_0.n = 0) (m0_0 : a0_0.n ≤ a0_0.cap) (t0_0 : RoAt w a0_0) (b0_0 : (a0_0.n : Int) ≤ 140737488355328) (a0_1 : RO) (k0_1 : a0_1.cks = [.int .i32]) (n0_1 : a0_1.a = none → a0_1.n = 0) (m0_1 : a0_1.n ≤ a0_1.cap) (t0_1 : RoAt w a0_1) (b0_1 : (a0_1.n : Int) ≤ 140737488355328) (a0_2 : RO) (k0_2 : a0_2.cks = [.bool]) (n0_2 : a0_2.a = none → a0_2.n = 0) (m0_2 : a0_2.n ≤ a0_2.cap) (t0_2 : RoAt w a0_2) (b0_2 : (a0_2.n : Int) ≤ 140737488355328) (a0_3 : RO) (k0_3 : a0_3.cks = [.int .i64]) (n0_3 : a0_3.a = none → a0_3.n = 0) (m0_3 : a0_3.n ≤ a0_3.cap) (t0_3 : RoAt w a0_3) (b0_3 : (a0_3.n : Int) ≤ 140737488355328) (a0_4 : RO) (k0_4 : a0_4.cks = [.int .i64]) (n0_4 : a0_4.a = none → a0_4.n = 0) (m0_4 : a0_4.n ≤ a0_4.cap) (t0_4 : RoAt w a0_4) (b0_4 : (a0_4.n : Int) ≤ 140737488355328) (a1 : RO) (k1 : a1.cks = [.int .i32]) (n1 : a1.a = none → a1.n = 0) (m1 : a1.n ≤ a1.cap) (t1 : RoAt w a1) (b1 : (a1.n : Int) ≤ 140737488355328) (a2 : Int) (w2 : (Lit.int .u8 a2).wf = true) (tb0 : Lib.TabIs Tryz.prog w "astrolabe/ops.costs" .i64 tab0) (tb1 : Lib.TabIs Tryz.prog w "strings.asciiSpace" .u8 tab1) :
    Calls Tryz.prog 3 #[.agg #[.slice a0_0.a a0_0.n a0_0.cap, .slice a0_1.a a0_1.n a0_1.cap, .slice a0_2.a a0_2.n a0_2.cap, .slice a0_3.a a0_3.n a0_3.cap, .slice a0_4.a a0_4.n a0_4.cap], .slice a1.a a1.n a1.cap, .int .u8 a2] w fun e w' => e = .returned (.bool true) ∧ Below w.heap.size w w' := by
  refine law_of (cx := cxOf 2) ok ⟨rfl, rfl, rfl⟩ (ρ := envR Tryz.prog [(a0_0.n : Int), (a0_1.n : Int), (a0_2.n : Int), (a0_3.n : Int), (a0_4.n : Int), (a1.n : Int), a2, a0_0.c, a0_1.c, a0_2.c, a0_3.c, a0_4.c, a1.c, (a0_0.cap : Int), (a0_1.cap : Int), (a0_2.cap : Int), (a0_3.cap : Int), (a0_4.cap : Int), (a1.cap : Int)] [a0_0, a0_1, a0_2, a0_3, a0_4, a1, tabRo 1 .i64 tab0, tabRo 0 .u8 tab1]) (envR_ok (cx := rc.cx (cxOf 2)) rfl rfl (bnd_cons ⟨Int.natCast_nonneg _, b0_0⟩ (bnd_cons ⟨Int.natCast_nonneg _, b0_1⟩ (bnd_cons ⟨Int.natCast_nonneg _, b0_2⟩ (bnd_cons ⟨Int.natCast_nonneg _, b0_3⟩ (bnd_cons ⟨Int.natCast_nonneg _, b0_4⟩ (bnd_cons ⟨Int.natCast_nonneg _, b1⟩ (bnd_cons (wf_bd w2) (bnd_nil _)))))))) ⟨⟨k0_0, rfl, (Int.toNat_natCast _).symm, (Int.toNat_natCast _).symm, n0_0, fun g h => by cases h⟩, ⟨⟨k0_1, rfl, (Int.toNat_natCast _).symm, (Int.toNat_natCast _).symm, n0_1, fun g h => by cases h⟩, ⟨⟨k0_2, rfl, (Int.toNat_natCast _).symm, (Int.toNat_natCast _).symm, n0_2, fun g h => by cases h⟩, ⟨⟨k0_3, rfl, (Int.toNat_natCast _).symm, (Int.toNat_natCast _).symm, n0_3, fun g h => by cases h⟩, ⟨⟨k0_4, rfl, (Int.toNat_natCast _).symm, (Int.toNat_natCast _).symm, n0_4, fun g h => by cases h⟩, ⟨⟨k1, rfl, (Int.toNat_natCast _).symm, (Int.toNat_natCast _).symm, n1, fun g h => by cases h⟩, ⟨⟨rfl, (listE_LZ _ _ _ tab0).symm, rfl, rfl, (fun h => by cases h), fun g h => by cases h; rfl⟩, ⟨⟨rfl, (listE_LZ _ _ _ tab1).symm, rfl, rfl, (fun h => by cases h), fun g h => by cases h; rfl⟩, trivial⟩⟩⟩⟩⟩⟩⟩⟩) (fun d hd => by
    simp only [show qXi rc.b rc.c rc.ls 0 0 0 = [⟨[.int .u32], .v 7, .v 0, .v 13, none⟩, ⟨[.int .i32], .v 8, .v 1, .v 14, none⟩, ⟨[.bool], .v 9, .v 2, .v 15, none⟩, ⟨[.int .i64], .v 10, .v 3, .v 16, none⟩, ⟨[.int .i64], .v 11, .v 4, .v 17, none⟩, ⟨[.int .i32], .v 12, .v 5, .v 18, none⟩] from rfl, List.mem_cons, List.not_mem_nil, or_false] at hd
    rcases hd with rfl | rfl | rfl | rfl | rfl | rfl
    · exact Int.ofNat_le.2 m0_0
    · exact Int.ofNat_le.2 m0_1
    · exact Int.ofNat_le.2 m0_2
    · exact Int.ofNat_le.2 m0_3
    · exact Int.ofNat_le.2 m0_4
    · exact Int.ofNat_le.2 m1) (roOk_of ⟨t0_0, ⟨t0_1, ⟨t0_2, ⟨t0_3, ⟨t0_4, ⟨t1, ⟨tabRo_at tb0 tabG0 tabW0, ⟨tabRo_at tb1 tabG1 tabW1, trivial⟩⟩⟩⟩⟩⟩⟩⟩) ?_
  rw [show rc.args = [.agg [.sl (.inp 0) 1 (.c 0) (.v 0) (some (.v 13)), .sl (.inp 1) 1 (.c 0) (.v 1) (some (.v 14)), .sl (.inp 2) 1 (.c 0) (.v 2) (some (.v 15)), .sl (.inp 3) 1 (.c 0) (.v 3) (some (.v 16)), .sl (.inp 4) 1 (.c 0) (.v 4) (some (.v 17))], .sl (.inp 5) 1 (.c 0) (.v 5) (some (.v 18)), .int .u8 (.v 6)] from rfl]
  simp only [SV.denL, SV.den, E.ev, map_addr_zero]
  rfl
theorem lifted (os : Os) (started : os.Started) (H : Type) (enc : TypeId × Value → H) :
    ReturnsInHanded {} Tryz.checked os 3 .any (fun w args => (Rows.foreTrueSpec.pre enc Tryz.prog Tryz.f3 Rows.foreTrueRow.domain false w args ∧ laidMetH Tryz.prog Rows.foreTrueRow.laid w) ∧ sizedMet enc Tryz.prog Tryz.f3 (OpenSpec.ofChange Rows.foreTrueSpec) false w args)
      (Rows.foreTrueSpec.post enc Tryz.prog Tryz.f3 false true false false) := by
  refine returnsInHanded_of_change_and (C := Tryz.checked) (X := fun w _ => laidMetH Tryz.prog Rows.foreTrueRow.laid w) (fun _ _ _ hh h => h.of_heap hh) own started (by kernel_rfl) Tryz.func3
    (ChangeSpec.witness_shaped (enc := enc) (C := Tryz.checked) (os := os) (X := fun w _ => laidMetH Tryz.prog Rows.foreTrueRow.laid w) false (World.laidAll Tryz.prog os Rows.foreTrueRow.laid) #[.agg #[.slice none 0 0, .slice none 0 0, .slice none 0 0, .slice none 0 0, .slice none 0 0], .slice none 0 0, .int .u8 0] 8 (World.laidAll_os _ _ _)
      (World.shaped_of_ZipB (by kernel_rfl) (by kernel_rfl)) (by kernel_rfl) (by kernel_rfl) (by kernel_rfl)
      (by rw [MakeChecks.laidMetH_plain _ _ _ (by kernel_rfl)]; exact laidMet_laidAll _ (by kernel_rfl) (by kernel_rfl))) ?_
  intro W base args ds gs before hval0 hW hcnd hw0 hL _
  have hval : ∀ (j : Nat) t v, Tryz.f3.params[j]? = some t → args[j]? = some v → Value.okWide Tryz.prog W .any base t v := hval0
  have hW' := hW
  obtain ⟨p, q, hA0, hV, rfl, hfz, hnd⟩ := hW
  have hA : DataW.TrodAll enc Tryz.prog W 0 (fun _ => true) true Tryz.f3.params.toList args.toList ds p := hA0
  have hw := hw0
  rw [Tryz.params3] at hA hval hw
  obtain ⟨v0, vs0, d0, ds0, p0, q0, hargs, rfl, rfl, h0, r0⟩ := trodAll_cons hA
  have h0k := h0
  obtain ⟨v1, vs1, d1, ds1, p1, q1, rfl, rfl, rfl, h1, r1⟩ := trodAll_cons r0
  have h1k := h1
  obtain ⟨v2, vs2, d2, ds2, p2, q2, rfl, rfl, rfl, h2, r2⟩ := trodAll_cons r1
  have h2k := h2
  obtain ⟨rfl, rfl, rfl⟩ := trodAll_nil r2
  obtain rfl : args = #[v0, v1, v2] := by cases args; simp_all
  obtain ⟨rfl, rfl⟩ := trodVars_none hV
  obtain ⟨ros0, hl0, rfl, hp0⟩ := Go.Eng.open_rows (kss := [[.int .u32], [.int .i32], [.bool], [.int .i64], [.int .i64]]) Tryz.underlying27 (by kernel_rfl) (by kernel_rfl) ⟨⟨⟨_, Tryz.underlying22, (ElT.one Tryz.underlying47 (by kernel_rfl)), of_decide_eq_true (by kernel_rfl), by kernel_rfl⟩, by decide⟩, ⟨⟨_, Tryz.underlying23, (ElT.one Tryz.underlying21 (by kernel_rfl)), of_decide_eq_true (by kernel_rfl), by kernel_rfl⟩, by decide⟩, ⟨⟨_, Tryz.underlying24, (ElT.one Tryz.underlying4 (by kernel_rfl)), of_decide_eq_true (by kernel_rfl), by kernel_rfl⟩, by decide⟩, ⟨⟨_, Tryz.underlying25, (ElT.one Tryz.underlying3 (by kernel_rfl)), of_decide_eq_true (by kernel_rfl), by kernel_rfl⟩, by decide⟩, ⟨⟨_, Tryz.underlying25, (ElT.one Tryz.underlying3 (by kernel_rfl)), of_decide_eq_true (by kernel_rfl), by kernel_rfl⟩, by decide⟩, trivial⟩ (hval 0 27 v0 rfl rfl) h0 (weights_of (gs := []) hw (j := 0) (t := 27) rfl rfl)
  obtain ⟨a0_0, ros0, rfl⟩ := List.exists_cons_of_length_eq_add_one hl0
  have hl0 := Nat.succ.inj hl0
  obtain ⟨a0_1, ros0, rfl⟩ := List.exists_cons_of_length_eq_add_one hl0
  have hl0 := Nat.succ.inj hl0
  obtain ⟨a0_2, ros0, rfl⟩ := List.exists_cons_of_length_eq_add_one hl0
  have hl0 := Nat.succ.inj hl0
  obtain ⟨a0_3, ros0, rfl⟩ := List.exists_cons_of_length_eq_add_one hl0
  have hl0 := Nat.succ.inj hl0
  obtain ⟨a0_4, ros0, rfl⟩ := List.exists_cons_of_length_eq_add_one hl0
  have hl0 := Nat.succ.inj hl0
  obtain rfl := List.eq_nil_of_length_eq_zero hl0
  obtain ⟨k0_0, n0_0, m0_0, t0_0, b0_0, _⟩ := hp0 0 _ _ rfl rfl
  obtain ⟨k0_1, n0_1, m0_1, t0_1, b0_1, _⟩ := hp0 1 _ _ rfl rfl
  obtain ⟨k0_2, n0_2, m0_2, t0_2, b0_2, _⟩ := hp0 2 _ _ rfl rfl
  obtain ⟨k0_3, n0_3, m0_3, t0_3, b0_3, _⟩ := hp0 3 _ _ rfl rfl
  obtain ⟨k0_4, n0_4, m0_4, t0_4, b0_4, _⟩ := hp0 4 _ _ rfl rfl
  obtain ⟨a1, k1, rfl, n1, m1, t1, b1, _⟩ := Go.Eng.open_row (ks := [.int .i32]) Tryz.underlying23 (ElT.one Tryz.underlying21 (by kernel_rfl)) (by decide) (of_decide_eq_true (by kernel_rfl)) (by kernel_rfl) (hval 1 23 v1 rfl rfl) h1 (weights_of (gs := []) hw (j := 1) (t := 23) rfl rfl)
  obtain ⟨a2, rfl, rfl, rfl, w2⟩ := open_int Tryz.underlying5 (hval 2 5 v2 rfl rfl) h2
  clear hA0 hval0
  refine (walk W a0_0 k0_0 n0_0 m0_0 t0_0 b0_0 a0_1 k0_1 n0_1 m0_1 t0_1 b0_1 a0_2 k0_2 n0_2 m0_2 t0_2 b0_2 a0_3 k0_3 n0_3 m0_3 t0_3 b0_3 a0_4 k0_4 n0_4 m0_4 t0_4 b0_4 a1 k1 n1 m1 t1 b1 a2 w2 (tabIs0 hL) (tabIs1 hL)).mono fun e W' ⟨he, hg⟩ => ?_
  subst he
  have hin0 : ∀ x ∈ p0, x ∈ p0 ++ (p1 ++ ([] ++ [])) ++ [] := fun x hx => by simp [hx]
  have hlt0 : ∀ x ∈ p0, x.block < W.heap.size := fun x hx => by simpa using hW'.lt x (by simp [hx])
  have hin1 : ∀ x ∈ p1, x ∈ p0 ++ (p1 ++ ([] ++ [])) ++ [] := fun x hx => by simp [hx]
  have hlt1 : ∀ x ∈ p1, x.block < W.heap.size := fun x hx => by simpa using hW'.lt x (by simp [hx])
  exact ⟨_, rfl, post_below (pa := _) (pv := []) hW' hg (fun _ _ _ => (trodAll_cons_mk (shut_bool Tryz.underlying4 _) trodAll_mk0)) (fun sp hsp => (trodAll_cons_mk (WideElems.Trod_stays laidOut (by kernel_rfl) (of_decide_eq_true (by kernel_rfl)) h0k (fun x hx => hg.same (hlt0 x hx)) (fun x hx => hsp x (hin0 x hx))) (trodAll_cons_mk (WideElems.Trod_stays laidOut (by kernel_rfl) (of_decide_eq_true (by kernel_rfl)) h1k (fun x hx => hg.same (hlt1 x hx)) (fun x hx => hsp x (hin1 x hx))) (trodAll_cons_mk (shut_int Tryz.underlying5 w2) trodAll_mk0)))) (fun _ _ => rfl) (by simp)
    (ok_one (by kernel_rfl) rfl (okWide_bool_mk Tryz.underlying4 _))⟩

theorem over : Rows.foreTrueRow.holds Tryz.pinned (OpenSpec.ofChange Rows.foreTrueSpec) :=
  OpenClaim.holds_of_wide 3 Tryz.f3 rfl rfl rfl rfl rfl rfl rfl ⟨rfl, rfl, rfl, rfl, rfl⟩ rfl rfl rfl rfl rfl (by kernel_rfl) Tryz.func3 (by kernel_rfl)
    (of_decide_eq_true (by kernel_rfl)) (by unfold Func.isWrapper; first | (rw [if_pos (by decide +kernel)]; kernel_rfl) | (rw [if_neg (by decide +kernel)]; exact ⟨rfl, rfl⟩))
    (fun os started H enc _ => lifted os started H enc)

/-- the statement -/
theorem proved : Rows.ForeTrueCardSaid :=
  Claim7.holds_tied_plain_at .later [] [.listed, .data, .data] true (true, "8fe3fac73ea8bec5cbafadfd954b2cd512213055d3ad40db22a0a1be3d7eea9e") false
    over (fun _ h => by cases h) (by kernel_rfl) (fun _ h => by cases h) foreTrue_row_tie rfl ⟨rfl, rfl⟩ (by kernel_rfl) rfl
    (fun f fn hf hfn => by
      obtain rfl : f = 3 := Option.some.inj ((show Tryz.prog.funcNamed "astrolabe/astrolabelaw25.ForeTrue" = some 3 by kernel_rfl).symm.trans hf) |>.symm
      obtain rfl : fn = Tryz.f3 := (Option.some.inj (Tryz.func3.symm.trans hfn)).symm
      exact ⟨by kernel_rfl, fun j t ht => by
        rw [Tryz.params3] at ht
        have h3 : t = 5 ∨ t = 23 ∨ t = 27 := by
          rcases j with _ | _ | _ | j
          · exact (.inr (.inr (by simpa using ht.symm)))
          · exact (.inr (.inl (by simpa using ht.symm)))
          · exact (.inl (by simpa using ht.symm))
          · simp at ht
        rcases h3 with rfl | rfl | rfl
        · exact (show Tryz.prog.wantsStandIn 5 = false by kernel_rfl)
        · exact (show Tryz.prog.wantsStandIn 23 = false by kernel_rfl)
        · exact (show Tryz.prog.wantsStandIn 27 = false by kernel_rfl)⟩)
    (by kernel_rfl)
#print axioms proved
end Go.Proofs.YteebeenfggchnaaGreatDoor.foreTrue
