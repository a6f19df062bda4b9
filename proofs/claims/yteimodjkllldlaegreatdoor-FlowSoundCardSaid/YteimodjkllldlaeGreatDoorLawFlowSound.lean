/-
  The law FlowSound answers true at every input: the law is run by the engine (a symbolic run, proved sound), the tree of its answers, as a plain statement, is shown to hold. No condition.
-/
import Derived.Test.YteimodjkllldlaeGreatDoorKd
import Derived.Test.YteimodjkllldlaeGreatDoorKe
import Derived.Test.YteimodjkllldlaeGreatDoorKg
import Derived.Test.YteimodjkllldlaeGreatDoorGab
import Derived.Test.YteimodjkllldlaeGreatDoorGib
import Derived.Test.YteimodjkllldlaeGreatDoorGp6
import Derived.Test.YteimodjkllldlaeGreatDoorGp3
import Derived.WalkKit
import Derived.ProofKit
import Derived.OpenShut
import Derived.LaidMore
import Derived.Stop.Joined
import Derived.SevenTiedAt
import Derived.SizedLaws
import Derived.Lay
import Derived.Test.YteimodjkllldlaeGreatDoorCards
import Derived.Test.YteimodjkllldlaeGreatDoorTie
namespace Go.Proofs.YteimodjkllldlaeGreatDoor.flowSound
open Go.ChangeShapes Go.WideShapes Go.ChangeAt Go.Eng Go.RowKit
set_option linter.unusedVariables false
set_option linter.unusedSimpArgs false
set_option maxRecDepth 100000
def rc : Rc := ⟨3, [some 5, none, none, none], [.row [.int .u32] 140737488355328, .row [.int .i32] 140737488355328, .row [.bool] 140737488355328, .row [.int .i64] 140737488355328, .row [.int .i64] 140737488355328, .row [.int .i32] 140737488355328, .row [.int .i32] 140737488355328, .int .u8], [], .one, [.bool (.c 1)]⟩
theorem okb : rc.ok = true := by kernel_rfl
noncomputable def us : SMs := fun Γ ins n => smH (cxG n Γ ins) [CCNewO.rk.rh, CCRun0.rk.rh] (smAnd 26 (libClone26 Γ ins n) (smR (cxG n Γ ins) [CAwake24.rc, CFCheck.rc, CRLike.rc, CRSame16.rc]))
theorem us_ok : SMsOk us := fun Γ ins n => qJb (tabsG n Γ ins) (qJg CCNewO.okh (rh_n CCNewO.ok) (qJg CCRun0.okh (rh_n CCRun0.ok) (qZm _))) (smAnd_ok (libClone26_ok Γ ins n) (qJy (tabsG n Γ ins) (qZg CAwake24.okb (rc_n CAwake24.ok) (qZg CFCheck.okb (rc_n CFCheck.ok) (qZg CRLike.okb (rc_n CRLike.ok) (qZg CRSame16.okb (rc_n CRSame16.ok) (qZo _)))))))
def Q0 : E := (tC (.v 12) (.c 0))
def Q1 : E := (tC (.v 11) Q0)
def Q2 : E := (tC (.v 4) Q1)
def Q3 : E := (tC (.v 3) Q2)
def Q4 : E := (tC (.v 2) Q3)
def Q5 : E := (.f 84 (.v 0) (.v 1) Q4)
def Q6 : E := (.f 88 (.v 8) (.v 0) (.c 0))
def Q7 : E := (tC (.v 5) (.c 0))
def Q8 : E := (tC (.v 13) Q7)
def Q9 : E := (tC (.v 2) Q8)
def Q10 : E := (tC (.v 10) Q9)
def Q11 : E := (.f 102 (.v 9) (.v 1) Q10)
def Q12 : E := (.f 74 Q11 (.c 0) (.c 0))
def Q13 : E := (tC Q12 (.c 0))
def Q14 : E := (tC (.v 7) Q13)
def Q15 : E := (tC (.v 1) Q14)
def Q16 : E := (.f 73 Q6 (.v 0) Q15)
def Q17 : E := (tC (.v 6) (.c 0))
def Q18 : E := (tC (.v 14) Q17)
def Q19 : E := (tC (.v 2) Q18)
def Q20 : E := (tC (.v 10) Q19)
def Q21 : E := (.f 102 (.v 9) (.v 1) Q20)
def Q22 : E := (.f 74 Q21 (.c 0) (.c 0))
def Q23 : E := (tC Q22 (.c 0))
def Q24 : E := (tC (.v 7) Q23)
def Q25 : E := (tC (.v 1) Q24)
def Q26 : E := (.f 73 Q6 (.v 0) Q25)
def Q27 : E := (.cl 1004 0 4611686018427387904)
def Q28 : E := (tp Q27 (.c 1))
def Q29 : E := (tl Q28 (.c 4611686018427387904))
def tree : TT (List E) :=
 (.br (tl (.v 0) (.c 200)) (.br (tl (.v 1) (.c 2100)) (.br (tl (.v 2) (.c 2100)) (.br (tl (.v 3) (.c 300)) (.br (.nt (tl (.v 4) (.c 300))) (.leaf [(.c 1)]) (.br (tl (.v 0) (.c 1000000)) (.br (tl (.v 1) (.c 1000000)) (.br (tl (.v 2) (.c 1000000)) (.br (tl (.v 3) (.c 1000000)) (.br (tl (.v 4) (.c 1000000)) (.br (tl (.v 0) (.v 15)) (.br (tl (.v 1) (.v 16)) (.br (tl (.v 2) (.v 17)) (.br (tl (.v 3) (.v 18)) (.br (tl (.v 4) (.v 19)) (.new 1000 (.ite (tn Q5 (.c 0)) Q5 (.f 104 (.v 8) (.v 0) (tC (.v 1) (tC (.v 10) (tC (.v 11) (tC (.v 3) (.c 0))))))) (.br (tn (.cl 1000 0 12) (.c 0)) (.leaf [(.c 1)]) (.br (tl (.v 5) (.v 20)) (.br (tl (.v 1) (.c 2048)) (.br (tl (.v 0) (.c 16384)) (.br (tl (.v 6) (.v 21)) (.br (.f 68 Q6 (.v 0) (.c 0)) (.br (tn (t6 (tR Q16 (.c 7))) (t6 (tR Q26 (.c 7)))) (.leaf [(.c
 0)]) (.br (tn (t6 (tR Q16 (.c 3))) (t6 (tR Q26 (.c 3)))) (.leaf [(.c 0)]) (.br (tn (t6 (tR Q16 (.c 2))) (t6 (tR Q26 (.c 2)))) (.leaf [(.c 0)]) (.new 1001 (.f 75 Q16 (.c 0) (.c 0)) (.new 1002 (.f 75 Q26 (.c 0) (.c 0)) (.new 1003 (.ite (te (.cl 1001 0 999999) (.cl 1002 0 999999)) (.f 71 (tR Q16 (.c 5)) (tR Q26 (.c 5)) (.cl 1001 0 999999)) (.c 0)) (.br (.nt (.cl 1003 0 1)) (.leaf [(.c 0)]) (.loop ⟨1004, [some (0, 4611686018427387904)], [(.c 0)], 1008⟩ (.br (tk Q27 (.v 1)) (.br (tk Q27 (.v 2)) (.br (.nt (tR (.v 10) Q27)) (.new 1006 (t3 (tR (tR Q16 (.c 1)) Q27)) (.new 1007 (t3 (tR (tR Q26 (.c 1)) Q27)) (.br (tn (.cl 1006 (-2147483648) 2147483647) (.cl 1007 (-2147483648) 2147483647)) (.exit 0) (.br Q29 (.back [Q28]) (.bad 303))))) (.br Q29 (.back [Q28]) (.bad 303))) (.bad 200)) (.exit 1)) (.br
 (te (.v 1008) (.c 0)) (.leaf [(.c 0)]) (.leaf [(.c 1)])))))))))) (.bad 200)) (.bad 200)) (.bad 200)) (.bad 200)) (.bad 200)))) (.bad 200)) (.bad 200)) (.bad 200)) (.bad 200)) (.bad 200)) (.bad 200)) (.bad 200)) (.bad 200)) (.bad 200)) (.bad 200))) (.leaf [(.c 1)])) (.leaf [(.c 1)])) (.leaf [(.c 1)])) (.leaf [(.c 1)]))

noncomputable def sq0 (i a b h j k c p g : Int) : Int := (runP (decW i a) a (kZ b (kZ h (kZ (nuP (likZ j b (kZ k (kZ c (kZ p (kZ g 0)))))) 0))))
noncomputable def sq1 (i a b h j k c o f : Int) : Int := (runP (decW i a) a (kZ b (kZ h (kZ (nuP (likZ j b (kZ k (kZ c (kZ o (kZ f 0)))))) 0))))
def P (a b c d e f g h i j k l n o p q r s t u v w : Int) : Prop :=
 (Pb (PL a 200) (Pb (PL b 2100) (Pb (PL c 2100) (Pb (PL d 300) (Pb (Pe (PL e 300) 0) Pt (Pm (PL a 1000000) (Pm (PL b 1000000) (Pm (PL c 1000000) (Pm (PL d 1000000) (Pm (PL e 1000000) (Pm (PL a q) (Pm (PL b r) (Pm (PL c s) (Pm (PL d t) (Pm (PL e u) (Pn (iteZ (Pd (chkZ a b (kZ c (kZ d (kZ e (kZ l (kZ n 0)))))) 0) (chkZ a b (kZ c (kZ d (kZ e (kZ l (kZ n 0)))))) (fwhZ i a (kZ b (kZ k (kZ l (kZ d 0)))))) 0 12 fun y0 => (Pb (Pd y0 0) Pt (Pm (PL f v) (Pm (PL b 2048) (Pm (PL a 16384) (Pm (PL g w) (Pm (okC (decW i a) a) (Pb (Pd (W6 (rdZ (sq1 i a b h j k c o f) 7)) (W6 (rdZ (sq0 i a b h j k c p g) 7))) Pf (Pb (Pd (W6 (rdZ (sq1 i a b h j k c o f) 3)) (W6 (rdZ (sq0 i a b h j k c p g) 3))) Pf (Pb (Pd (W6 (rdZ (sq1 i a b h j k c o f) 2)) (W6 (rdZ (sq0 i a b h j k c p g) 2))) Pf (Pn (mkN (sq1 i a b h j
 k c o f)) 0 999999 fun y1 => Pn (mkN (sq0 i a b h j k c p g)) 0 999999 fun y2 => Pn (iteZ (Pe y1 y2) (sameM (rdZ (sq1 i a b h j k c o f) 5) (rdZ (sq0 i a b h j k c p g) 5) y1) 0) 0 1 fun y3 => (Pb (Pe y3 0) Pf (∃ I1004 : Int → Nat → Prop, (∃ m, I1004 0 m) ∧ ∀ y4 : Int, ∀ m4, ((0 ≤ y4 ∧ y4 ≤ 4611686018427387904) ∧ True) → I1004 y4 m4 → (Pb (Pl y4 b) (Pm (Pl y4 c) (Pb (Pe (rdZ k y4) 0) (Pn (W3 (rdZ (rdZ (sq1 i a b h j k c o f) 1) y4)) (-2147483648) 2147483647 fun y6 => Pn (W3 (rdZ (rdZ (sq0 i a b h j k c p g) 1) y4)) (-2147483648) 2147483647 fun y7 => (Pb (Pd y6 y7) (Pb (Pe (0 : Int) 0) Pf Pt) (Pm (PL (y4 + 1) 4611686018427387904) (∃ m', m' < m4 ∧ I1004 (y4 + 1) m')))) (Pm (PL (y4 + 1) 4611686018427387904) (∃ m', m' < m4 ∧ I1004 (y4 + 1) m')))) (Pb (Pe (1 : Int) 0) Pf
 Pt)))))))))))))))))))))))))) Pt) Pt) Pt) Pt)

set_option maxHeartbeats 4000000 in
theorem holds (n0_0 n0_1 n0_2 n0_3 n0_4 n1 n2 p3 c0_0 c0_1 c0_2 c0_3 c0_4 c1 c2 r0_0 r0_1 r0_2 r0_3 r0_4 r1 r2 : Int) (l_n0_0 : 0 ≤ n0_0) (u_n0_0 : n0_0 ≤ 140737488355328) (l_n0_1 : 0 ≤ n0_1) (u_n0_1 : n0_1 ≤ 140737488355328) (l_n0_2 : 0 ≤ n0_2) (u_n0_2 : n0_2 ≤ 140737488355328) (l_n0_3 : 0 ≤ n0_3) (u_n0_3 : n0_3 ≤ 140737488355328) (l_n0_4 : 0 ≤ n0_4) (u_n0_4 : n0_4 ≤ 140737488355328) (l_n1 : 0 ≤ n1) (u_n1 : n1 ≤ 140737488355328) (l_n2 : 0 ≤ n2) (u_n2 : n2 ≤ 140737488355328) (l_p3 : 0 ≤ p3) (u_p3 : p3 ≤ 255) (h_n0_0 : n0_0 ≤ r0_0) (h_n0_1 : n0_1 ≤ r0_1) (h_n0_2 : n0_2 ≤ r0_2) (h_n0_3 : n0_3 ≤ r0_3) (h_n0_4 : n0_4 ≤ r0_4) (h_n1 : n1 ≤ r1) (h_n2 : n2 ≤ r2) : P n0_0 n0_1 n0_2 n0_3 n0_4 n1 n2 p3 c0_0 c0_1 c0_2 c0_3 c0_4 c1 c2 r0_0 r0_1 r0_2 r0_3 r0_4 r1 r2 := by
  delta P sq0 sq1 Pb Pm Pn Pf Pt PL Pl Pe Pd W6 W3 kZ
  simp only [nrm, nro, Int.reduceEq, Int.reduceNeg, reduceIte]
  simp only [chk_ev]
  have s1 : ¬ (1 : Int) = 0 := by decide
  simp only [s1, not_false_eq_true, implies_true, true_and, and_true]
  intro g1 g2 g3 g4 g5
  refine ⟨by omega, by omega, by omega, by omega, by omega, h_n0_0, h_n0_1, h_n0_2, h_n0_3, h_n0_4, ?_⟩
  rintro x hx - hx0
  have hC : chk7 n0_0 n0_1 n0_2 n0_3 n0_4 c0_3 c0_4 = 0 := Classical.byContradiction fun g => g (by rw [if_pos g] at hx; rw [← hx]; exact hx0)
  have hF : fwhZ c0_0 n0_0 (qQq n0_1 (qQq c0_2 (qQq c0_3 (qQq n0_3 0)))) = 0 := by rw [if_neg (fun g => g hC)] at hx; rw [← hx]; exact hx0
  obtain ⟨k1, k2, k3, k4, k5, k6, k7, k8⟩ := chk_zero hC
  obtain ⟨ho, hn⟩ := taken_ok l_n0_0 hF
  generalize hLA : likZ c0_1 n0_1 (qQq c0_2 (qQq n0_2 (qQq c1 (qQq n1 0)))) = LA
  generalize hLB : likZ c0_1 n0_1 (qQq c0_2 (qQq n0_2 (qQq c2 (qQq n2 0)))) = LB
  have hA : ∀ j : Int, 0 ≤ j → j < n0_1 → rdZ c0_2 j = 0 → IntKind.wrap .i32 (rdZ LA j) = IntKind.wrap .i32 (rdZ c0_1 j) := fun j j0 j1 e => by rw [← hLA]; exact lik_open j0 j1 e
  have hB : ∀ j : Int, 0 ≤ j → j < n0_1 → rdZ c0_2 j = 0 → IntKind.wrap .i32 (rdZ LB j) = IntKind.wrap .i32 (rdZ c0_1 j) := fun j j0 j1 e => by rw [← hLB]; exact lik_open j0 j1 e
  have hok : okC (decW c0_0 n0_0) n0_0 ≠ 0 := by
    have := okC_dec c0_0 n0_0.toNat
    rwa [show ((n0_0.toNat : Nat) : Int) = n0_0 by omega] at this
  generalize hRA : runP (decW c0_0 n0_0) n0_0 (qQq n0_1 (qQq p3 (qQq (nuP LA) 0))) = RA
  generalize hRB : runP (decW c0_0 n0_0) n0_0 (qQq n0_1 (qQq p3 (qQq (nuP LB) 0))) = RB
  obtain ⟨q5, qn, q3, q2, q1, q7⟩ := quiet_runs l_n0_0 k1 ho (M := LA) (N := LB) (fun j j0 j1 e => (hB j j0 j1 e).trans (hA j j0 j1 e).symm) hRA.symm hRB.symm
  refine ⟨h_n1, k2, k1, h_n2, hok, ?_⟩
  rw [q7, q3, q2, qn, q5]
  refine ⟨fun g => g rfl, fun _ => ⟨fun g => g rfl, fun _ => ⟨fun g => g rfl, fun _ => ?_⟩⟩⟩
  rintro a rfl - b hb - c hc -
  subst hb
  rw [if_pos rfl, sameM_refl] at hc
  subst hc
  refine ⟨fun g => absurd g (by decide), fun _ => ?_⟩
  refine ⟨fun i m => 0 ≤ i ∧ m = (n0_1 - i).toNat, ⟨_, by decide, rfl⟩, ?_⟩
  rintro i m - ⟨i0, rfl⟩ hi
  refine ⟨by omega, fun hz => ?_, fun _ => ⟨by omega, _, by omega, by omega, rfl⟩⟩
  have e := q1 i i0 hi hz
  rintro u rfl - v rfl -
  exact ⟨fun g => g e.symm, fun _ => ⟨by omega, _, by omega, by omega, rfl⟩⟩

theorem plain (i v ro p) : statR 2 rc tree ⟨i, fN, v, ro, p⟩ = P (i 0) (i 1) (i 2) (i 3) (i 4) (i 5) (i 6) (i 7) (i 8) (i 9) (i 10) (i 11) (i 12) (i 13) (i 14) (i 15) (i 16) (i 17) (i 18) (i 19) (i 20) (i 21) := by kernel_rfl
theorem ran : ranR us (fun _ _ => .auto) rc 2 tree = true := by kernel_rfl
theorem fineT : fineR 2 rc tree = true := by kernel_rfl
theorem ok : RcOk (cxOf 2) rc := okR us_ok ran fineT okb fun i v ro p hρ hcap hpre => by rw [plain]; have q := hρ.hi; exact holds _ _ _ _ _ _ _ _ _ _ _ _ _ _ _ _ _ _ _ _ _ _ (q 0 _ rfl).1 (q 0 _ rfl).2 (q 1 _ rfl).1 (q 1 _ rfl).2 (q 2 _ rfl).1 (q 2 _ rfl).2 (q 3 _ rfl).1 (q 3 _ rfl).2 (q 4 _ rfl).1 (q 4 _ rfl).2 (q 5 _ rfl).1 (q 5 _ rfl).2 (q 6 _ rfl).1 (q 6 _ rfl).2 (q 7 _ rfl).1 (q 7 _ rfl).2 (hcap _ (mg 0 rfl)) (hcap _ (mg 1 rfl)) (hcap _ (mg 2 rfl)) (hcap _ (mg 3 rfl)) (hcap _ (mg 4 rfl)) (hcap _ (mg 5 rfl)) (hcap _ (mg 6 rfl))
theorem laidMet_tail {P : Program} {x : String × DataW Unit} {rest : List (String × DataW Unit)} {W : World} (h : laidMet P (x :: rest) W) : laidMet P rest W := by
  obtain ⟨ps, hl, hn, hf⟩ := h
  obtain ⟨n, d⟩ := x
  obtain ⟨g, t, cs, fuel, p, q, _, _, _, _, hq, rfl⟩ := hl
  exact ⟨q, hq, (List.nodup_append.1 hn).2.1, fun b off hm => hf b off (List.mem_append_right _ hm)⟩
theorem listE_LZ (P : Program) (l : List Int) (ro : List RO) : ∀ zs : List Int, (qQg (zs.map E.c)).ev (envR P l ro) = LZ zs
  | [] => rfl
  | z :: zs => by
    have h : (qQg ((z :: zs).map E.c)).ev (envR P l ro) = qQq z ((qQg (zs.map E.c)).ev (envR P l ro)) := rfl
    rw [h, listE_LZ P l ro zs]
    unfold qQq
    rw [ZL_LZ]
def tab0 : List Int := [1, 1, 1, 1, 1, 1, 1, 1, 1, 1, 1, 1, 1, 1, 1, 1, 1, 3, 3, 3, 3, 2, 2, 1, 1, 1, 1, 1, 1, 1, 1, 1, 1, 2, 2, 1, 1, 1, 3, 3, 3, 1, 1]
theorem tabG0 : Tryz.prog.globalNamed "astrolabe/ops.costs" = some 0 := by kernel_rfl
theorem tabW0 : ∀ z ∈ tab0, IntKind.wrap .i64 z = z := fun z hz => by
  have h := List.all_eq_true.1 (show tab0.all (fun z => decide (IntKind.wrap .i64 z = z)) = true by kernel_rfl) z hz
  simpa using h
theorem tabIs0 {W : World} (h : laidMetH Tryz.prog Rows.flowSoundRow.laid W) : Lib.TabIs Tryz.prog W "astrolabe/ops.costs" .i64 tab0 := by
  rw [MakeChecks.laidMetH_plain _ _ _ (by kernel_rfl)] at h
  exact Lib.tabIs_of_head tabG0 (t := 152) (e := 3) (n := 43) (by kernel_rfl) (by kernel_rfl) (by kernel_rfl) (by kernel_rfl) (by kernel_rfl) h

theorem walk (w : World) (a0_0 : RO) (k0_0 : a0_0.cks = [.int .u32]) (n0_0 : a0_0.a = none → a0_0.n = 0) (m0_0 : a0_0.n ≤ a0_0.cap) (t0_0 : RoAt w a0_0) (b0_0 : (a0_0.n : Int) ≤ 140737488355328) (a0_1 : RO) (k0_1 : a0_1.cks = [.int .i32]) (n0_1 : a0_1.a = none → a0_1.n = 0) (m0_1 : a0_1.n ≤ a0_1.cap) (t0_1 : RoAt w a0_1) (b0_1 : (a0_1.n : Int) ≤ 140737488355328) (a0_2 : RO) (k0_2 : a0_2.cks = [.bool]) (n0_2 : a0_2.a = none → a0_2.n = 0) (m0_2 : a0_2.n ≤ a0_2.cap) (t0_2 : RoAt w a0_2) (b0_2 : (a0_2.n : Int) ≤ 140737488355328) (a0_3 : RO) (k0_3 : a0_3.cks = [.int .i64]) (n0_3 : a0_3.a = none → a0_3.n = 0) (m0_3 : a0_3.n ≤ a0_3.cap) (t0_3 : RoAt w a0_3) (b0_3 : (a0_3.n : Int) ≤ 140737488355328) (a0_4 : RO) (k0_4 : a0_4.cks = [.int .i64]) (n0_4 : a0_4.a = none → a0_4.n = 0) (m0_4 : a0_4.n ≤ a0_4.cap) (t0_4 : RoAt w a0_4) (b0_4 : (a0_4.n : Int) ≤ 140737488355328) (a1 : RO) (k1 : a1.cks = [.int .i32]) (n1 : a1.a = none → a1.n = 0) (m1 : a1.n ≤ a1.cap) (t1 : RoAt w a1) (b1 : (a1.n : Int) ≤ 140737488355328) (a2 : RO) (k2 : a2.cks = [.int .i32]) (n2 : a2.a = none → a2.n = 0) (m2 : a2.n ≤ a2.cap) (t2 : RoAt w a2) (b2 : (a2.n : Int) ≤ 140737488355328) (a3 : Int) (w3 : (Lit.int .u8 a3).wf = true) (tb0 : Lib.TabIs Tryz.prog w "astrolabe/ops.costs" .i64 tab0) :
    Calls Tryz.prog 3 #[.agg #[.slice a0_0.a a0_0.n a0_0.cap, .slice a0_1.a a0_1.n a0_1.cap, .slice a0_2.a a0_2.n a0_2.cap, .slice a0_3.a a0_3.n a0_3.cap, .slice a0_4.a a0_4.n a0_4.cap], .slice a1.a a1.n a1.cap, .slice a2.a a2.n a2.cap, .int .u8 a3] w fun e w' => e = .returned (.bool true) ∧ Below w.heap.size w w' := by
  refine law_of (cx := cxOf 2) ok ⟨rfl, rfl, rfl⟩ (ρ := envR Tryz.prog [(a0_0.n : Int), (a0_1.n : Int), (a0_2.n : Int), (a0_3.n : Int), (a0_4.n : Int), (a1.n : Int), (a2.n : Int), a3, a0_0.c, a0_1.c, a0_2.c, a0_3.c, a0_4.c, a1.c, a2.c, (a0_0.cap : Int), (a0_1.cap : Int), (a0_2.cap : Int), (a0_3.cap : Int), (a0_4.cap : Int), (a1.cap : Int), (a2.cap : Int)] [a0_0, a0_1, a0_2, a0_3, a0_4, a1, a2, tabRo 0 .i64 tab0]) (envR_ok (cx := rc.cx (cxOf 2)) rfl rfl (qKk ⟨Int.natCast_nonneg _, b0_0⟩ (qKk ⟨Int.natCast_nonneg _, b0_1⟩ (qKk ⟨Int.natCast_nonneg _, b0_2⟩ (qKk ⟨Int.natCast_nonneg _, b0_3⟩ (qKk ⟨Int.natCast_nonneg _, b0_4⟩ (qKk ⟨Int.natCast_nonneg _, b1⟩ (qKk ⟨Int.natCast_nonneg _, b2⟩ (qKk (wf_bd w3) (bnd_nil _))))))))) ⟨⟨k0_0, rfl, (Int.toNat_natCast _).symm, (Int.toNat_natCast _).symm, n0_0, fun g h => by cases h⟩, ⟨⟨k0_1, rfl, (Int.toNat_natCast _).symm, (Int.toNat_natCast _).symm, n0_1, fun g h => by cases h⟩, ⟨⟨k0_2, rfl, (Int.toNat_natCast _).symm, (Int.toNat_natCast _).symm, n0_2, fun g h => by cases h⟩, ⟨⟨k0_3, rfl, (Int.toNat_natCast _).symm, (Int.toNat_natCast _).symm, n0_3, fun g h => by cases h⟩, ⟨⟨k0_4, rfl, (Int.toNat_natCast _).symm, (Int.toNat_natCast _).symm, n0_4, fun g h => by cases h⟩, ⟨⟨k1, rfl, (Int.toNat_natCast _).symm, (Int.toNat_natCast _).symm, n1, fun g h => by cases h⟩, ⟨⟨k2, rfl, (Int.toNat_natCast _).symm, (Int.toNat_natCast _).symm, n2, fun g h => by cases h⟩, ⟨⟨rfl, (listE_LZ _ _ _ tab0).symm, rfl, rfl, (fun h => by cases h), fun g h => by cases h; rfl⟩, trivial⟩⟩⟩⟩⟩⟩⟩⟩) (fun d hd => by
    simp only [show qXh rc.b rc.c rc.ls 0 0 0 = [⟨[.int .u32], .v 8, .v 0, .v 15, none⟩, ⟨[.int .i32], .v 9, .v 1, .v 16, none⟩, ⟨[.bool], .v 10, .v 2, .v 17, none⟩, ⟨[.int .i64], .v 11, .v 3, .v 18, none⟩, ⟨[.int .i64], .v 12, .v 4, .v 19, none⟩, ⟨[.int .i32], .v 13, .v 5, .v 20, none⟩, ⟨[.int .i32], .v 14, .v 6, .v 21, none⟩] from rfl, List.mem_cons, List.not_mem_nil, or_false] at hd
    rcases hd with rfl | rfl | rfl | rfl | rfl | rfl | rfl
    · exact Int.ofNat_le.2 m0_0
    · exact Int.ofNat_le.2 m0_1
    · exact Int.ofNat_le.2 m0_2
    · exact Int.ofNat_le.2 m0_3
    · exact Int.ofNat_le.2 m0_4
    · exact Int.ofNat_le.2 m1
    · exact Int.ofNat_le.2 m2) (roOk_of ⟨t0_0, ⟨t0_1, ⟨t0_2, ⟨t0_3, ⟨t0_4, ⟨t1, ⟨t2, ⟨tabRo_at tb0 tabG0 tabW0, trivial⟩⟩⟩⟩⟩⟩⟩⟩) ?_
  rw [show rc.args = [.agg [.sl (.inp 0) 1 (.c 0) (.v 0) (some (.v 15)), .sl (.inp 1) 1 (.c 0) (.v 1) (some (.v 16)), .sl (.inp 2) 1 (.c 0) (.v 2) (some (.v 17)), .sl (.inp 3) 1 (.c 0) (.v 3) (some (.v 18)), .sl (.inp 4) 1 (.c 0) (.v 4) (some (.v 19))], .sl (.inp 5) 1 (.c 0) (.v 5) (some (.v 20)), .sl (.inp 6) 1 (.c 0) (.v 6) (some (.v 21)), .int .u8 (.v 7)] from rfl]
  simp only [SV.denL, SV.den, E.ev, map_addr_zero]
  rfl
theorem lifted (os : Os) (started : os.Started) (H : Type) (enc : TypeId × Value → H) :
    ReturnsInHanded {} Tryz.checked os 3 .any (fun w args => (Rows.flowSoundSpec.pre enc Tryz.prog Tryz.f3 Rows.flowSoundRow.domain false w args ∧ laidMetH Tryz.prog Rows.flowSoundRow.laid w) ∧ sizedMet enc Tryz.prog Tryz.f3 (OpenSpec.ofChange Rows.flowSoundSpec) false w args)
      (Rows.flowSoundSpec.post enc Tryz.prog Tryz.f3 false true false false) := by
  refine returnsInHanded_of_change_and (C := Tryz.checked) (X := fun w _ => laidMetH Tryz.prog Rows.flowSoundRow.laid w) (fun _ _ _ hh h => h.of_heap hh) own started (by kernel_rfl) Tryz.func3
    (ChangeSpec.witness_shaped (enc := enc) (C := Tryz.checked) (os := os) (X := fun w _ => laidMetH Tryz.prog Rows.flowSoundRow.laid w) false (World.laidAll Tryz.prog os Rows.flowSoundRow.laid) #[.agg #[.slice none 0 0, .slice none 0 0, .slice none 0 0, .slice none 0 0, .slice none 0 0], .slice none 0 0, .slice none 0 0, .int .u8 0] 8 (World.laidAll_os _ _ _)
      (World.shaped_of_ZipB (by kernel_rfl) (by kernel_rfl)) (by kernel_rfl) (by kernel_rfl) (by kernel_rfl)
      (by rw [MakeChecks.laidMetH_plain _ _ _ (by kernel_rfl)]; exact laidMet_laidAll _ (by kernel_rfl) (by kernel_rfl))) ?_
  intro W base args ds gs before hval0 hW hcnd hw0 hL _
  have hval : ∀ (j : Nat) t v, Tryz.f3.params[j]? = some t → args[j]? = some v → Value.okWide Tryz.prog W .any base t v := hval0
  have hW' := hW
  obtain ⟨p, q, hA0, hV, rfl, hfz, hnd⟩ := hW
  have hA : DataW.TrodAll enc Tryz.prog W 0 (fun _ => true) true Tryz.f3.params.toList args.toList ds p := hA0
  have hw := hw0
  rw [Tryz.params3] at hA hval hw
  obtain ⟨v0, vs0, d0, ds0, p0, q0, hargs, rfl, rfl, h0, r0⟩ := trodAll_cons hA
  have h0k := h0
  obtain ⟨v1, vs1, d1, ds1, p1, q1, rfl, rfl, rfl, h1, r1⟩ := trodAll_cons r0
  have h1k := h1
  obtain ⟨v2, vs2, d2, ds2, p2, q2, rfl, rfl, rfl, h2, r2⟩ := trodAll_cons r1
  have h2k := h2
  obtain ⟨v3, vs3, d3, ds3, p3, q3, rfl, rfl, rfl, h3, r3⟩ := trodAll_cons r2
  have h3k := h3
  obtain ⟨rfl, rfl, rfl⟩ := trodAll_nil r3
  obtain rfl : args = #[v0, v1, v2, v3] := by cases args; simp_all
  obtain ⟨rfl, rfl⟩ := trodVars_none hV
  obtain ⟨ros0, hl0, rfl, hp0⟩ := Go.Eng.open_rows (kss := [[.int .u32], [.int .i32], [.bool], [.int .i64], [.int .i64]]) Tryz.underlying27 (by kernel_rfl) (by kernel_rfl) ⟨⟨⟨_, Tryz.underlying22, (ElT.one Tryz.underlying55 (by kernel_rfl)), of_decide_eq_true (by kernel_rfl), by kernel_rfl⟩, by decide⟩, ⟨⟨_, Tryz.underlying23, (ElT.one Tryz.underlying21 (by kernel_rfl)), of_decide_eq_true (by kernel_rfl), by kernel_rfl⟩, by decide⟩, ⟨⟨_, Tryz.underlying24, (ElT.one Tryz.underlying4 (by kernel_rfl)), of_decide_eq_true (by kernel_rfl), by kernel_rfl⟩, by decide⟩, ⟨⟨_, Tryz.underlying25, (ElT.one Tryz.underlying3 (by kernel_rfl)), of_decide_eq_true (by kernel_rfl), by kernel_rfl⟩, by decide⟩, ⟨⟨_, Tryz.underlying25, (ElT.one Tryz.underlying3 (by kernel_rfl)), of_decide_eq_true (by kernel_rfl), by kernel_rfl⟩, by decide⟩, trivial⟩ (hval 0 27 v0 rfl rfl) h0 (weights_of (gs := []) hw (j := 0) (t := 27) rfl rfl)
  obtain ⟨a0_0, ros0, rfl⟩ := List.exists_cons_of_length_eq_add_one hl0
  have hl0 := Nat.succ.inj hl0
  obtain ⟨a0_1, ros0, rfl⟩ := List.exists_cons_of_length_eq_add_one hl0
  have hl0 := Nat.succ.inj hl0
  obtain ⟨a0_2, ros0, rfl⟩ := List.exists_cons_of_length_eq_add_one hl0
  have hl0 := Nat.succ.inj hl0
  obtain ⟨a0_3, ros0, rfl⟩ := List.exists_cons_of_length_eq_add_one hl0
  have hl0 := Nat.succ.inj hl0
  obtain ⟨a0_4, ros0, rfl⟩ := List.exists_cons_of_length_eq_add_one hl0
  have hl0 := Nat.succ.inj hl0
  obtain rfl := List.eq_nil_of_length_eq_zero hl0
  obtain ⟨k0_0, n0_0, m0_0, t0_0, b0_0, _⟩ := hp0 0 _ _ rfl rfl
  obtain ⟨k0_1, n0_1, m0_1, t0_1, b0_1, _⟩ := hp0 1 _ _ rfl rfl
  obtain ⟨k0_2, n0_2, m0_2, t0_2, b0_2, _⟩ := hp0 2 _ _ rfl rfl
  obtain ⟨k0_3, n0_3, m0_3, t0_3, b0_3, _⟩ := hp0 3 _ _ rfl rfl
  obtain ⟨k0_4, n0_4, m0_4, t0_4, b0_4, _⟩ := hp0 4 _ _ rfl rfl
  obtain ⟨a1, k1, rfl, n1, m1, t1, b1, _⟩ := Go.Eng.open_row (ks := [.int .i32]) Tryz.underlying23 (ElT.one Tryz.underlying21 (by kernel_rfl)) (by decide) (of_decide_eq_true (by kernel_rfl)) (by kernel_rfl) (hval 1 23 v1 rfl rfl) h1 (weights_of (gs := []) hw (j := 1) (t := 23) rfl rfl)
  obtain ⟨a2, k2, rfl, n2, m2, t2, b2, _⟩ := Go.Eng.open_row (ks := [.int .i32]) Tryz.underlying23 (ElT.one Tryz.underlying21 (by kernel_rfl)) (by decide) (of_decide_eq_true (by kernel_rfl)) (by kernel_rfl) (hval 2 23 v2 rfl rfl) h2 (weights_of (gs := []) hw (j := 2) (t := 23) rfl rfl)
  obtain ⟨a3, rfl, rfl, rfl, w3⟩ := open_int Tryz.underlying5 (hval 3 5 v3 rfl rfl) h3
  clear hA0 hval0
  refine (walk W a0_0 k0_0 n0_0 m0_0 t0_0 b0_0 a0_1 k0_1 n0_1 m0_1 t0_1 b0_1 a0_2 k0_2 n0_2 m0_2 t0_2 b0_2 a0_3 k0_3 n0_3 m0_3 t0_3 b0_3 a0_4 k0_4 n0_4 m0_4 t0_4 b0_4 a1 k1 n1 m1 t1 b1 a2 k2 n2 m2 t2 b2 a3 w3 (tabIs0 hL)).mono fun e W' ⟨he, hg⟩ => ?_
  subst he
  have hin0 : ∀ x ∈ p0, x ∈ p0 ++ (p1 ++ (p2 ++ ([] ++ []))) ++ [] := fun x hx => by simp [hx]
  have hlt0 : ∀ x ∈ p0, x.block < W.heap.size := fun x hx => by simpa using hW'.lt x (by simp [hx])
  have hin1 : ∀ x ∈ p1, x ∈ p0 ++ (p1 ++ (p2 ++ ([] ++ []))) ++ [] := fun x hx => by simp [hx]
  have hlt1 : ∀ x ∈ p1, x.block < W.heap.size := fun x hx => by simpa using hW'.lt x (by simp [hx])
  have hin2 : ∀ x ∈ p2, x ∈ p0 ++ (p1 ++ (p2 ++ ([] ++ []))) ++ [] := fun x hx => by simp [hx]
  have hlt2 : ∀ x ∈ p2, x.block < W.heap.size := fun x hx => by simpa using hW'.lt x (by simp [hx])
  exact ⟨_, rfl, post_below (pa := _) (pv := []) hW' hg (fun _ _ _ => (trodAll_cons_mk (shut_bool Tryz.underlying4 _) trodAll_mk0)) (fun sp hsp => (trodAll_cons_mk (WideElems.Trod_stays laidOut (by kernel_rfl) (of_decide_eq_true (by kernel_rfl)) h0k (fun x hx => hg.same (hlt0 x hx)) (fun x hx => hsp x (hin0 x hx))) (trodAll_cons_mk (WideElems.Trod_stays laidOut (by kernel_rfl) (of_decide_eq_true (by kernel_rfl)) h1k (fun x hx => hg.same (hlt1 x hx)) (fun x hx => hsp x (hin1 x hx))) (trodAll_cons_mk (WideElems.Trod_stays laidOut (by kernel_rfl) (of_decide_eq_true (by kernel_rfl)) h2k (fun x hx => hg.same (hlt2 x hx)) (fun x hx => hsp x (hin2 x hx))) (trodAll_cons_mk (shut_int Tryz.underlying5 w3) trodAll_mk0))))) (fun _ _ => rfl) (by simp)
    (ok_one (by kernel_rfl) rfl (okWide_bool_mk Tryz.underlying4 _))⟩

theorem over : Rows.flowSoundRow.holds Tryz.pinned (OpenSpec.ofChange Rows.flowSoundSpec) :=
  OpenClaim.holds_of_wide 3 Tryz.f3 rfl rfl rfl rfl rfl rfl rfl ⟨rfl, rfl, rfl, rfl, rfl⟩ rfl rfl rfl rfl rfl (by kernel_rfl) Tryz.func3 (by kernel_rfl)
    (of_decide_eq_true (by kernel_rfl)) (by unfold Func.isWrapper; first | (rw [if_pos (by decide +kernel)]; kernel_rfl) | (rw [if_neg (by decide +kernel)]; exact ⟨rfl, rfl⟩))
    (fun os started H enc _ => lifted os started H enc)

/-- the statement -/
theorem proved : Rows.FlowSoundCardSaid :=
  Claim7.holds_tied_plain_at .later [] [.data] true (true, "4d07fcd5c1e205141eb59cbe520efb30f802cbd955c6a3830ce1fa2f5fa2ff17") true
    over (fun _ h => by cases h) (by kernel_rfl) (fun _ h => by cases h) flowSound_row_tie rfl ⟨rfl, rfl⟩ (by kernel_rfl) rfl
    (fun f fn hf hfn => by
      obtain rfl : f = 3 := Option.some.inj ((show Tryz.prog.funcNamed "astrolabe/astrolabelaw24.FlowSound" = some 3 by kernel_rfl).symm.trans hf) |>.symm
      obtain rfl : fn = Tryz.f3 := (Option.some.inj (Tryz.func3.symm.trans hfn)).symm
      exact ⟨by kernel_rfl, fun j t ht => by
        rw [Tryz.params3] at ht
        have h3 : t = 5 ∨ t = 23 ∨ t = 27 := by
          rcases j with _ | _ | _ | _ | j
          · exact (.inr (.inr (by simpa using ht.symm)))
          · exact (.inr (.inl (by simpa using ht.symm)))
          · exact (.inr (.inl (by simpa using ht.symm)))
          · exact (.inl (by simpa using ht.symm))
          · simp at ht
        rcases h3 with rfl | rfl | rfl
        · exact (show Tryz.prog.wantsStandIn 5 = false by kernel_rfl)
        · exact (show Tryz.prog.wantsStandIn 23 = false by kernel_rfl)
        · exact (show Tryz.prog.wantsStandIn 27 = false by kernel_rfl)⟩)
    (by kernel_rfl)
#print axioms proved
end Go.Proofs.YteimodjkllldlaeGreatDoor.flowSound
