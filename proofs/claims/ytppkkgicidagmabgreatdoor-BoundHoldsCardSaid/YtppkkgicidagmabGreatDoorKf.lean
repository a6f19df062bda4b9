/-
  What functions of the program answer, as numbers of what they are handed: their runs by the engine, the plain statements behind them. No condition.
-/
import Derived.Test.YtppkkgicidagmabGreatDoorKb
import Derived.Test.YtppkkgicidagmabGreatDoorKe
import Derived.Test.YtppkkgicidagmabGreatDoorGab
import Derived.Test.YtppkkgicidagmabGreatDoorGp2
import Derived.Test.YtppkkgicidagmabGreatDoorGp3
set_option linter.unusedVariables false
set_option linter.unusedSimpArgs false
set_option maxRecDepth 100000
namespace Go.Proofs.YtppkkgicidagmabGreatDoor
open Go.Eng Go.RowKit
namespace CCRun0
def rk : Rk := ⟨8, [(-9223372036854775808, 500000), (0, 16384), (0, 2048)], 5, [.ptr 0 0, .int .i64 (.v 0)], [.cells [.ptr 1 0, .sl (.own 2) 6 (.c 0) (.v 1) none, .int .i32 (.c 0), .int .i32 (.c 0), .int .i32 (.c 0), .int .i32 (.c 0), .int .i32 (.c 0), .int .i32 (.c 0), .int .i32 (.c 0), .int .i32 (.c 0), .int .i32 (.c 0), .int .i32 (.c 0), .int .i32 (.c 0), .int .i32 (.c 0), .int .i32 (.c 0), .int .i32 (.c 0), .int .i32 (.c 0), .int .i32 (.c 0), .int .i32 (.c 0), .int .i32 (.c 0), .int .i32 (.c 0), .int .i32 (.c 0), .int .i32 (.c 0), .int .i32 (.c 0), .int .i32 (.c 0), .int .i32 (.c 0), .int .i32 (.c 0), .int .i32 (.c 0), .int .i32 (.c 0), .int .i32 (.c 0), .int .i32 (.c 0), .int .i32 (.c 0), .int .i32 (.c 0), .int .i32 (.c 0), .int .i64 (.c 0), .int .i64 (.c 0), .int .i64 (.c 0), .lit (.slice none 0 0)] 46 none, .cells [.sl (.own 3) 1 (.c 0) (.v 2) none, .bool (.c 1)] 69 none, .arr [.int .i64, .int .i64, .int .i64, .int .i64, .int .i64, .bool] 52 (.v 3) (.v 1), .arr [.int .i32] 21 (.v 4) (.v 2)], [(.f 68 (.v 3) (.v 1) (.c 0))], .int .i64 (.v 1000000), [.cells (([.ptr 1 0, .sl (.own 2) 6 (.c 0) (.v 1) none] : List SV) ++ bk32 (.v 1000001) ++ ([.int .i64 (.v 1000003), .int .i64 (.v 1000004), .int .i64 (.v 1000005), .sl (.own 4) 3 (.c 0) (.v 1000006) none] : List SV)) 46 none, .cells [.sl (.own 3) 1 (.c 0) (.v 2) none, .bool (.c 1)] 69 none, .arr [.int .i64, .int .i64, .int .i64, .int .i64, .int .i64, .bool] 52 (.v 3) (.v 1), .arr [.int .i32] 21 (.v 1000002) (.v 2), .arr [.int .i64, .int .i64, .int .i64] 124 (.v 1000007) (.v 1000006)], [.num (.w .i64 (.f 13 (.f 73 (.v 3) (.v 1) (qQr [(.v 2), (.v 0), (.f 74 (.v 4) (.c 0) (.c 0))])) (.c 7) (.c 0))), .code [.int .i32] (.f 13 (.f 73 (.v 3) (.v 1) (qQr [(.v 2), (.v 0), (.f 74 (.v 4) (.c 0) (.c 0))])) (.c 0) (.c 0)) (.c 32), .code [.int .i32] (.f 13 (.f 73 (.v 3) (.v 1) (qQr [(.v 2), (.v 0), (.f 74 (.v 4) (.c 0) (.c 0))])) (.c 1) (.c 0)) (.v 2), .num (.w .i64 (.f 13 (.f 73 (.v 3) (.v 1) (qQr [(.v 2), (.v 0), (.f 74 (.v 4) (.c 0) (.c 0))])) (.c 2) (.c 0))), .num (.w .i64 (.f 13 (.f 73 (.v 3) (.v 1) (qQr [(.v 2), (.v 0), (.f 74 (.v 4) (.c 0) (.c 0))])) (.c 3) (.c 0))), .num (.w .i64 (.f 13 (.f 73 (.v 3) (.v 1) (qQr [(.v 2), (.v 0), (.f 74 (.v 4) (.c 0) (.c 0))])) (.c 4) (.c 0))), .num (.f 75 (.f 73 (.v 3) (.v 1) (qQr [(.v 2), (.v 0), (.f 74 (.v 4) (.c 0) (.c 0))])) (.c 0) (.c 0)), .code [.int .i64, .int .i64, .int .i64] (.f 13 (.f 73 (.v 3) (.v 1) (qQr [(.v 2), (.v 0), (.f 74 (.v 4) (.c 0) (.c 0))])) (.c 5) (.c 0)) (.f 75 (.f 73 (.v 3) (.v 1) (qQr [(.v 2), (.v 0), (.f 74 (.v 4) (.c 0) (.c 0))])) (.c 0) (.c 0))], []⟩
theorem okk : rk.ok = true := by kernel_rfl
theorem okh : rk.rh.ok = true := by kernel_rfl
noncomputable def us : SMs := fun Γ ins n => smH (cxG n Γ ins) [CCStep.rk.rh] (smR (cxG n Γ ins) [])
theorem us_ok : SMsOk us := fun Γ ins n => smH_ok (tabsG n Γ ins) (rhs_cons CCStep.okh (rh_n CCStep.ok) (qKh _)) (smR_ok (tabsG n Γ ins) (qKi _))
def Q0 : E := (.cl 1000 0 4611686018427387904)
def Q1 : E := (.cl 1006 0 1000000)
def Q2 : E := (.cl 1003 (-9223372036854775808) 9223372036854775807)
def Q3 : E := (tp Q0 (.c 1))
def Q4 : E := (.cl 1002 (-9223372036854775808) 9223372036854775807)
def Q5 : E := (.cl 1004 (-9223372036854775808) 9223372036854775807)
def Q6 : E := (tC Q1 (.c 0))
def Q7 : E := (tC (.v 1005) Q6)
def Q8 : E := (tC Q5 Q7)
def Q9 : E := (tC Q2 Q8)
def Q10 : E := (tC Q4 Q9)
def Q11 : E := (tC (.v 2) Q10)
def Q12 : E := (tC (.v 1007) Q11)
def Q13 : E := (tC (.v 1001) Q12)
def Q14 : E := (.f 69 (.v 3) (.v 1) Q13)
def Q15 : E := (tR Q14 (.c 6))
def Q16 : E := (t6 Q15)
def Q17 : E := (tR Q14 (.c 0))
def Q18 : E := (tR Q14 (.c 2))
def Q19 : E := (t6 Q18)
def Q20 : E := (tR Q14 (.c 3))
def Q21 : E := (t6 Q20)
def Q22 : E := (tR Q14 (.c 4))
def Q23 : E := (t6 Q22)
def Q24 : E := (tR Q14 (.c 5))
def Q25 : E := (tR Q14 (.c 1))
def tree : TT (List E) :=
 (.loop ⟨1000, [some (0, 4611686018427387904), none, some (-9223372036854775808, 9223372036854775807), some (-9223372036854775808, 9223372036854775807), some (-9223372036854775808, 9223372036854775807), none, some (0, 1000000), none], [(.c 0), (tC (.c 0) (tC (.c 0) (tC (.c 0) (tC (.c 0) (tC (.c 0) (tC (.c 0) (tC (.c 0) (tC (.c 0) (tC (.c 0) (tC (.c 0) (tC (.c 0) (tC (.c 0) (tC (.c 0) (tC (.c 0) (tC (.c 0) (tC (.c 0) (tC (.c 0) (tC (.c 0) (tC (.c 0) (tC (.c 0) (tC (.c 0) (tC (.c 0) (tC (.c 0) (tC (.c 0) (tC (.c 0) (tC (.c 0) (tC (.c 0) (tC (.c 0) (tC (.c 0) (tC (.c 0) (tC (.c 0) (tC (.c 0) (.c 0))))))))))))))))))))))))))))))))), (.c 0), (.c 0), (.c 0), (.c 0), (.c 0), (.v 4)], 1009⟩ (.br (tk Q0 (.v 0)) (.br (tl Q1 (.c 999999)) (.br (.f 68 (.v 3) (.v 1) (.c 0)) (.br (te Q2 (.c 0)) (.br (tl
 Q3 (.c 4611686018427387904)) (.br (tl (.c 0) Q16) (.br (tl Q16 (.c 1000000)) (.back [Q3, Q17, Q19, Q21, Q23, Q24, Q16, Q25]) (.bad 303)) (.bad 303)) (.bad 303)) (.exit 0)) (.bad 200)) (.bad 200)) (.exit 1)) (.br (te (.v 1009) (.c 0)) (.leaf [Q0, Q17, Q25, Q19, Q21, Q23, Q16, Q24]) (.leaf [Q0, (.v 1001), (.v 1007), Q4, Q2, Q5, Q1, (.v 1005)])))
noncomputable def sq0 (d b y1 y7 c y2 y3 y4 y5 y6 : Int) : Int := (stepZ d b (kZ y1 (kZ y7 (kZ c (kZ y2 (kZ y3 (kZ y4 (kZ y5 (kZ y6 0)))))))))
def sL0 (y0 d b c a e z2 z5 z8 z10 z12 z14 z16 : Int) : Prop := (y0 : Int) = (W6 (rdZ (runP d b (kZ c (kZ a (kZ (nuP e) 0)))) 7)) ∧ qZz [.int .i32] z2 (rdZ (runP d b (kZ c (kZ a (kZ (nuP e) 0)))) 0) 32 ∧ qZz [.int .i32] z5 (rdZ (runP d b (kZ c (kZ a (kZ (nuP e) 0)))) 1) c ∧ (z8 : Int) = (W6 (rdZ (runP d b (kZ c (kZ a (kZ (nuP e) 0)))) 2)) ∧ (z10 : Int) = (W6 (rdZ (runP d b (kZ c (kZ a (kZ (nuP e) 0)))) 3)) ∧ (z12 : Int) = (W6 (rdZ (runP d b (kZ c (kZ a (kZ (nuP e) 0)))) 4)) ∧ (z14 : Int) = (mkN (runP d b (kZ c (kZ a (kZ (nuP e) 0))))) ∧ qZz [.int .i64, .int .i64, .int .i64] z16 (rdZ (runP d b (kZ c (kZ a (kZ (nuP e) 0)))) 5) (mkN (runP d b (kZ c (kZ a (kZ (nuP e) 0))))) ∧ True
def P (a b c d e : Int) : Prop :=
 ∃ I1000 : Int → Int → Int → Int → Int → Int → Int → Int → Nat → Prop, (∃ m, I1000 0 z32 0 0 0 0 0 e m) ∧ ∀ y0 y1 y2 y3 y4 y5 y6 y7 : Int, ∀ m0, ((0 ≤ y0 ∧ y0 ≤ 4611686018427387904) ∧ True ∧ ((-9223372036854775808) ≤ y2 ∧ y2 ≤ 9223372036854775807) ∧ ((-9223372036854775808) ≤ y3 ∧ y3 ≤ 9223372036854775807) ∧ ((-9223372036854775808) ≤ y4 ∧ y4 ≤ 9223372036854775807) ∧ True ∧ (0 ≤ y6 ∧ y6 ≤ 1000000) ∧ True ∧ True) → I1000 y0 y1 y2 y3 y4 y5 y6 y7 m0 → (Pb (Pl y0 a) (Pm (PL y6 999999) (Pm (okC d b) (Pb (Pe y3 0) (Pm (PL (y0 + 1) 4611686018427387904) (Pm (PL 0 (W6 (rdZ (sq0 d b y1 y7 c y2 y3 y4 y5 y6) 6))) (Pm (PL (W6 (rdZ (sq0 d b y1 y7 c y2 y3 y4 y5 y6) 6)) 1000000) (∃ m', m' < m0 ∧ I1000 (y0 + 1) (rdZ (sq0 d b y1 y7 c y2 y3 y4 y5 y6) 0) (W6 (rdZ (sq0 d b y1 y7 c y2 y3 y4 y5 y6) 2)) (W6 (rdZ
 (sq0 d b y1 y7 c y2 y3 y4 y5 y6) 3)) (W6 (rdZ (sq0 d b y1 y7 c y2 y3 y4 y5 y6) 4)) (rdZ (sq0 d b y1 y7 c y2 y3 y4 y5 y6) 5) (W6 (rdZ (sq0 d b y1 y7 c y2 y3 y4 y5 y6) 6)) (rdZ (sq0 d b y1 y7 c y2 y3 y4 y5 y6) 1) m')))) (Pb (Pe (0 : Int) 0) (sL0 y0 d b c a e (rdZ (sq0 d b y1 y7 c y2 y3 y4 y5 y6) 0) (rdZ (sq0 d b y1 y7 c y2 y3 y4 y5 y6) 1) (W6 (rdZ (sq0 d b y1 y7 c y2 y3 y4 y5 y6) 2)) (W6 (rdZ (sq0 d b y1 y7 c y2 y3 y4 y5 y6) 3)) (W6 (rdZ (sq0 d b y1 y7 c y2 y3 y4 y5 y6) 4)) (W6 (rdZ (sq0 d b y1 y7 c y2 y3 y4 y5 y6) 6)) (rdZ (sq0 d b y1 y7 c y2 y3 y4 y5 y6) 5)) (sL0 y0 d b c a e y1 y7 y2 y3 y4 y6 y5))))) (Pb (Pe (1 : Int) 0) (sL0 y0 d b c a e (rdZ (sq0 d b y1 y7 c y2 y3 y4 y5 y6) 0) (rdZ (sq0 d b y1 y7 c y2 y3 y4 y5 y6) 1) (W6 (rdZ (sq0 d b y1 y7 c y2 y3 y4 y5 y6) 2)) (W6 (rdZ (sq0 d b y1
 y7 c y2 y3 y4 y5 y6) 3)) (W6 (rdZ (sq0 d b y1 y7 c y2 y3 y4 y5 y6) 4)) (W6 (rdZ (sq0 d b y1 y7 c y2 y3 y4 y5 y6) 6)) (rdZ (sq0 d b y1 y7 c y2 y3 y4 y5 y6) 5)) (sL0 y0 d b c a e y1 y7 y2 y3 y4 y6 y5)))
set_option maxHeartbeats 4000000 in
theorem holds (fuel nc nr cq rm : Int) (l_fuel : -9223372036854775808 ≤ fuel) (u_fuel : fuel ≤ 500000) (l_nc : 0 ≤ nc) (u_nc : nc ≤ 16384) (l_nr : 0 ≤ nr) (u_nr : nr ≤ 2048) (h_pre0 : (okC cq nc) ≠ 0) : P fuel nc nr cq rm := by
 delta P sq0 sL0 Pb Pm PL Pl Pe W6 kZ z32
 simp only [nrm, nro, Int.reduceEq, Int.reduceNeg, reduceIte]
 have h0 : Mac.ok (macM (nuP rm)) := macM_ok _
 refine ⟨fun n a p s c q l b m => ∃ j : Nat, n = j ∧ Mac.runs cq nc nr j (macM (nuP rm)) = (⟨a, b, p, s, c, q, l⟩, j) ∧ m = (fuel - n).toNat ∧ (j = 0 ∨ n ≤ fuel), ⟨_, 0, rfl, by rw [macM_nu]; rfl, rfl, .inl rfl⟩, ?_⟩
 intro n a p s c q l b m hb hI
 obtain ⟨j, rfl, hr, rfl, hf⟩ := hI
 have hok := runs_ok h0 cq nc nr j
 rw [hr] at hok
 obtain ⟨⟨g1, g2, g3, g4⟩, g5, g6, g7⟩ := hok
 simp only at g1 g2 g3 g4 g5 g6 g7
 have hm : Mac.ok ⟨a, b, p, s, c, q, l⟩ := ⟨g1, g2, g3, g4⟩
 have hn0 : (macM (nuP rm)).nm ≤ 400000 := by rw [macM_nu]; show (0 : Int) ≤ 400000; omega
 have e := stepZ_code cq nc nr ⟨a, b, p, s, c, q, l⟩
 unfold macZ at e
 simp only at e
 obtain ⟨r0, r1, r2, r3, r4, r5, r6⟩ := code_rd (Mac.step cq nc nr ⟨a, b, p, s, c, q, l⟩)
 obtain ⟨⟨k1, k2, k3, k4⟩, k5, k6⟩ := good_step hm cq nc nr
 simp only at k5 k6
 simp only [e, r0, r1, r2, r3, r4, r5, r6]
 have w1 := w64 k1.1 k1.2
 have w2 := w64 k2.1 k2.2
 have w3 := w64 k3.1 k3.2
 have w4 := w64 (x := (Mac.step cq nc nr ⟨a, b, p, s, c, q, l⟩).nm) (by omega) (by omega)
 simp only [w1, w2, w3, w4]
 refine ⟨fun h1 => ⟨by omega, h_pre0, fun h2 => ⟨by omega, by omega, by omega, _, ?_, j + 1, by omega, ?_, rfl, .inr (by omega)⟩, fun h2 => ?_⟩, fun h1 => ?_⟩
 ·omega
 ·rw [runs_succ, hr]
  simp only
  rw [if_pos h2]
 ·have hs := step_stop (m := ⟨a, b, p, s, c, q, l⟩) h2 cq nc nr
  simp only [hs]
  have hstop := runs_stop (cq := cq) (nc := nc) (nr := nr) (m := macM (nuP rm)) (j := j) (by rw [hr]; exact h2) (fuel.toNat - j)
  rw [show j + (fuel.toNat - j) = fuel.toNat by omega, hr] at hstop
  exact runp_leaf hstop rfl (by omega) g1 g2 g3 (by omega) (by omega)
 ·have hj : fuel.toNat = j := by omega
  rw [← hj] at hr
  exact runp_leaf (k := fuel.toNat) hr (by omega) (by omega) g1 g2 g3 (by omega) (by omega)
theorem plain (i v ro p) : statH 2 rk tree ⟨i, fN, v, ro, p⟩ = P (i 0) (i 1) (i 2) (i 3) (i 4) := by kernel_rfl
theorem ran : ranH us (fun _ _ => .auto) rk 2 tree = true := by kernel_rfl
theorem fineT : fineH 2 rk tree = true := by kernel_rfl
theorem ok : RhOk (cxOf 2) rk.rh := okH us_ok ran fineT (by kernel_rfl) okk fun i v ro p hρ hpre => by rw [plain]; have q := hρ.hi; exact holds _ _ _ _ _ (q 0 _ rfl).1 (q 0 _ rfl).2 (q 1 _ rfl).1 (q 1 _ rfl).2 (q 2 _ rfl).1 (q 2 _ rfl).2 (hpre _ (mg 0 rfl))
end CCRun0
namespace CGNext
def rc : Rc := ⟨50, [none, none], [.row [.int .u32] 1000000, .int .i64], [], .one, [.row [.int .i64] 3 (.f 163 (.v 2) (.v 0) (.v 1)) (.f 162 (.v 2) (.v 0) (.v 1))]⟩
theorem okb : rc.ok = true := by kernel_rfl
noncomputable def us : SMs := fun Γ ins n => smH (cxG n Γ ins) [] (smR (cxG n Γ ins) [CCDec.rc])
theorem us_ok : SMsOk us := fun Γ ins n => smH_ok (tabsG n Γ ins) (qKh _) (smR_ok (tabsG n Γ ins) (qJv CCDec.okb (rc_n CCDec.ok) (qKi _)))
def Q0 : E := (tR (.v 2) (.v 1))
def Q1 : E := (.w .u32 Q0)
def Q2 : E := (.cl 1000 (-32768) 65535)
def Q3 : E := (.cl 1004 (-32768) 65535)
def Q4 : E := (tl (.v 0) Q3)
def Q5 : E := (tC Q3 (.c 0))
def Q6 : E := (tp (.v 1) (.c 1))
def Q7 : E := (t6 Q6)
def Q8 : E := (tl (.v 0) Q7)
def Q9 : E := (.nt Q8)
def Q10 : E := (tC Q7 (.c 0))
def Q11 : E := (tk Q7 Q3)
def Q12 : E := (te Q3 Q7)
def Q13 : E := (tC Q7 Q5)
def Q14 : E := (te Q7 Q3)
def Q15 : E := (tC Q3 Q10)
def tree : TT (List E) :=
 (.br (tk (.v 1) (.c 0)) (.leaf [(.c 0), (.c 0)]) (.br (tl (.v 0) (.v 1)) (.leaf [(.c 0), (.c 0)]) (.br (tl (.c 0) (.v 1)) (.br (tk (.v 1) (.v 0)) (.new 1000 (.f 67 Q1 (.c 0) (.c 0)) (.new 1001 (.f 67 Q1 (.c 1) (.c 0)) (.new 1002 (.f 67 Q1 (.c 2) (.c 0)) (.new 1003 (.f 67 Q1 (.c 3) (.c 0)) (.new 1004 (.f 67 Q1 (.c 4) (.c 0)) (.new 1005 (.f 67 Q1 (.c 5) (.c 0)) (.br (te Q2 (.c 0)) (.leaf [(.c 0), (.c 0)]) (.br (te Q2 (.c 41)) (.leaf [(.c 0), (.c 0)]) (.br (te Q2 (.c 43)) (.leaf [(.c 0), (.c 0)]) (.br (te Q2 (.c 39)) (.br Q4 (.leaf [(.c 0), (.c 0)]) (.leaf [(.c 1), Q5])) (.br (te Q2 (.c 40)) (.br Q4 (.leaf [(.c 0), (.c 0)]) (.leaf [(.c 1), Q5])) (.br (te Q2 (.c 36)) (.br Q4 (.br Q9 (.leaf [(.c 1), Q10]) (.leaf [(.c 0), (.c 0)])) (.br Q8 (.leaf [(.c 1), Q5]) (.br Q11 (.br Q12 (.leaf [(.c 1),
 Q10]) (.leaf [(.c 2), Q13])) (.br Q14 (.leaf [(.c 1), Q5]) (.leaf [(.c 2), Q15]))))) (.br (te Q2 (.c 37)) (.br Q4 (.br Q9 (.leaf [(.c 1), Q10]) (.leaf [(.c 0), (.c 0)])) (.br Q8 (.leaf [(.c 1), Q5]) (.br Q11 (.br Q12 (.leaf [(.c 1), Q10]) (.leaf [(.c 2), Q13])) (.br Q14 (.leaf [(.c 1), Q5]) (.leaf [(.c 2), Q15]))))) (.br (te Q2 (.c 38)) (.br Q4 (.br Q9 (.leaf [(.c 1), Q10]) (.leaf [(.c 0), (.c 0)])) (.br Q8 (.leaf [(.c 1), Q5]) (.br Q11 (.br Q12 (.leaf [(.c 1), Q10]) (.leaf [(.c 2), Q13])) (.br Q14 (.leaf [(.c 1), Q5]) (.leaf [(.c 2), Q15]))))) (.br Q8 (.leaf [(.c 0), (.c 0)]) (.leaf [(.c 1), Q10])))))))))))))))) (.bad 200)) (.bad 200))))
def sq0 (a y4 b c : Int) : Prop := (Pb (PL a y4) (Pb (Pe (PL a (W6 (b + 1))) 0) ((1 : Int) = (nxN c a b) ∧ qZz [.int .i64] (kZ (W6 (b + 1)) 0) (nxZ c a b) 1 ∧ True) ((0 : Int) = (nxN c a b) ∧ qZz [.int .i64] 0 (nxZ c a b) 0 ∧ True)) (Pb (PL a (W6 (b + 1))) ((1 : Int) = (nxN c a b) ∧ qZz [.int .i64] (kZ y4 0) (nxZ c a b) 1 ∧ True) (Pb (Pl (W6 (b + 1)) y4) (Pb (Pe y4 (W6 (b + 1))) ((1 : Int) = (nxN c a b) ∧ qZz [.int .i64] (kZ (W6 (b + 1)) 0) (nxZ c a b) 1 ∧ True) ((2 : Int) = (nxN c a b) ∧ qZz [.int .i64] (kZ (W6 (b + 1)) (kZ y4 0)) (nxZ c a b) 2 ∧ True)) (Pb (Pe (W6 (b + 1)) y4) ((1 : Int) = (nxN c a b) ∧ qZz [.int .i64] (kZ y4 0) (nxZ c a b) 1 ∧ True) ((2 : Int) = (nxN c a b) ∧ qZz [.int .i64] (kZ y4 (kZ (W6 (b + 1)) 0)) (nxZ c a b) 2 ∧ True)))))
def P (a b c d : Int) : Prop :=
 (Pb (Pl b 0) ((0 : Int) = (nxN c a b) ∧ qZz [.int .i64] 0 (nxZ c a b) 0 ∧ True) (Pb (PL a b) ((0 : Int) = (nxN c a b) ∧ qZz [.int .i64] 0 (nxZ c a b) 0 ∧ True) (Pm (PL 0 b) (Pm (Pl b a) (Pn (decZ (U3 (rdZ c b)) 0) (-32768) 65535 fun y0 => Pn (decZ (U3 (rdZ c b)) 1) (-32768) 65535 fun y1 => Pn (decZ (U3 (rdZ c b)) 2) (-32768) 65535 fun y2 => Pn (decZ (U3 (rdZ c b)) 3) (-32768) 65535 fun y3 => Pn (decZ (U3 (rdZ c b)) 4) (-32768) 65535 fun y4 => Pn (decZ (U3 (rdZ c b)) 5) (-32768) 65535 fun y5 => (Pb (Pe y0 0) ((0 : Int) = (nxN c a b) ∧ qZz [.int .i64] 0 (nxZ c a b) 0 ∧ True) (Pb (Pe y0 41) ((0 : Int) = (nxN c a b) ∧ qZz [.int .i64] 0 (nxZ c a b) 0 ∧ True) (Pb (Pe y0 43) ((0 : Int) = (nxN c a b) ∧ qZz [.int .i64] 0 (nxZ c a b) 0 ∧ True) (Pb (Pe y0 39) (Pb (PL a y4) ((0 : Int) =
 (nxN c a b) ∧ qZz [.int .i64] 0 (nxZ c a b) 0 ∧ True) ((1 : Int) = (nxN c a b) ∧ qZz [.int .i64] (kZ y4 0) (nxZ c a b) 1 ∧ True)) (Pb (Pe y0 40) (Pb (PL a y4) ((0 : Int) = (nxN c a b) ∧ qZz [.int .i64] 0 (nxZ c a b) 0 ∧ True) ((1 : Int) = (nxN c a b) ∧ qZz [.int .i64] (kZ y4 0) (nxZ c a b) 1 ∧ True)) (Pb (Pe y0 36) (sq0 a y4 b c) (Pb (Pe y0 37) (sq0 a y4 b c) (Pb (Pe y0 38) (sq0 a y4 b c) (Pb (PL a (W6 (b + 1))) ((0 : Int) = (nxN c a b) ∧ qZz [.int .i64] 0 (nxZ c a b) 0 ∧ True) ((1 : Int) = (nxN c a b) ∧ qZz [.int .i64] (kZ (W6 (b + 1)) 0) (nxZ c a b) 1 ∧ True)))))))))))))))
set_option maxHeartbeats 4000000 in
theorem holds (n0 p1 c0 r0 : Int) (l_n0 : 0 ≤ n0) (u_n0 : n0 ≤ 1000000) (l_p1 : -9223372036854775808 ≤ p1) (u_p1 : p1 ≤ 9223372036854775807) (h_n0 : n0 ≤ r0) : P n0 p1 c0 r0 := by
 delta P sq0 Pb Pm Pn PL Pl Pe W6 U3 kZ
 simp only [nrm, Int.reduceEq, Int.reduceNeg, reduceIte]
 have k0 : nxL c0 n0 p1 = [] → (0 : Int) = nxN c0 n0 p1 ∧ qZz [.int .i64] 0 (nxZ c0 n0 p1) 0 := fun h => nx_say h rfl rfl
 refine ⟨fun h => k0 (nxL_out (.inl h)), fun h1 => ⟨fun h => k0 (nxL_out (.inr h)), fun h2 => ⟨fun _ => ⟨fun _ => ?_, fun h => by omega⟩, fun h => by omega⟩⟩⟩
 intro y0 e0 _ y1 _ _ y2 _ _ y3 _ _ y4 e4 _ y5 _ _
 have ew : IntKind.wrap .i64 (p1 + 1) = p1 + 1 := w64 (by omega) (by omega)
 rw [ew]
 have hL := nxL_in (by omega) h2 e0 e4
 clear e0 e4
 have one : (y0 = 39 ∨ y0 = 40) → (n0 ≤ y4 → (0 : Int) = nxN c0 n0 p1 ∧ qZz [.int .i64] 0 (nxZ c0 n0 p1) 0) ∧ (y4 < n0 → (1 : Int) = nxN c0 n0 p1 ∧ qZz [.int .i64] (qQq y4 0) (nxZ c0 n0 p1) 1) := fun h =>
  ⟨fun g => k0 (by rw [hL, nxC_1 h, if_neg (by omega)]), fun g => nx_say (by rw [hL, nxC_1 h, if_pos g]) rfl (nx_z1 _).symm⟩
 refine ⟨fun h => k0 (by rw [hL, nxC_0 (by omega)]), fun a0 => ⟨fun h => k0 (by rw [hL, nxC_0 (by omega)]), fun a1 => ⟨fun h => k0 (by rw [hL, nxC_0 (by omega)]), fun a2 => ⟨fun h => one (by omega), fun a3 => ⟨fun h => one (by omega), fun a4 => ⟨fun h => nx_two (by rw [hL, nxC_2 (by omega)]), fun a5 => ⟨fun h => nx_two (by rw [hL, nxC_2 (by omega)]), fun a6 => ⟨fun h => nx_two (by rw [hL, nxC_2 (by omega)]), fun a7 => ?_⟩⟩⟩⟩⟩⟩⟩⟩
 have h3 := nxC_3 (y0 := y0) (y4 := y4) (n := n0) (p := p1) (by omega) (by omega) (by omega)
 exact ⟨fun g => k0 (by rw [hL, h3, if_neg (by omega)]), fun g => nx_say (by rw [hL, h3, if_pos g]) rfl (nx_z1 _).symm⟩
theorem plain (i v ro p) : statR 2 rc tree ⟨i, fN, v, ro, p⟩ = P (i 0) (i 1) (i 2) (i 3) := by kernel_rfl
theorem ran : ranR us (fun f _ => if [89, 67, 70, 71, 90, 107].contains f then .unroll 400 else .auto) rc 2 tree = true := by kernel_rfl
theorem fineT : fineR 2 rc tree = true := by kernel_rfl
theorem ok : RcOk (cxOf 2) rc := okR us_ok ran fineT okb fun i v ro p hρ hcap hpre => by rw [plain]; have q := hρ.hi; exact holds _ _ _ _ (q 0 _ rfl).1 (q 0 _ rfl).2 (q 1 _ rfl).1 (q 1 _ rfl).2 (hcap _ (mg 0 rfl))
theorem nextC (n : Nat) (Γ : List (Int × Int)) (ins : List InD) : NextC (cxG n Γ ins) 50 3 := nextC_of (tabsG n Γ ins) (rc_n ok) (fun _ _ _ => rfl) (fun _ _ _ => rfl)
end CGNext
end Go.Proofs.YtppkkgicidagmabGreatDoor
