/-
  What functions of the program answer, as numbers of what they are handed: their runs by the engine, the plain statements behind them. No condition.
-/
import Derived.Test.YtieocjnfjjgjeaaGab
import Derived.Test.YtieocjnfjjgjeaaGp2
import Derived.Test.YtieocjnfjjgjeaaGp1
set_option linter.unusedVariables false
set_option linter.unusedSimpArgs false
set_option maxRecDepth 100000
namespace Go.Proofs.Ytieocjnfjjgjeaa
open Go.Eng Go.RowKit
namespace CRRows17
def rc : Rc := ⟨7, [none], [.row [.int .i64, .int .i64, .int .i64] 1000000], [], .one, [.row [.int .i64, .int .i64, .int .i64, .int .i64] 38 (.f 158 (.v 1) (.v 0) (.c 0)) (.f 157 (.v 1) (.v 0) (.c 0))]⟩
theorem okb : rc.ok = true := by kernel_rfl
def mk7_7 : qZc := [([0, 6], .num (0) (4611686018427387904)), ([0, 18], .wilds 36)]
def mk7_3 : qZc := [([0, 4], .num (0) (4611686018427387904)), ([0, 3], .arr [.int .i64, .int .i64, .int .i64, .int .i64] 38), ([0, 5], .wilds 111)]
noncomputable def us : SMs := fun Γ ins n => smH (cxG n Γ ins) [] (smR (cxG n Γ ins) [])
theorem us_ok : SMsOk us := fun Γ ins n => qJb (tabsG n Γ ins) (qZi _) (qJa (tabsG n Γ ins) (qZn _))
def Q0 : E := (.cl 1002 0 4611686018427387904)
def Q1 : E := (.cl 1004 0 4611686018427387904)
def Q2 : E := (.cl 1001 0 1000000)
def Q3 : E := (tR (.v 1000) Q1)
def Q4 : E := (tR Q3 (.c 0))
def Q5 : E := (t6 Q4)
def Q6 : E := (tR (.v 1) Q0)
def Q7 : E := (tR Q6 (.c 0))
def Q8 : E := (t6 Q7)
def Q9 : E := (tp Q1 (.c 1))
def Q10 : E := (tl Q9 (.c 4611686018427387904))
def Q11 : E := (tR Q3 (.c 1))
def Q12 : E := (t6 Q11)
def Q13 : E := (tR Q6 (.c 1))
def Q14 : E := (t6 Q13)
def Q15 : E := (te Q1 Q2)
def Q16 : E := (tl Q1 Q2)
def Q17 : E := (tl Q1 (.c 1000000))
def Q18 : E := (tl Q9 (.c 1000000))
def Q19 : E := (.b .psub .i64 Q2 Q1)
def Q20 : E := (tl (.c 0) Q19)
def Q21 : E := (tp Q1 Q19)
def Q22 : E := (tl Q21 Q2)
def Q23 : E := (tp Q9 Q19)
def Q24 : E := (tl Q23 (.c 1000000))
def Q25 : E := (tk Q1 Q23)
def Q26 : E := (tl (.c 0) Q23)
def Q27 : E := (tp Q0 (.c 1))
def Q28 : E := (tl Q27 (.c 4611686018427387904))
def Q29 : E := (.f 16 (.c 0) (.c 0) (.v 1000))
def Q30 : E := (tC (.c 0) (.c 0))
def Q31 : E := (tC (.c 0) Q30)
def Q32 : E := (tC Q14 Q31)
def Q33 : E := (tC Q8 Q32)
def Q34 : E := (.f 14 Q29 Q1 Q33)
def Q35 : E := (.f 18 (.v 1000) Q1 (.c 0))
def Q36 : E := (.f 16 Q34 Q9 Q35)
def Q37 : E := (tR Q36 Q1)
def Q38 : E := (tR Q37 (.c 2))
def Q39 : E := (t6 Q38)
def Q40 : E := (tp Q39 (.c 1))
def Q41 : E := (t6 Q40)
def Q42 : E := (.f 14 Q37 (.c 2) Q41)
def Q43 : E := (.f 14 Q36 Q1 Q42)
def Q44 : E := (tR Q37 (.c 3))
def Q45 : E := (t6 Q44)
def Q46 : E := (tR Q6 (.c 2))
def Q47 : E := (t6 Q46)
def Q48 : E := (tp Q45 Q47)
def Q49 : E := (t6 Q48)
def Q50 : E := (.f 14 Q42 (.c 3) Q49)
def Q51 : E := (.f 14 Q43 Q1 Q50)
def Q52 : E := (tn Q5 Q8)
def Q53 : E := (tn Q12 Q14)
def Q54 : E := (tR Q3 (.c 2))
def Q55 : E := (t6 Q54)
def Q56 : E := (tp Q55 (.c 1))
def Q57 : E := (t6 Q56)
def Q58 : E := (.f 14 Q3 (.c 2) Q57)
def Q59 : E := (.f 14 (.v 1000) Q1 Q58)
def Q60 : E := (tR Q3 (.c 3))
def Q61 : E := (t6 Q60)
def Q62 : E := (tp Q61 Q47)
def Q63 : E := (t6 Q62)
def Q64 : E := (.f 14 Q58 (.c 3) Q63)
def Q65 : E := (.f 14 Q59 Q1 Q64)
def tree : TT (List E) :=
 (.loop ⟨1000, [none, some (0, 1000000), some (0, 4611686018427387904)], [(.c 0), (.c 0), (.c 0)], 1007⟩ (.br (tk Q0 (.v 0)) (.loop ⟨1004, [some (0, 4611686018427387904)], [(.c 0)], 1006⟩ (.br (tk Q1 Q2) (.br (tk Q5 Q8) (.br Q10 (.back [Q9]) (.bad 303)) (.br (te Q5 Q8) (.br (tk Q12 Q14) (.br Q10 (.back [Q9]) (.bad 303)) (.exit 0)) (.exit 1))) (.exit 2)) (.br (te (.v 1006) (.c 0)) (.br Q15 (.br Q16 (.br Q17 (.br Q18 (.br Q20 (.br Q22 (.br Q24 (.br Q25 (.br Q26 (.br Q24 (.br Q28 (.back [Q51, Q23, Q27]) (.bad 303)) (.bad 303)) (.bad 303)) (.bad 200)) (.bad 200)) (.bad 200)) (.bad 200)) (.bad 200)) (.bad 200)) (.bad 200)) (.br Q52 (.br Q16 (.br Q17 (.br Q18 (.br Q20 (.br Q22 (.br Q24 (.br Q25 (.br Q26 (.br Q24 (.br Q28 (.back [Q51, Q23, Q27]) (.bad 303)) (.bad 303)) (.bad 303)) (.bad 200))
 (.bad 200)) (.bad 200)) (.bad 200)) (.bad 200)) (.bad 200)) (.bad 200)) (.br Q53 (.br Q16 (.br Q17 (.br Q18 (.br Q20 (.br Q22 (.br Q24 (.br Q25 (.br Q26 (.br Q24 (.br Q28 (.back [Q51, Q23, Q27]) (.bad 303)) (.bad 303)) (.bad 303)) (.bad 200)) (.bad 200)) (.bad 200)) (.bad 200)) (.bad 200)) (.bad 200)) (.bad 200)) (.br Q28 (.back [Q65, Q2, Q27]) (.bad 303))))) (.br (te (.v 1006) (.c 1)) (.br Q15 (.br Q16 (.br Q17 (.br Q18 (.br Q20 (.br Q22 (.br Q24 (.br Q25 (.br Q26 (.br Q24 (.br Q28 (.back [Q51, Q23, Q27]) (.bad 303)) (.bad 303)) (.bad 303)) (.bad 200)) (.bad 200)) (.bad 200)) (.bad 200)) (.bad 200)) (.bad 200)) (.bad 200)) (.br Q52 (.br Q16 (.br Q17 (.br Q18 (.br Q20 (.br Q22 (.br Q24 (.br Q25 (.br Q26 (.br Q24 (.br Q28 (.back [Q51, Q23, Q27]) (.bad 303)) (.bad 303)) (.bad 303)) (.bad
 200)) (.bad 200)) (.bad 200)) (.bad 200)) (.bad 200)) (.bad 200)) (.bad 200)) (.br Q53 (.br Q16 (.br Q17 (.br Q18 (.br Q20 (.br Q22 (.br Q24 (.br Q25 (.br Q26 (.br Q24 (.br Q28 (.back [Q51, Q23, Q27]) (.bad 303)) (.bad 303)) (.bad 303)) (.bad 200)) (.bad 200)) (.bad 200)) (.bad 200)) (.bad 200)) (.bad 200)) (.bad 200)) (.br Q28 (.back [Q65, Q2, Q27]) (.bad 303))))) (.br Q15 (.br Q16 (.br Q17 (.br Q18 (.br Q20 (.br Q22 (.br Q24 (.br Q25 (.br Q26 (.br Q24 (.br Q28 (.back [Q51, Q23, Q27]) (.bad 303)) (.bad 303)) (.bad 303)) (.bad 200)) (.bad 200)) (.bad 200)) (.bad 200)) (.bad 200)) (.bad 200)) (.bad 200)) (.bad 200))))) (.exit 0)) (.leaf [Q2, (.v 1000)]))
noncomputable def sq0 (y0 y4 b y2 : Int) : Int := (updZ (updZ (appZ (updZ (appZ 0 0 y0) y4 (kZ (W6 (rdZ (rdZ b y2) 0)) (kZ (W6 (rdZ (rdZ b y2) 1)) (kZ 0 (kZ 0 0))))) (y4 + 1) (dropZ y0 y4)) y4 (updZ (rdZ (appZ (updZ (appZ 0 0 y0) y4 (kZ (W6 (rdZ (rdZ b y2) 0)) (kZ (W6 (rdZ (rdZ b y2) 1)) (kZ 0 (kZ 0 0))))) (y4 + 1) (dropZ y0 y4)) y4) 2 (W6 ((W6 (rdZ (rdZ (appZ (updZ (appZ 0 0 y0) y4 (kZ (W6 (rdZ (rdZ b y2) 0)) (kZ (W6 (rdZ (rdZ b y2) 1)) (kZ 0 (kZ 0 0))))) (y4 + 1) (dropZ y0 y4)) y4) 2)) + 1)))) y4 (updZ (updZ (rdZ (appZ (updZ (appZ 0 0 y0) y4 (kZ (W6 (rdZ (rdZ b y2) 0)) (kZ (W6 (rdZ (rdZ b y2) 1)) (kZ 0 (kZ 0 0))))) (y4 + 1) (dropZ y0 y4)) y4) 2 (W6 ((W6 (rdZ (rdZ (appZ (updZ (appZ 0 0 y0) y4 (kZ (W6 (rdZ (rdZ b y2) 0)) (kZ (W6 (rdZ (rdZ b y2) 1)) (kZ 0 (kZ 0 0))))) (y4 + 1) (dropZ y0
 y4)) y4) 2)) + 1))) 3 (W6 ((W6 (rdZ (rdZ (appZ (updZ (appZ 0 0 y0) y4 (kZ (W6 (rdZ (rdZ b y2) 0)) (kZ (W6 (rdZ (rdZ b y2) 1)) (kZ 0 (kZ 0 0))))) (y4 + 1) (dropZ y0 y4)) y4) 3)) + (W6 (rdZ (rdZ b y2) 2))))))
noncomputable def sq1 (y0 y4 b y2 : Int) : Int := (updZ (updZ y0 y4 (updZ (rdZ y0 y4) 2 (W6 ((W6 (rdZ (rdZ y0 y4) 2)) + 1)))) y4 (updZ (updZ (rdZ y0 y4) 2 (W6 ((W6 (rdZ (rdZ y0 y4) 2)) + 1))) 3 (W6 ((W6 (rdZ (rdZ y0 y4) 3)) + (W6 (rdZ (rdZ b y2) 2))))))
def sq2 (y4 y1 y2 y0 b : Int) (m0 : Nat) (I1000 : Int → Int → Int → Nat → Prop) : Prop := (Pm (PL y4 y1) (Pm (PL y4 1000000) (Pm (PL (y4 + 1) 1000000) (Pm (PL 0 (y1 - y4)) (Pm (PL (y4 + (y1 - y4)) y1) (Pm (PL ((y4 + 1) + (y1 - y4)) 1000000) (Pm (Pl y4 ((y4 + 1) + (y1 - y4))) (Pm (PL 0 ((y4 + 1) + (y1 - y4))) (Pm (PL ((y4 + 1) + (y1 - y4)) 1000000) (Pm (PL (y2 + 1) 4611686018427387904) (∃ m', m' < m0 ∧ I1000 (sq0 y0 y4 b y2) ((y4 + 1) + (y1 - y4)) (y2 + 1) m')))))))))))
def sq3 (y4 y1 y2 y0 b : Int) (m0 : Nat) (I1000 : Int → Int → Int → Nat → Prop) : Prop := (Pb (Pe y4 y1) (sq2 y4 y1 y2 y0 b m0 I1000) (Pb (Pd (W6 (rdZ (rdZ y0 y4) 0)) (W6 (rdZ (rdZ b y2) 0))) (sq2 y4 y1 y2 y0 b m0 I1000) (Pb (Pd (W6 (rdZ (rdZ y0 y4) 1)) (W6 (rdZ (rdZ b y2) 1))) (sq2 y4 y1 y2 y0 b m0 I1000) (Pm (PL (y2 + 1) 4611686018427387904) (∃ m', m' < m0 ∧ I1000 (sq1 y0 y4 b y2) y1 (y2 + 1) m')))))
def P (a b c : Int) : Prop :=
 ∃ I1000 : Int → Int → Int → Nat → Prop, (∃ m, I1000 0 0 0 m) ∧ ∀ y0 y1 y2 : Int, ∀ m0, (True ∧ (0 ≤ y1 ∧ y1 ≤ 1000000) ∧ (0 ≤ y2 ∧ y2 ≤ 4611686018427387904) ∧ True) → I1000 y0 y1 y2 m0 → (Pb (Pl y2 a) (∃ I1004 : Int → Nat → Prop, (∃ m, I1004 0 m) ∧ ∀ y4 : Int, ∀ m4, ((0 ≤ y4 ∧ y4 ≤ 4611686018427387904) ∧ True) → I1004 y4 m4 → (Pb (Pl y4 y1) (Pb (Pl (W6 (rdZ (rdZ y0 y4) 0)) (W6 (rdZ (rdZ b y2) 0))) (Pm (PL (y4 + 1) 4611686018427387904) (∃ m', m' < m4 ∧ I1004 (y4 + 1) m')) (Pb (Pe (W6 (rdZ (rdZ y0 y4) 0)) (W6 (rdZ (rdZ b y2) 0))) (Pb (Pl (W6 (rdZ (rdZ y0 y4) 1)) (W6 (rdZ (rdZ b y2) 1))) (Pm (PL (y4 + 1) 4611686018427387904) (∃ m', m' < m4 ∧ I1004 (y4 + 1) m')) (Pb (Pe (0 : Int) 0) (sq3 y4 y1 y2 y0 b m0 I1000) (Pb (Pe (0 : Int) 1) (sq3 y4 y1 y2 y0 b m0 I1000) (Pm (Pe y4 y1) (sq2 y4 y1 y2 y0
 b m0 I1000))))) (Pb (Pe (1 : Int) 0) (sq3 y4 y1 y2 y0 b m0 I1000) (Pb (Pe (1 : Int) 1) (sq3 y4 y1 y2 y0 b m0 I1000) (Pm (Pe y4 y1) (sq2 y4 y1 y2 y0 b m0 I1000)))))) (Pb (Pe (2 : Int) 0) (sq3 y4 y1 y2 y0 b m0 I1000) (Pb (Pe (2 : Int) 1) (sq3 y4 y1 y2 y0 b m0 I1000) (Pm (Pe y4 y1) (sq2 y4 y1 y2 y0 b m0 I1000)))))) ((y1 : Int) = (hrwN b a) ∧ qZh [.int .i64, .int .i64, .int .i64, .int .i64] y0 (hrwZ b a) y1 ∧ True))
set_option maxHeartbeats 8000000 in
theorem holds (n0 c0 r0 : Int) (l_n0 : 0 ≤ n0) (u_n0 : n0 ≤ 1000000) (h_n0 : n0 ≤ r0) : P n0 c0 r0 := by
 delta P sq0 sq1 sq2 sq3 Pb Pm PL Pl Pe Pd W6 kZ
 simp only [nrm, Int.reduceEq, Int.reduceNeg, reduceIte]
 refine ⟨fun y r i m => 0 ≤ r ∧ r ≤ i ∧ 0 ≤ i ∧ i ≤ n0 ∧ m = (n0 - i).toNat ∧ rwH y r.toNat = hrwL c0 i.toNat, ⟨_, by omega, by omega, by omega, l_n0, rfl, rfl⟩, ?_⟩
 rintro y r i m _ ⟨q0, q1, i0, i1, rfl, hI⟩
 refine ⟨fun hi => ?_, fun hi => ?_⟩
 ·refine ⟨fun t m => 0 ≤ t ∧ t ≤ r ∧ m = (r - t).toNat ∧ ∀ x : Nat, (x : Int) < t → LsM (IntKind.wrap .i64 (rdZ (rdZ c0 i) 0)) (IntKind.wrap .i64 (rdZ (rdZ c0 i) 1)) (elH y x), ⟨_, by omega, q0, rfl, fun x hx => by omega⟩, ?_⟩
  rintro t m _ ⟨t0, t1, rfl, hL⟩
  have k0 : IntKind.wrap .i64 (rdZ (rdZ y t) 0) = (elH y t.toNat).1 := (elH_at t0).1
  have k1 : IntKind.wrap .i64 (rdZ (rdZ y t) 1) = (elH y t.toNat).2.1 := (elH_at t0).2.1
  rw [k0, k1]
  have more : LsM (IntKind.wrap .i64 (rdZ (rdZ c0 i) 0)) (IntKind.wrap .i64 (rdZ (rdZ c0 i) 1)) (elH y t.toNat) → ∀ x : Nat, (x : Int) < t + 1 → LsM (IntKind.wrap .i64 (rdZ (rdZ c0 i) 0)) (IntKind.wrap .i64 (rdZ (rdZ c0 i) 1)) (elH y x) := fun g x hx => by
   by_cases e : (x : Int) = t
   ·rw [show x = t.toNat by omega]; exact g
   ·exact hL x (by omega)
  have nw : (t = r ∨ (¬LsM (IntKind.wrap .i64 (rdZ (rdZ c0 i) 0)) (IntKind.wrap .i64 (rdZ (rdZ c0 i) 1)) (elH y t.toNat) ∧ ¬((elH y t.toNat).1 = IntKind.wrap .i64 (rdZ (rdZ c0 i) 0) ∧ (elH y t.toNat).2.1 = IntKind.wrap .i64 (rdZ (rdZ c0 i) 1)))) → _ := fun hn => rows_new t0 t1 i0 hI hL hn rfl
  have od : t < r → (elH y t.toNat).1 = IntKind.wrap .i64 (rdZ (rdZ c0 i) 0) → (elH y t.toNat).2.1 = IntKind.wrap .i64 (rdZ (rdZ c0 i) 1) → _ := fun g1 g2 g3 => rows_old t0 g1 i0 hI hL g2 g3
  unfold LsM at nw
  repeat' (refine And.intro (fun _ => ?_) (fun _ => ?_))
  all_goals first
   | (exfalso; omega)
   | exact ⟨_, by omega, by omega, by omega, rfl, more (.inl (by assumption))⟩
   | exact ⟨_, by omega, by omega, by omega, rfl, more (.inr ⟨by assumption, by assumption⟩)⟩
   | exact ⟨_, by omega, by omega, by omega, by omega, by omega, rfl, nw (by omega)⟩
   | exact ⟨_, by omega, by omega, by omega, by omega, by omega, rfl, od (by omega) (by omega) (by omega)⟩
   | skip
  all_goals trace_state
 ·have e : i = n0 := by omega
  subst e
  have h := rows_end i0 u_n0 q0 hI
  exact ⟨h.1, h.2⟩
theorem plain (i v ro p) : statR 0 rc tree ⟨i, fN, v, ro, p⟩ = P (i 0) (i 1) (i 2) := by kernel_rfl
theorem ran : ranR us (fun f i => if f = 7 then (match i with | 7 => .tmpl (some mk7_7) | 3 => .tmpl (some mk7_3) | _ => .auto) else .auto) rc 0 tree = true := by kernel_rfl
theorem fineT : fineR 0 rc tree = true := by kernel_rfl
theorem ok : RcOk (cxOf 0) rc := okR us_ok ran fineT okb fun i v ro p hρ hcap hpre => by rw [plain]; have q := hρ.hi; exact holds _ _ _ (q 0 _ rfl).1 (q 0 _ rfl).2 (hcap _ (mg 0 rfl))
end CRRows17
namespace CRTop17
def rc : Rc := ⟨9, [none, none], [.row [.int .i64, .int .i64, .int .i64] 1000000, .int .i64], [], .one, [.row [.int .i64, .int .i64, .int .i64, .int .i64] 38 (.f 160 (.v 2) (.v 0) (.v 1)) (.f 159 (.v 2) (.v 0) (.v 1))]⟩
theorem okb : rc.ok = true := by kernel_rfl
noncomputable def us : SMs := fun Γ ins n => smH (cxG n Γ ins) [] (smR (cxG n Γ ins) [CRRows17.rc])
theorem us_ok : SMsOk us := fun Γ ins n => qJb (tabsG n Γ ins) (qZi _) (qJa (tabsG n Γ ins) (qZt CRRows17.okb (rc_n CRRows17.ok) (qZn _)))
def Q0 : E := (.cl 1003 0 1000000)
def Q1 : E := (.cl 1001 0 1000000)
def Q2 : E := (.cl 1006 1 4611686018427387904)
def Q3 : E := (.cl 1005 (-9223372036854775808) 9223372036854775807)
def Q4 : E := (tl (.c 0) Q3)
def Q5 : E := (tk Q3 Q1)
def Q6 : E := (tR (.v 1000) Q3)
def Q7 : E := (tR Q6 (.c 3))
def Q8 : E := (t6 Q7)
def Q9 : E := (tp Q2 (.c 1))
def Q10 : E := (tl Q9 (.c 4611686018427387904))
def Q11 : E := (tp Q0 (.c 1))
def Q12 : E := (tl Q11 (.c 1000000))
def Q13 : E := (tp Q3 (.c 1))
def Q14 : E := (t6 Q13)
def Q15 : E := (.b .psub .i64 Q1 Q14)
def Q16 : E := (tp Q3 Q15)
def Q17 : E := (tl Q16 (.c 1000000))
def tree : TT (List E) :=
 (.br (tl (.v 0) (.v 3)) (.loop ⟨1000, [none, some (0, 1000000), none, some (0, 1000000)], [(.f 158 (.v 2) (.v 0) (.c 0)), (.f 157 (.v 2) (.v 0) (.c 0)), (.c 0), (.c 0)], 1011⟩ (.br (tk Q0 (.v 1)) (.br (tk (.c 0) Q1) (.loop ⟨1005, [some (-9223372036854775808, 9223372036854775807), some (1, 4611686018427387904)], [(.c 0), (.c 1)], 1010⟩ (.br (tk Q2 Q1) (.new 1008 (t6 (tR (tR (.v 1000) Q2) (.c 3))) (.br Q4 (.br Q5 (.new 1009 Q8 (.br (tk (.cl 1009 (-9223372036854775808) 9223372036854775807) (.cl 1008 (-9223372036854775808) 9223372036854775807)) (.br Q10 (.back [Q2, Q9]) (.bad 303)) (.br Q10 (.back [Q3, Q9]) (.bad 303)))) (.bad 200)) (.bad 200))) (.exit 0)) (.br Q4 (.br Q5 (.br Q12 (.br (tl Q3 Q1) (.br (tl Q3 (.c 1000000)) (.br (tl (.c 0) Q14) (.br (tl Q14 Q1) (.br (tl (.c 0) Q15) (.br (tl
 (tp Q14 Q15) Q1) (.br Q17 (.br (tl (.c 0) Q16) (.br Q17 (.br Q12 (.back [(.f 16 (.f 16 (.c 0) (.c 0) (.v 1000)) Q3 (.f 18 (.v 1000) Q14 (.c 0))), Q16, (.f 14 (.v 1002) Q0 (tC (t6 (tR Q6 (.c 0))) (tC (t6 (tR Q6 (.c 1))) (tC (t6 (tR Q6 (.c 2))) (tC Q8 (.c 0)))))), Q11]) (.bad 303)) (.bad 303)) (.bad 303)) (.bad 200)) (.bad 200)) (.bad 200)) (.bad 200)) (.bad 200)) (.bad 200)) (.bad 200)) (.bad 200)) (.bad 200)) (.bad 200))) (.exit 0)) (.exit 1)) (.br (te (.v 1011) (.c 0)) (.leaf [Q0, (.v 1002)]) (.leaf [Q0, (.v 1002)]))) (.bad 200))
def P (a b c d : Int) : Prop :=
 (Pm (PL a d) (∃ I1000 : Int → Int → Int → Int → Nat → Prop, (∃ m, I1000 (hrwZ c a) (hrwN c a) 0 0 m) ∧ ∀ y0 y1 y2 y3 : Int, ∀ m0, (True ∧ (0 ≤ y1 ∧ y1 ≤ 1000000) ∧ True ∧ (0 ≤ y3 ∧ y3 ≤ 1000000) ∧ True) → I1000 y0 y1 y2 y3 m0 → (Pb (Pl y3 b) (Pb (Pl 0 y1) (∃ I1005 : Int → Int → Nat → Prop, (∃ m, I1005 0 1 m) ∧ ∀ y5 y6 : Int, ∀ m5, (((-9223372036854775808) ≤ y5 ∧ y5 ≤ 9223372036854775807) ∧ (1 ≤ y6 ∧ y6 ≤ 4611686018427387904) ∧ True) → I1005 y5 y6 m5 → (Pb (Pl y6 y1) (Pn (W6 (rdZ (rdZ y0 y6) 3)) (-9223372036854775808) 9223372036854775807 fun y8 => (Pm (PL 0 y5) (Pm (Pl y5 y1) (Pn (W6 (rdZ (rdZ y0 y5) 3)) (-9223372036854775808) 9223372036854775807 fun y9 => (Pb (Pl y9 y8) (Pm (PL (y6 + 1) 4611686018427387904) (∃ m', m' < m5 ∧ I1005 y6 (y6 + 1) m')) (Pm (PL (y6 + 1) 4611686018427387904) (∃
 m', m' < m5 ∧ I1005 y5 (y6 + 1) m'))))))) (Pm (PL 0 y5) (Pm (Pl y5 y1) (Pm (PL (y3 + 1) 1000000) (Pm (PL y5 y1) (Pm (PL y5 1000000) (Pm (PL 0 (W6 (y5 + 1))) (Pm (PL (W6 (y5 + 1)) y1) (Pm (PL 0 (y1 - (W6 (y5 + 1)))) (Pm (PL ((W6 (y5 + 1)) + (y1 - (W6 (y5 + 1)))) y1) (Pm (PL (y5 + (y1 - (W6 (y5 + 1)))) 1000000) (Pm (PL 0 (y5 + (y1 - (W6 (y5 + 1))))) (Pm (PL (y5 + (y1 - (W6 (y5 + 1)))) 1000000) (Pm (PL (y3 + 1) 1000000) (∃ m', m' < m0 ∧ I1000 (appZ (appZ 0 0 y0) y5 (dropZ y0 (W6 (y5 + 1)))) (y5 + (y1 - (W6 (y5 + 1)))) (updZ y2 y3 (kZ (W6 (rdZ (rdZ y0 y5) 0)) (kZ (W6 (rdZ (rdZ y0 y5) 1)) (kZ (W6 (rdZ (rdZ y0 y5) 2)) (kZ (W6 (rdZ (rdZ y0 y5) 3)) 0))))) (y3 + 1) m')))))))))))))))) (Pb (Pe (0 : Int) 0) ((y3 : Int) = (topN c a b) ∧ qZh [.int .i64, .int .i64, .int .i64, .int .i64] y2 (topZ c a
 b) y3 ∧ True) ((y3 : Int) = (topN c a b) ∧ qZh [.int .i64, .int .i64, .int .i64, .int .i64] y2 (topZ c a b) y3 ∧ True))) (Pb (Pe (1 : Int) 0) ((y3 : Int) = (topN c a b) ∧ qZh [.int .i64, .int .i64, .int .i64, .int .i64] y2 (topZ c a b) y3 ∧ True) ((y3 : Int) = (topN c a b) ∧ qZh [.int .i64, .int .i64, .int .i64, .int .i64] y2 (topZ c a b) y3 ∧ True)))))
set_option maxHeartbeats 4000000 in
theorem holds (n0 p1 c0 r0 : Int) (l_n0 : 0 ≤ n0) (u_n0 : n0 ≤ 1000000) (l_p1 : -9223372036854775808 ≤ p1) (u_p1 : p1 ≤ 9223372036854775807) (h_n0 : n0 ≤ r0) : P n0 p1 c0 r0 := by
 delta P Pb Pm Pn PL Pl Pe W6 kZ
 simp only [nrm, Int.reduceEq, Int.reduceNeg, reduceIte]
 refine ⟨fun _ => ?_, fun h => by omega⟩
 have hN : ((hrwL c0 (min n0.toNat 1000000)).length : Int) = hrwN c0 n0 := rfl
 refine ⟨fun y r z k m => 0 ≤ r ∧ r ≤ 1000000 ∧ 0 ≤ k ∧ (k : Int) ≤ max p1 0 ∧ k + r ≤ 1000000 ∧ m = r.toNat ∧ stS (hrwL c0 (min n0.toNat 1000000)) = rwH z k.toNat ++ stS (rwH y r.toNat), ⟨_, (hrwN_bd _ _).1, (hrwN_bd _ _).2, by omega, by omega, ?_, rfl, ?_⟩, ?_⟩
 ·have := (hrwN_bd c0 n0).2; omega
 ·have h1 := rwH_LZ (hrw_w c0 (min n0.toNat 1000000))
  have e : (hrwN c0 n0).toNat = (hrwL c0 (min n0.toNat 1000000)).length := by omega
  rw [e]
  unfold hrwZ
  rw [h1]
  rfl
 rintro y r z k m _ ⟨r0, r1, k0, k1, kr, rfl, hI⟩
 refine ⟨fun hk => ⟨fun hr => ?_, fun hr => ?_⟩, fun hk => ?_⟩
 ·refine ⟨fun t i m => 0 ≤ t ∧ t < i ∧ i ≤ r ∧ m = (r - i).toNat ∧ (∀ x : Nat, (x : Int) < t → cH (elH y x) < cH (elH y t.toNat)) ∧ (∀ x : Nat, (x : Int) < i → cH (elH y x) ≤ cH (elH y t.toNat)), ⟨_, by omega, by omega, by omega, rfl, fun x hx => by omega, fun x hx => ?_⟩, ?_⟩
  ·have e : x = (0 : Int).toNat := by omega
   rw [e]; exact Int.le_refl _
  rintro t i m _ ⟨t0, t1, i1, rfl, h1, h2⟩
  refine ⟨fun hi => ?_, fun hi => ?_⟩
  ·intro u hu _
   refine ⟨fun _ => ⟨fun _ => ?_, fun h => by omega⟩, fun h => by omega⟩
   intro v hv _
   rw [cH_e (by omega)] at hu hv
   refine ⟨fun hl => ⟨fun _ => ⟨_, ?_, by omega, by omega, by omega, rfl, fun x hx => ?_, fun x hx => ?_⟩, fun h => by omega⟩, fun hl => ⟨fun _ => ⟨_, ?_, by omega, by omega, by omega, rfl, h1, fun x hx => ?_⟩, fun h => by omega⟩⟩
   ·omega
   ·have := h2 x (by omega); omega
   ·by_cases e : (x : Int) = i
    ·have e : x = i.toNat := by omega
     rw [e]; exact Int.le_refl _
    ·have := h2 x (by omega); omega
   ·omega
   ·by_cases e : (x : Int) = i
    ·have e : x = i.toNat := by omega
     rw [e]; omega
    ·exact h2 x (by omega)
  ·have e1 : IntKind.wrap .i64 (t + 1) = t + 1 := w64 (by omega) (by omega)
   rw [e1]
   refine ⟨fun _ => ⟨fun _ => ⟨fun _ => ⟨fun _ => ⟨fun _ => ⟨fun _ => ⟨fun _ => ⟨fun _ => ⟨fun _ => ⟨fun _ => ⟨fun _ => ⟨fun _ => ⟨fun _ => ?_, fun h => by omega⟩, fun h => by omega⟩, fun h => by omega⟩, fun h => by omega⟩, fun h => by omega⟩, fun h => by omega⟩, fun h => by omega⟩, fun h => by omega⟩, fun h => by omega⟩, fun h => by omega⟩, fun h => by omega⟩, fun h => by omega⟩, fun h => by omega⟩
   refine ⟨(t + (r - (t + 1))).toNat, by omega, by omega, by omega, by omega, by omega, by omega, rfl, ?_⟩
   obtain ⟨A, B, g1, g2, g3, g4⟩ := rwH_cut (y := y) (z := appZ (appZ 0 0 y) t (dropZ y (t + 1))) (n := r.toNat) (k := t.toNat) (by omega) (fun j hj => by
     rw [elH_app, if_pos (by omega), elH_app, if_neg (by omega)]; congr 1) (fun j hj hj2 => by
     rw [elH_app, if_neg (by omega), elH_drop]; congr 1; omega)
   rw [hI, g1, st_first (A := A) (B := B) (x := elH y t.toNat) (fun w hw => by
     rw [g3] at hw
     obtain ⟨j, _, j2, rfl⟩ := qXi.1 hw
     exact h1 j (by omega)) (fun w hw => by
     rw [g4] at hw
     obtain ⟨j, _, j2, rfl⟩ := qXi.1 hw
     exact h2 j (by omega))]
   rw [show (t + (r - (t + 1))).toNat = r.toNat - 1 by omega, g2, show (k + 1).toNat = k.toNat + 1 by omega, rwH_snoc (z := z) (x := elH y t.toNat) fun j => by
    rw [elH_mv _ (by omega) t0 rfl rfl rfl rfl, Int.toNat_of_nonneg k0]]
   simp
 ·have e : rwH y r.toNat = [] := by rw [show r.toNat = 0 by omega]; rfl
  have h := top_end (k := p1) (z := z) (r := k.toNat) (q := c0) (n := n0) hI (.inl ⟨e, by omega⟩)
  rw [Int.toNat_of_nonneg k0] at h
  first
   | exact h
   | exact ⟨h.1, h.2⟩
 ·have h := top_end (k := p1) (z := z) (r := k.toNat) (q := c0) (n := n0) hI (.inr (by omega))
  rw [Int.toNat_of_nonneg k0] at h
  first
   | exact h
   | exact ⟨h.1, h.2⟩
theorem plain (i v ro p) : statR 2 rc tree ⟨i, fN, v, ro, p⟩ = P (i 0) (i 1) (i 2) (i 3) := by kernel_rfl
theorem ran : ranR us (fun _ _ => .auto) rc 2 tree = true := by kernel_rfl
theorem fineT : fineR 2 rc tree = true := by kernel_rfl
theorem ok : RcOk (cxOf 2) rc := okR us_ok ran fineT okb fun i v ro p hρ hcap hpre => by rw [plain]; have q := hρ.hi; exact holds _ _ _ _ (q 0 _ rfl).1 (q 0 _ rfl).2 (q 1 _ rfl).1 (q 1 _ rfl).2 (hcap _ (mg 0 rfl))
end CRTop17
namespace CRHeats17
def rc : Rc := ⟨5, [none, none], [.row [.int .i64, .int .i64, .int .i64, .int .i64] 1000000, .row [.int .i64, .int .i64, .int .i64, .int .i64] 1000000], [], .one, [.bool (.ite (.b .eq .i64 (.v 0) (.v 1)) (.f 161 (.v 2) (.v 3) (.v 0)) (.c 0))]⟩
theorem okb : rc.ok = true := by kernel_rfl
noncomputable def us : SMs := fun Γ ins n => smH (cxG n Γ ins) [] (smR (cxG n Γ ins) [])
theorem us_ok : SMsOk us := fun Γ ins n => qJb (tabsG n Γ ins) (qZi _) (qJa (tabsG n Γ ins) (qZn _))
def Q0 : E := (.cl 1000 0 4611686018427387904)
def Q1 : E := (tR (.v 2) Q0)
def Q2 : E := (tR (.v 3) Q0)
def Q3 : E := (tp Q0 (.c 1))
def tree : TT (List E) :=
 (.br (tn (.v 0) (.v 1)) (.leaf [(.c 0)]) (.loop ⟨1000, [some (0, 4611686018427387904)], [(.c 0)], 1010⟩ (.br (tk Q0 (.v 0)) (.new 1002 (t6 (tR Q1 (.c 0))) (.new 1003 (t6 (tR Q1 (.c 1))) (.new 1004 (t6 (tR Q1 (.c 2))) (.new 1005 (t6 (tR Q1 (.c 3))) (.br (tk Q0 (.v 1)) (.new 1006 (t6 (tR Q2 (.c 0))) (.new 1007 (t6 (tR Q2 (.c 1))) (.new 1008 (t6 (tR Q2 (.c 2))) (.new 1009 (t6 (tR Q2 (.c 3))) (.br (.nt (.ite (te (.cl 1002 (-9223372036854775808) 9223372036854775807) (.cl 1006 (-9223372036854775808) 9223372036854775807)) (.ite (te (.cl 1003 (-9223372036854775808) 9223372036854775807) (.cl 1007 (-9223372036854775808) 9223372036854775807)) (.ite (te (.cl 1004 (-9223372036854775808) 9223372036854775807) (.cl 1008 (-9223372036854775808) 9223372036854775807)) (te (.cl 1005 (-9223372036854775808)
 9223372036854775807) (.cl 1009 (-9223372036854775808) 9223372036854775807)) (.c 0)) (.c 0)) (.c 0))) (.exit 0) (.br (tl Q3 (.c 4611686018427387904)) (.back [Q3]) (.bad 303))))))) (.bad 200)))))) (.exit 1)) (.br (te (.v 1010) (.c 0)) (.leaf [(.c 0)]) (.leaf [(.c 1)]))))
def P (a b c d e f : Int) : Prop :=
 (Pb (Pd a b) (((0 : Int) ≠ 0 ↔ ((iteZ (Pe a b) (smhZ c d a) 0) : Int) ≠ 0) ∧ True) (∃ I1000 : Int → Nat → Prop, (∃ m, I1000 0 m) ∧ ∀ y0 : Int, ∀ m0, ((0 ≤ y0 ∧ y0 ≤ 4611686018427387904) ∧ True) → I1000 y0 m0 → (Pb (Pl y0 a) (Pn (W6 (rdZ (rdZ c y0) 0)) (-9223372036854775808) 9223372036854775807 fun y2 => Pn (W6 (rdZ (rdZ c y0) 1)) (-9223372036854775808) 9223372036854775807 fun y3 => Pn (W6 (rdZ (rdZ c y0) 2)) (-9223372036854775808) 9223372036854775807 fun y4 => Pn (W6 (rdZ (rdZ c y0) 3)) (-9223372036854775808) 9223372036854775807 fun y5 => (Pm (Pl y0 b) (Pn (W6 (rdZ (rdZ d y0) 0)) (-9223372036854775808) 9223372036854775807 fun y6 => Pn (W6 (rdZ (rdZ d y0) 1)) (-9223372036854775808) 9223372036854775807 fun y7 => Pn (W6 (rdZ (rdZ d y0) 2)) (-9223372036854775808) 9223372036854775807 fun y8
 => Pn (W6 (rdZ (rdZ d y0) 3)) (-9223372036854775808) 9223372036854775807 fun y9 => (Pb (Pe (iteZ (Pe y2 y6) (iteZ (Pe y3 y7) (iteZ (Pe y4 y8) (Pe y5 y9) 0) 0) 0) 0) (Pb (Pe (0 : Int) 0) (((0 : Int) ≠ 0 ↔ ((iteZ (Pe a b) (smhZ c d a) 0) : Int) ≠ 0) ∧ True) (((1 : Int) ≠ 0 ↔ ((iteZ (Pe a b) (smhZ c d a) 0) : Int) ≠ 0) ∧ True)) (Pm (PL (y0 + 1) 4611686018427387904) (∃ m', m' < m0 ∧ I1000 (y0 + 1) m')))))) (Pb (Pe (1 : Int) 0) (((0 : Int) ≠ 0 ↔ ((iteZ (Pe a b) (smhZ c d a) 0) : Int) ≠ 0) ∧ True) (((1 : Int) ≠ 0 ↔ ((iteZ (Pe a b) (smhZ c d a) 0) : Int) ≠ 0) ∧ True)))))
theorem holds (n0 n1 c0 c1 r0 r1 : Int) (l_n0 : 0 ≤ n0) (u_n0 : n0 ≤ 1000000) (l_n1 : 0 ≤ n1) (u_n1 : n1 ≤ 1000000) (h_n0 : n0 ≤ r0) (h_n1 : n1 ≤ r1) : P n0 n1 c0 c1 r0 r1 := by
 delta P Pb Pm Pn PL Pl Pe Pd W6
 simp only [nrm, Int.reduceEq, Int.reduceNeg, reduceIte]
 refine And.intro (fun h => by simp [h]) (fun h => ?_)
 have h : n0 = n1 := h
 subst h
 refine ⟨fun i m => 0 ≤ i ∧ m = (n0 - i).toNat ∧ ∀ j : Nat, (j : Int) < i → elH c0 j = elH c1 j, ⟨_, by omega, rfl, fun j hj => by omega⟩, ?_⟩
 rintro i m hb ⟨h0, rfl, hI⟩
 have e0 : ∀ c : Int, elH c i.toNat = (IntKind.wrap .i64 (rdZ (rdZ c i) 0), IntKind.wrap .i64 (rdZ (rdZ c i) 1), IntKind.wrap .i64 (rdZ (rdZ c i) 2), IntKind.wrap .i64 (rdZ (rdZ c i) 3)) := fun c => by
  unfold elH; rw [Int.toNat_of_nonneg h0]
 refine And.intro (fun hi a0 ha0 _ a1 ha1 _ a2 ha2 _ a3 ha3 _ => And.intro (fun _ b0 hb0 _ b1 hb1 _ b2 hb2 _ b3 hb3 _ => And.intro (fun hz => ?_) (fun hz => And.intro (fun _ => ⟨_, ?_, by omega, rfl, fun j hj => ?_⟩) (fun h => by omega))) (fun h => by omega)) (fun hi => ?_)
 ·have hne : smhZ c0 c1 n0 = 0 := by
   unfold smhZ
   refine if_neg fun g => ?_
   have := g i.toNat (by omega)
   rw [e0, e0, ← ha0, ← ha1, ← ha2, ← ha3, ← hb0, ← hb1, ← hb2, ← hb3] at this
   obtain ⟨g0, g1, g2, g3⟩ : a0 = b0 ∧ a1 = b1 ∧ a2 = b2 ∧ a3 = b3 := by simpa using this
   simp [g0, g1, g2, g3, qQq] at hz
  simp [hne]
 ·omega
 ·by_cases e : (j : Int) = i
  ·have ej : j = i.toNat := by omega
   rw [ej, e0, e0, ← ha0, ← ha1, ← ha2, ← ha3, ← hb0, ← hb1, ← hb2, ← hb3]
   by_cases g0 : a0 = b0
   ·by_cases g1 : a1 = b1
    ·by_cases g2 : a2 = b2
     ·by_cases g3 : a3 = b3
      ·rw [g0, g1, g2, g3]
      ·exfalso
       have g4 := beq_eq_false_iff_ne.2 g3
       simp [g0, g1, g2, g4, qQq] at hz
     ·simp [g0, g1, g2] at hz
    ·simp [g0, g1] at hz
   ·simp [g0] at hz
  ·exact hI j (by omega)
 ·unfold smhZ
  rw [if_pos fun j hj => hI j (by omega)]
  simp
theorem plain (i v ro p) : statR 2 rc tree ⟨i, fN, v, ro, p⟩ = P (i 0) (i 1) (i 2) (i 3) (i 4) (i 5) := by kernel_rfl
theorem ran : ranR us (fun _ _ => .auto) rc 2 tree = true := by kernel_rfl
theorem fineT : fineR 2 rc tree = true := by kernel_rfl
theorem ok : RcOk (cxOf 2) rc := okR us_ok ran fineT okb fun i v ro p hρ hcap hpre => by rw [plain]; have q := hρ.hi; exact holds _ _ _ _ _ _ (q 0 _ rfl).1 (q 0 _ rfl).2 (q 1 _ rfl).1 (q 1 _ rfl).2 (hcap _ (mg 0 rfl)) (hcap _ (mg 1 rfl))
end CRHeats17
namespace CTCmp
def rc : Rc := ⟨20, [some 4, some 4], [.int .i64, .int .i64, .int .i64, .int .i64, .int .i64, .int .i64, .int .i64, .int .i64], [], .one, [.int .i64 (.ite (.b .lt .i64 (.v 7) (.v 3)) (.b .psub .i64 (.c 0) (.c 1)) (.ite (.b .lt .i64 (.v 3) (.v 7)) (.c 1) (.c 0)))]⟩
theorem okb : rc.ok = true := by kernel_rfl
noncomputable def us : SMs := fun Γ ins n => smH (cxG n Γ ins) [] (smR (cxG n Γ ins) [])
theorem us_ok : SMsOk us := fun Γ ins n => qJb (tabsG n Γ ins) (qZi _) (qJa (tabsG n Γ ins) (qZn _))
def tree : TT (List E) :=
(.br (.b .lt .i64 (.v 7) (.v 3))
 (.leaf [(.c (-1))])
 (.br (.b .lt .i64 (.v 3) (.v 7))
 (.leaf [(.c 1)])
 (.leaf [(.c 0)])))
def P (p0_0 p0_1 p0_2 p0_3 p1_0 p1_1 p1_2 p1_3 : Int) : Prop :=
 (((qQq (decide (p1_3 < p0_3))) ≠ 0 →
  ((-1) : Int) = (iteZ (qQq (decide (p1_3 < p0_3))) (0 - 1) (iteZ (qQq (decide (p0_3 < p1_3))) 1 0)) ∧ True) ∧ ((qQq (decide (p1_3 < p0_3))) = 0 →
  (((qQq (decide (p0_3 < p1_3))) ≠ 0 →
   (1 : Int) = (iteZ (qQq (decide (p1_3 < p0_3))) (0 - 1) (iteZ (qQq (decide (p0_3 < p1_3))) 1 0)) ∧ True) ∧ ((qQq (decide (p0_3 < p1_3))) = 0 →
   (0 : Int) = (iteZ (qQq (decide (p1_3 < p0_3))) (0 - 1) (iteZ (qQq (decide (p0_3 < p1_3))) 1 0)) ∧ True))))
theorem holds (p0_0 p0_1 p0_2 p0_3 p1_0 p1_1 p1_2 p1_3 : Int) (l_p0_0 : -9223372036854775808 ≤ p0_0) (u_p0_0 : p0_0 ≤ 9223372036854775807) (l_p0_1 : -9223372036854775808 ≤ p0_1) (u_p0_1 : p0_1 ≤ 9223372036854775807) (l_p0_2 : -9223372036854775808 ≤ p0_2) (u_p0_2 : p0_2 ≤ 9223372036854775807) (l_p0_3 : -9223372036854775808 ≤ p0_3) (u_p0_3 : p0_3 ≤ 9223372036854775807) (l_p1_0 : -9223372036854775808 ≤ p1_0) (u_p1_0 : p1_0 ≤ 9223372036854775807) (l_p1_1 : -9223372036854775808 ≤ p1_1) (u_p1_1 : p1_1 ≤ 9223372036854775807) (l_p1_2 : -9223372036854775808 ≤ p1_2) (u_p1_2 : p1_2 ≤ 9223372036854775807) (l_p1_3 : -9223372036854775808 ≤ p1_3) (u_p1_3 : p1_3 ≤ 9223372036854775807) : P p0_0 p0_1 p0_2 p0_3 p1_0 p1_1 p1_2 p1_3 := by
 unfold P
 simp only [nrm, Int.reduceEq, Int.reduceNeg, reduceIte]
 repeat' (first | exact trivial | omega | (refine And.intro (fun _ => ?_) (fun _ => ?_)))
theorem plain (i v ro p) : statR 2 rc tree ⟨i, fN, v, ro, p⟩ = P (i 0) (i 1) (i 2) (i 3) (i 4) (i 5) (i 6) (i 7) := by kernel_rfl
theorem ran : ranR us (fun f _ => if [20].contains f then .unroll 400 else .auto) rc 2 tree = true := by kernel_rfl
theorem fineT : fineR 2 rc tree = true := by kernel_rfl
theorem ok : RcOk (cxOf 2) rc := okR us_ok ran fineT okb fun i v ro p hρ hcap hpre => by rw [plain]; have q := hρ.hi; exact holds _ _ _ _ _ _ _ _ (q 0 _ rfl).1 (q 0 _ rfl).2 (q 1 _ rfl).1 (q 1 _ rfl).2 (q 2 _ rfl).1 (q 2 _ rfl).2 (q 3 _ rfl).1 (q 3 _ rfl).2 (q 4 _ rfl).1 (q 4 _ rfl).2 (q 5 _ rfl).1 (q 5 _ rfl).2 (q 6 _ rfl).1 (q 6 _ rfl).2 (q 7 _ rfl).1 (q 7 _ rfl).2
end CTCmp
namespace CSIns
def rk : Rk := ⟨34, [(0, 1000000), (0, 1000000), (0, 1000000)], 4, [.sl (.own 0) 4 (.c 0) (.v 0) none, .int .i64 (.v 1), .int .i64 (.v 2), .func (.func 20) [] []], [.arr [.int .i64, .int .i64, .int .i64, .int .i64] 38 (.v 3) (.v 0)], [(.b .le .i64 (.v 1) (.v 2)), (.b .le .i64 (.v 2) (.v 0))], .tup [], [.arr [.int .i64, .int .i64, .int .i64, .int .i64] 38 (.v 1000000) (.v 0)], [.code [.int .i64, .int .i64, .int .i64, .int .i64] (.f 153 (.v 3) (.v 0) (qQt [(.v 1), (.v 2)])) (.v 0)], []⟩
theorem okk : rk.ok = true := by kernel_rfl
theorem okh : rk.rh.ok = true := by kernel_rfl
def mk34_4 : qZc := [([0, 9], .num (-4611686018427387904) (4611686018427387904)), ([1, 0, 0], .code), ([0, 18], .wilds 35)]
def mk34_1 : qZc := [([0, 8], .num (-4611686018427387904) (4611686018427387904)), ([1, 0, 0], .code), ([0, 9], .wilds 1), ([0, 12], .wilds 41)]
noncomputable def us : SMs := fun Γ ins n => smH (cxG n Γ ins) [] (smR (cxG n Γ ins) [CTCmp.rc])
theorem us_ok : SMsOk us := fun Γ ins n => qJb (tabsG n Γ ins) (qZi _) (qJa (tabsG n Γ ins) (qZt CTCmp.okb (rc_n CTCmp.ok) (qZn _)))
def Q0 : E := (.cl 1000 (-4611686018427387904) 4611686018427387904)
def Q1 : E := (.cl 1003 (-4611686018427387904) 4611686018427387904)
def Q2 : E := (tR (.v 1004) Q1)
def Q3 : E := (.b .psub .i64 Q1 (.c 1))
def Q4 : E := (tR (.v 1004) Q3)
def Q5 : E := (.cl 1013 (-9223372036854775808) 9223372036854775807)
def Q6 : E := (.cl 1009 (-9223372036854775808) 9223372036854775807)
def Q7 : E := (tp Q0 (.c 1))
def Q8 : E := (tl Q7 (.c 4611686018427387904))
def tree : TT (List E) :=
 (.loop ⟨1000, [some (-4611686018427387904, 4611686018427387904), none], [(tp (.v 1) (.c 1)), (.v 3)], 1016⟩ (.br (tk Q0 (.v 2)) (.loop ⟨1003, [some (-4611686018427387904, 4611686018427387904), none], [Q0, (.v 1001)], 1015⟩ (.br (tk (.v 1) Q1) (.br (tl (.c 0) Q1) (.br (tk Q1 (.v 0)) (.new 1006 (t6 (tR Q2 (.c 0))) (.new 1007 (t6 (tR Q2 (.c 1))) (.new 1008 (t6 (tR Q2 (.c 2))) (.new 1009 (t6 (tR Q2 (.c 3))) (.br (tl (.c 0) Q3) (.br (tk Q3 (.v 0)) (.new 1010 (t6 (tR Q4 (.c 0))) (.new 1011 (t6 (tR Q4 (.c 1))) (.new 1012 (t6 (tR Q4 (.c 2))) (.new 1013 (t6 (tR Q4 (.c 3))) (.new 1014 (.ite (tk Q5 Q6) (.c (-1)) (.ite (tk Q6 Q5) (.c 1) (.c 0))) (.br (tk (.cl 1014 (-1) 1) (.c 0)) (.br (tl (.c (-4611686018427387904)) Q3) (.back [Q3, (.f 14 (.f 14 (.v 1004) Q1 (tC (.cl 1010 (-9223372036854775808)
 9223372036854775807) (tC (.cl 1011 (-9223372036854775808) 9223372036854775807) (tC (.cl 1012 (-9223372036854775808) 9223372036854775807) (tC Q5 (.c 0)))))) Q3 (tC (.cl 1006 (-9223372036854775808) 9223372036854775807) (tC (.cl 1007 (-9223372036854775808) 9223372036854775807) (tC (.cl 1008 (-9223372036854775808) 9223372036854775807) (tC Q6 (.c 0))))))]) (.bad 303)) (.exit 0))))))) (.bad 200)) (.bad 200)))))) (.bad 200)) (.bad 200)) (.exit 1)) (.br (te (.v 1015) (.c 0)) (.br Q8 (.back [Q7, (.v 1004)]) (.bad 303)) (.br Q8 (.back [Q7, (.v 1004)]) (.bad 303)))) (.exit 0)) (.leaf [(.v 1001)]))
def P (a b c d : Int) : Prop :=
 ∃ I1000 : Int → Int → Nat → Prop, (∃ m, I1000 (b + 1) d m) ∧ ∀ y0 y1 : Int, ∀ m0, (((-4611686018427387904) ≤ y0 ∧ y0 ≤ 4611686018427387904) ∧ True ∧ True) → I1000 y0 y1 m0 → (Pb (Pl y0 c) (∃ I1003 : Int → Int → Nat → Prop, (∃ m, I1003 y0 y1 m) ∧ ∀ y3 y4 : Int, ∀ m3, (((-4611686018427387904) ≤ y3 ∧ y3 ≤ 4611686018427387904) ∧ True ∧ True) → I1003 y3 y4 m3 → (Pb (Pl b y3) (Pm (PL 0 y3) (Pm (Pl y3 a) (Pn (W6 (rdZ (rdZ y4 y3) 0)) (-9223372036854775808) 9223372036854775807 fun y6 => Pn (W6 (rdZ (rdZ y4 y3) 1)) (-9223372036854775808) 9223372036854775807 fun y7 => Pn (W6 (rdZ (rdZ y4 y3) 2)) (-9223372036854775808) 9223372036854775807 fun y8 => Pn (W6 (rdZ (rdZ y4 y3) 3)) (-9223372036854775808) 9223372036854775807 fun y9 => (Pm (PL 0 (y3 - 1)) (Pm (Pl (y3 - 1) a) (Pn (W6 (rdZ (rdZ y4 (y3 - 1))
 0)) (-9223372036854775808) 9223372036854775807 fun y10 => Pn (W6 (rdZ (rdZ y4 (y3 - 1)) 1)) (-9223372036854775808) 9223372036854775807 fun y11 => Pn (W6 (rdZ (rdZ y4 (y3 - 1)) 2)) (-9223372036854775808) 9223372036854775807 fun y12 => Pn (W6 (rdZ (rdZ y4 (y3 - 1)) 3)) (-9223372036854775808) 9223372036854775807 fun y13 => Pn (iteZ (Pl y13 y9) (-1) (iteZ (Pl y9 y13) 1 0)) (-1) 1 fun y14 => (Pb (Pl y14 0) (Pm (PL (-4611686018427387904) (y3 - 1)) (∃ m', m' < m3 ∧ I1003 (y3 - 1) (updZ (updZ y4 y3 (kZ y10 (kZ y11 (kZ y12 (kZ y13 0))))) (y3 - 1) (kZ y6 (kZ y7 (kZ y8 (kZ y9 0))))) m')) (Pb (Pe (0 : Int) 0) (Pm (PL (y0 + 1) 4611686018427387904) (∃ m', m' < m0 ∧ I1000 (y0 + 1) y4 m')) (Pm (PL (y0 + 1) 4611686018427387904) (∃ m', m' < m0 ∧ I1000 (y0 + 1) y4 m')))))))))) (Pb (Pe (1 : Int) 0) (Pm (PL
 (y0 + 1) 4611686018427387904) (∃ m', m' < m0 ∧ I1000 (y0 + 1) y4 m')) (Pm (PL (y0 + 1) 4611686018427387904) (∃ m', m' < m0 ∧ I1000 (y0 + 1) y4 m'))))) (qZh [.int .i64, .int .i64, .int .i64, .int .i64] y1 (stbZ d a (kZ b (kZ c 0))) a ∧ True))
theorem holds (n a b q : Int) (l_n : 0 ≤ n) (u_n : n ≤ 1000000) (l_a : 0 ≤ a) (u_a : a ≤ 1000000) (l_b : 0 ≤ b) (u_b : b ≤ 1000000) (h_pre0 : qQq (decide (a ≤ b)) ≠ 0) (h_pre1 : qQq (decide (b ≤ n)) ≠ 0) : P n a b q := by
 delta P Pb Pm Pn PL Pl Pe W6 kZ
 simp only [nrm, Int.reduceEq, Int.reduceNeg, reduceIte]
 simp only [nrm, Int.reduceEq, Int.reduceNeg, reduceIte] at h_pre0 h_pre1
 refine ⟨fun i y m => a + 1 ≤ i ∧ (i ≤ b ∨ a = b) ∧ m = (b - i).toNat ∧ (∀ j : Nat, (j : Int) < n → ((j : Int) < a ∨ i ≤ j ∨ b ≤ j) → elH y j = elH q j) ∧ DnS (segF (elH y) a.toNat i.toNat) ∧
  (∀ k, fK k (segF (elH y) a.toNat i.toNat) = fK k (segF (elH q) a.toNat i.toNat)), ⟨_, by omega, by omega, rfl, fun _ _ _ => rfl, ?_, fun _ => rfl⟩, ?_⟩
 ·rw [show (a + 1).toNat = a.toNat + 1 by omega, qKm]
  exact List.pairwise_singleton _ _
 rintro i y m _ ⟨i0, i1, rfl, ho, hs, hf⟩
 refine ⟨fun hi => ?_, fun hi => ?_⟩
 ·have next : ∀ z : Int, (∀ j : Nat, (j : Int) < n → ((j : Int) < a ∨ i + 1 ≤ j ∨ b ≤ j) → elH z j = elH q j) → DnS (segF (elH z) a.toNat (i + 1).toNat) → (∀ k, fK k (segF (elH z) a.toNat (i + 1).toNat) = fK k (segF (elH q) a.toNat (i + 1).toNat)) →
      ∃ m', m' < (b - i).toNat ∧ a + 1 ≤ i + 1 ∧ (i + 1 ≤ b ∨ a = b) ∧ m' = (b - (i + 1)).toNat ∧ (∀ j : Nat, (j : Int) < n → ((j : Int) < a ∨ i + 1 ≤ j ∨ b ≤ j) → elH z j = elH q j) ∧ DnS (segF (elH z) a.toNat (i + 1).toNat) ∧
      (∀ k, fK k (segF (elH z) a.toNat (i + 1).toNat) = fK k (segF (elH q) a.toNat (i + 1).toNat)) := fun z g1 g2 g3 => ⟨_, by omega, by omega, by omega, rfl, g1, g2, g3⟩
  refine ⟨fun j z m' => a ≤ j ∧ j ≤ i ∧ m' = j.toNat ∧ (∀ x : Nat, (x : Int) < n → ((x : Int) < a ∨ i + 1 ≤ x ∨ b ≤ x) → elH z x = elH q x) ∧ ExS z a i j ∧ (∀ k, fK k (segF (elH z) a.toNat (i + 1).toNat) = fK k (segF (elH q) a.toNat (i + 1).toNat)),
   ⟨_, by omega, by omega, rfl, fun x hx hc => ho x hx (by omega), fun x y' h1 h2 h3 h4 => (seg_dn.1 hs) x y' (by omega) h2 (by omega), fun k => ?_⟩, ?_⟩
  ·rw [show (i + 1).toNat = i.toNat + 1 by omega, qQf (elH y) (by omega : a.toNat ≤ i.toNat) (by omega), qQf (elH q) (by omega : a.toNat ≤ i.toNat) (by omega), qKm, qKm, ho i.toNat (by omega) (by omega)]
   show List.filter _ (_ ++ _) = List.filter _ (_ ++ _)
   rw [List.filter_append, List.filter_append]
   exact congrArg (· ++ _) (hf k)
  rintro j z m' _ ⟨j0, j1, rfl, ho', hs', hf'⟩
  refine ⟨fun hj => ⟨fun _ => ⟨fun _ => ?_, fun h => by omega⟩, fun h => by omega⟩, fun hj => ?_⟩
  ·intro y0 e0 _ y1 e1 _ y2 e2 _ y3 e3 _
   refine ⟨fun _ => ⟨fun _ => ?_, fun h => by omega⟩, fun h => by omega⟩
   intro z0 f0 _ z1 f1 _ z2 f2 _ z3 f3 _ c hc _
   have k1 := cH_e (z := z) (j := j) (by omega)
   have k2 := cH_e (z := z) (j := j - 1) (by omega)
   rw [← e3] at k1
   rw [← f3] at k2
   refine ⟨fun hl => ⟨fun _ => ?_, fun h => by omega⟩, fun hl => ?_⟩
   ·have hlt : z3 < y3 := by
     rw [hc] at hl
     omega
    have e : ∀ x : Nat, elH (updZ (updZ z j (qQx z0 (qQx z1 (qQx z2 (qQx z3 0))))) (j - 1) (qQx y0 (qQx y1 (qQx y2 (qQx y3 0))))) x = if (x : Int) = j - 1 then elH z j.toNat else if (x : Int) = j then elH z (j - 1).toNat else elH z x := fun x => by
     rw [elH_mv _ (by omega) (by omega) e0 e1 e2 e3, elH_mv _ (by omega) (by omega) f0 f1 f2 f3]
    obtain ⟨g1, g2⟩ := insH_step (by omega) hj j1 e hf' hs' (by omega)
    refine ⟨(j - 1).toNat, by omega, by omega, by omega, rfl, fun x hx hc' => ?_, g2, g1⟩
    rw [e, if_neg (by omega), if_neg (by omega)]
    exact ho' x hx hc'
   ·have hge : y3 ≤ z3 := by
     rw [hc] at hl
     omega
    have hE := insH_end (by omega) hj hs' (by omega)
    exact ⟨fun _ => next z ho' hE hf', fun h => by omega⟩
  ·have hE := insH_end0 (by omega) (by omega) hs'
   exact ⟨fun _ => next z ho' hE hf', fun h => by omega⟩
 ·rcases i1 with i1 | i1
  ·have e : i = b := by omega
   subst e
   exact stb_eq l_a (by omega) h_pre1 (fun j hj hc => ho j hj (by omega)) hs hf
  ·subst i1
   refine stb_eq l_a (by omega) h_pre1 (fun j hj hc => ho j hj (by omega)) ?_ fun k => ?_
   ·rw [qXs _ (Nat.le_refl _)]; exact List.Pairwise.nil
   ·rw [qXs _ (Nat.le_refl _), qXs _ (Nat.le_refl _)]
theorem plain (i v ro p) : statH 2 rk tree ⟨i, fN, v, ro, p⟩ = P (i 0) (i 1) (i 2) (i 3) := by kernel_rfl
theorem ran : ranH us (fun f i => if f = 34 then (match i with | 4 => .tmpl (some mk34_4) | 1 => .tmpl (some mk34_1) | _ => .auto) else .auto) rk 2 tree = true := by kernel_rfl
theorem fineT : fineH 2 rk tree = true := by kernel_rfl
theorem ok : RhOk (cxOf 2) rk.rh := okH us_ok ran fineT (by kernel_rfl) okk fun i v ro p hρ hpre => by rw [plain]; have q := hρ.hi; exact holds _ _ _ _ (q 0 _ rfl).1 (q 0 _ rfl).2 (q 1 _ rfl).1 (q 1 _ rfl).2 (q 2 _ rfl).1 (q 2 _ rfl).2 (hpre _ (mg 0 rfl)) (hpre _ (mg 1 rfl))
end CSIns
end Go.Proofs.Ytieocjnfjjgjeaa
