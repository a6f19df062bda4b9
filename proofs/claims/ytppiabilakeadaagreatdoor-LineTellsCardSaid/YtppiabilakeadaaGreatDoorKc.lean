/-
  What functions of the program answer, as numbers of what they are handed: their runs by the engine, the plain statements behind them. No condition.
-/
import Derived.Test.YtppiabilakeadaaGreatDoorKa
import Derived.Test.YtppiabilakeadaaGreatDoorKb
import Derived.Test.YtppiabilakeadaaGreatDoorGab
import Derived.Test.YtppiabilakeadaaGreatDoorGp3
set_option linter.unusedVariables false
set_option linter.unusedSimpArgs false
set_option maxRecDepth 100000
namespace Go.Proofs.YtppiabilakeadaaGreatDoor
open Go.Eng Go.RowKit
namespace CLPb
def rk : Rk := ⟨7, [(24, 30)], 2, [.str (.v 1)], [], [(.c 2), (.c 1), (.b .le .i64 (.f 21 (.v 1) (.c 0) (.c 0)) (.c 100000)), (.b .ne .i64 (.f 136 (.v 1) (.c 0) (.c 0)) (.c 0)), (.b .eq .i64 (.f 90 (.f 13 (.f 137 (.v 1) (.c 0) (.c 0)) (.c 0) (.c 0)) (.c 0) (.c 0)) (.v 0))], .tup [.agg [.int .i64 (.v 1000000), .int .i64 (.v 1000001), .int .i64 (.v 1000002), .int .i64 (.v 1000003), .int .i64 (.v 1000004)], .int .i64 (.v 1000005)], [], [.num (.f 143 (.v 1) (.c 0) (.c 0)), .num (.f 143 (.v 1) (.c 1) (.c 0)), .num (.f 143 (.v 1) (.c 2) (.c 0)), .num (.f 143 (.v 1) (.c 3) (.c 0)), .num (.f 143 (.v 1) (.c 4) (.c 0)), .num (.f 144 (.v 1) (.c 0) (.c 0))], []⟩
theorem okk : rk.ok = true := by kernel_rfl
theorem okh : rk.rh.ok = true := by kernel_rfl
noncomputable def us : SMs := fun Γ ins n => smH (cxG n Γ ins) [] (smR (cxG n Γ ins) [CCChk.rc, CLWords.rc, CLNumber.rc, COFind.rc, CLCut.rc])
theorem us_ok : SMsOk us := fun Γ ins n => qZb (tabsG n Γ ins) (qQs _) (qZw (tabsG n Γ ins) (qQw CCChk.okb (rc_n CCChk.ok) (qQw CLWords.okb (rc_n CLWords.ok) (qQw CLNumber.okb (rc_n CLNumber.ok) (qQw COFind.okb (rc_n COFind.ok) (qQw CLCut.okb (rc_n CLCut.ok) (qQt _)))))))
def Q0 : E := (.f 136 (.v 1) (.c 0) (.c 0))
def Q1 : E := (.b .psub .i64 Q0 (.c 1))
def Q2 : E := (tC (.c 0) (.c 0))
def Q3 : E := (tC (.c 0) Q2)
def Q4 : E := (tC (.c 114) (.c 0))
def Q5 : E := (tC Q4 (.c 0))
def Q6 : E := (tC (.c 1) Q5)
def Q7 : E := (.f 148 Q3 Q6 (.c 0))
def Q8 : E := (.f 147 Q3 Q6 (.c 0))
def Q9 : E := (.f 139 Q8 (.c 0) (.c 0))
def Q10 : E := (.f 138 Q8 (.c 0) (.c 0))
def Q11 : E := (.f 137 (.v 1) (.c 0) (.c 0))
def Q12 : E := (tR Q11 (.c 1))
def Q13 : E := (.f 147 Q12 Q6 (.c 0))
def Q14 : E := (.b .psub .i64 Q1 (.c 1))
def Q15 : E := (tl (.c 0) Q14)
def Q16 : E := (te Q14 (.c 0))
def Q17 : E := (tk (.c 0) Q14)
def Q18 : E := (tp (.c 1) (.c 1))
def Q19 : E := (tk Q18 Q0)
def Q20 : E := (tl (.c 1) Q14)
def Q21 : E := (tp Q18 Q14)
def Q22 : E := (tl Q21 Q0)
def Q23 : E := (tR Q11 Q18)
def Q24 : E := (.f 148 Q23 Q6 (.c 0))
def Q25 : E := (.f 147 Q23 Q6 (.c 0))
def Q26 : E := (.f 139 Q25 (.c 0) (.c 0))
def Q27 : E := (.f 138 Q25 (.c 0) (.c 0))
def Q28 : E := (.b .psub .i64 Q14 (.c 1))
def Q29 : E := (.cl 1001 (-999999999) 999999999)
def Q30 : E := (.cl 1004 (-999999999) 999999999)
def tree : TT (List E) :=
 (.br (tk (.c 0) Q0) (.br (tl (.c 1) Q0) (.br (tl (.c 0) Q1) (.br (te Q1 (.c 0)) (.new 1000 Q7 (.new 1001 Q9 (.new 1002 Q10 (.leaf [(.c 0), (.c 0), (.c 0), (.c 0), (.c 0), (.c 3)])))) (.br (tk (.c 0) Q1) (.br (tk (.c 1) Q0) (.br (tl (.c 1) Q1) (.br (tl (tp (.c 1) Q1) Q0) (.new 1000 (.f 148 Q12 Q6 (.c 0)) (.new 1001 (.f 139 Q13 (.c 0) (.c 0)) (.new 1002 (.f 138 Q13 (.c 0) (.c 0)) (.br (.nt (.cl 1000 0 1)) (.br Q15 (.br Q16 (.new 1003 Q7 (.new 1004 Q9 (.new 1005 Q10 (.leaf [(.c 0), (.c 0), (.c 0), (.c 0), (.c 0), (.c 3)])))) (.br Q17 (.br Q19 (.br Q20 (.br Q22 (.new 1003 Q24 (.new 1004 Q26 (.new 1005 Q27 (.leaf [(.c 0), (.c 0), (.c 0), (.c 0), (.c 0), (.c 3)])))) (.bad 200)) (.bad 200)) (.bad 200)) (.bad 200))) (.bad 200)) (.br Q15 (.br Q16 (.new 1003 Q7 (.new 1004 Q9 (.new 1005 Q10 (.leaf
 [(.c 0), (.c 0), (.c 0), (.c 0), (.c 0), (.c 3)])))) (.br Q17 (.br Q19 (.br Q20 (.br Q22 (.new 1003 Q24 (.br (.nt (.cl 1002 0 1)) (.new 1004 Q26 (.new 1005 Q27 (.leaf [(.c 0), (.c 0), (.c 0), (.c 0), (.c 0), (.c 3)]))) (.new 1004 Q26 (.new 1005 Q27 (.br (.nt (.cl 1003 0 1)) (.leaf [(.c 0), (.c 0), (.c 0), (.c 0), (.c 0), (.c 3)]) (.br (.nt (.cl 1005 0 1)) (.leaf [(.c 0), (.c 0), (.c 0), (.c 0), (.c 0), (.c 3)]) (.br (tl (.c 0) Q28) (.br (tk (.c 0) Q28) (.leaf [(.c 0), (.c 0), (.c 0), (.c 0), (.c 0), (.c 3)]) (.new 1006 (.f 141 (.v 0) Q29 (tC Q30 Q3)) (.br (tn (.cl 1006 0 6) (.c 0)) (.leaf [(.c 0), (.c 0), (.c 0), (.c 0), (.c 0), (.cl 1006 0 6)]) (.leaf [(.v 0), Q29, Q30, (.c 0), (.c 0), (.c 0)])))) (.bad 200)))))))) (.bad 200)) (.bad 200)) (.bad 200)) (.bad 200))) (.bad 200)))))) (.bad
 200)) (.bad 200)) (.bad 200)) (.bad 200))) (.bad 200)) (.bad 200)) (.bad 200))
noncomputable def sq0 : Int := (cupZ (kZ 0 (kZ 0 0)) (kZ 1 (kZ (kZ 114 0) 0)))
noncomputable def sq1 (b : Int) : Int := (cupZ (rdZ (wrdC b) (1 + 1)) (kZ 1 (kZ (kZ 114 0) 0)))
def sL0 (b z0 z2 z4 z10 : Int) : Prop := (z0 : Int) = (parZ b 0) ∧ (z2 : Int) = (parZ b 1) ∧ (z4 : Int) = (parZ b 2) ∧ (0 : Int) = (parZ b 3) ∧ (0 : Int) = (parZ b 4) ∧ (z10 : Int) = (parE b) ∧ True
def sq2 (b : Int) : Prop := (Pn (cupK (kZ 0 (kZ 0 0)) (kZ 1 (kZ (kZ 114 0) 0))) 0 1 fun y3 => Pn (numZ sq0) (-999999999) 999999999 fun y4 => Pn (numK sq0) 0 1 fun y5 => (sL0 b 0 0 0 3))
def P (a b : Int) : Prop :=
 (Pm (Pl 0 (wrdN b)) (Pm (PL 1 (wrdN b)) (Pm (PL 0 ((wrdN b) - 1)) (Pb (Pe ((wrdN b) - 1) 0) (Pn (cupK (kZ 0 (kZ 0 0)) (kZ 1 (kZ (kZ 114 0) 0))) 0 1 fun y0 => Pn (numZ sq0) (-999999999) 999999999 fun y1 => Pn (numK sq0) 0 1 fun y2 => (sL0 b 0 0 0 3)) (Pm (Pl 0 ((wrdN b) - 1)) (Pm (Pl 1 (wrdN b)) (Pm (PL 1 ((wrdN b) - 1)) (Pm (PL (1 + ((wrdN b) - 1)) (wrdN b)) (Pn (cupK (rdZ (wrdC b) 1) (kZ 1 (kZ (kZ 114 0) 0))) 0 1 fun y0 => Pn (numZ (cupZ (rdZ (wrdC b) 1) (kZ 1 (kZ (kZ 114 0) 0)))) (-999999999) 999999999 fun y1 => Pn (numK (cupZ (rdZ (wrdC b) 1) (kZ 1 (kZ (kZ 114 0) 0)))) 0 1 fun y2 => (Pb (Pe y0 0) (Pm (PL 0 (((wrdN b) - 1) - 1)) (Pb (Pe (((wrdN b) - 1) - 1) 0) (sq2 b) (Pm (Pl 0 (((wrdN b) - 1) - 1)) (Pm (Pl (1 + 1) (wrdN b)) (Pm (PL 1 (((wrdN b) - 1) - 1)) (Pm (PL ((1 + 1) + (((wrdN b)
 - 1) - 1)) (wrdN b)) (Pn (cupK (rdZ (wrdC b) (1 + 1)) (kZ 1 (kZ (kZ 114 0) 0))) 0 1 fun y3 => Pn (numZ (sq1 b)) (-999999999) 999999999 fun y4 => Pn (numK (sq1 b)) 0 1 fun y5 => (sL0 b 0 0 0 3)))))))) (Pm (PL 0 (((wrdN b) - 1) - 1)) (Pb (Pe (((wrdN b) - 1) - 1) 0) (sq2 b) (Pm (Pl 0 (((wrdN b) - 1) - 1)) (Pm (Pl (1 + 1) (wrdN b)) (Pm (PL 1 (((wrdN b) - 1) - 1)) (Pm (PL ((1 + 1) + (((wrdN b) - 1) - 1)) (wrdN b)) (Pn (cupK (rdZ (wrdC b) (1 + 1)) (kZ 1 (kZ (kZ 114 0) 0))) 0 1 fun y3 => (Pb (Pe y2 0) (Pn (numZ (sq1 b)) (-999999999) 999999999 fun y4 => Pn (numK (sq1 b)) 0 1 fun y5 => (sL0 b 0 0 0 3)) (Pn (numZ (sq1 b)) (-999999999) 999999999 fun y4 => Pn (numK (sq1 b)) 0 1 fun y5 => (Pb (Pe y3 0) (sL0 b 0 0 0 3) (Pb (Pe y5 0) (sL0 b 0 0 0 3) (Pm (PL 0 ((((wrdN b) - 1) - 1) - 1)) (Pb (Pl 0
 ((((wrdN b) - 1) - 1) - 1)) (sL0 b 0 0 0 3) (Pn (cckZ a y1 (kZ y4 (kZ 0 (kZ 0 0)))) 0 6 fun y6 => (Pb (Pd y6 0) (sL0 b 0 0 0 y6) (sL0 b a y1 y4 0))))))))))))))))))))))))))
theorem cup_r (x : Int) : (cupK x (qQq 1 (qQq (qQq 114 0) 0)) = 0 ∧ ¬ (1 ≤ qQz x ∧ ¬ seqZ (qQq 1 (qQq (qQv (rdZ x 1) 0) 0)) (qQq 1 (qQq (qQq 114 0) 0)) = 0)) ∨
  (cupK x (qQq 1 (qQq (qQq 114 0) 0)) = 1 ∧ 1 ≤ qQz x ∧ ¬ seqZ (qQq 1 (qQq (qQv (rdZ x 1) 0) 0)) (qQq 1 (qQq (qQq 114 0) 0)) = 0 ∧
   numK (cupZ x (qQq 1 (qQq (qQq 114 0) 0))) = numK (qQq (qQz x - 1) (qQq (qQv (rdZ x 1) 1) 0)) ∧ numZ (cupZ x (qQq 1 (qQq (qQq 114 0) 0))) = numZ (qQq (qQz x - 1) (qQq (qQv (rdZ x 1) 1) 0))) := by
 have h1 := qZm (qQq (qQq 114 0) 0)
 by_cases h : 1 ≤ qQz x ∧ ¬ seqZ (qQq 1 (qQq (qQv (rdZ x 1) 0) 0)) (qQq 1 (qQq (qQq 114 0) 0)) = 0
 ·have hk : cupK x (qQq 1 (qQq (qQq 114 0) 0)) = 1 := by unfold cupK; rw [h1]; exact if_pos h
  have hz : cupZ x (qQq 1 (qQq (qQq 114 0) 0)) = qQq (qQz x - 1) (qQq (qQv (rdZ x 1) 1) 0) := by unfold cupZ; rw [hk, h1]; rfl
  exact .inr ⟨hk, h.1, h.2, by rw [hz], by rw [hz]⟩
 ·have hk : cupK x (qQq 1 (qQq (qQq 114 0) 0)) = 0 := by unfold cupK; rw [h1]; exact if_neg h
  exact .inl ⟨hk, h⟩
theorem cup_y {x : Int} (h : cupK x (qQq 1 (qQq (qQq 114 0) 0)) = 1) : cupZ x (qQq 1 (qQq (qQq 114 0) 0)) = qQq (qQz x - 1) (qQq (qQv (rdZ x 1) 1) 0) ∧ True := by
 refine ⟨?_, trivial⟩
 unfold cupZ; rw [h, qZm]; rfl
set_option maxHeartbeats 40000000 in
theorem holds (o s : Int) (l_o : 24 ≤ o) (u_o : o ≤ 30) (h_pre0 : (2 : Int) ≠ 0) (h_pre1 : (1 : Int) ≠ 0) (h_pre2 : qQx (decide ((qQz s)  ≤  100000)) ≠ 0) (h_pre3 : qQx ((wrdN s)  !=  0) ≠ 0) (h_pre4 : qQx ((opfZ (rdZ (wrdC s) 0))  ==  o) ≠ 0) : P o s := by
 delta P sq0 sq1 sq2 sL0 Pb Pm Pn PL Pl Pe Pd kZ
 have hw0 := (qYe s).1
 clear h_pre0 h_pre1
 simp only [nrm, Int.reduceEq, Int.reduceNeg, reduceIte, qYc, Int.reduceAdd, slen_0, qZm] at h_pre2 h_pre3 h_pre4 ⊢
 have ho := h_pre4
 clear h_pre4
 have hs : (24 ≤ o ∧ o ≤ 30) := by omega
 have hr := hs
 obtain ⟨hY, hN⟩ := parF_1 ho hr (by omega)
 have q1 := cup_r (rdZ (wrdC s) 1)
 have q2 := cup_r (rdZ (wrdC s) 2)
 rcases Classical.em _ with hC | hC
 rotate_left
 ·have hG := hN hC
  clear hY hN
  unfold parF at hG
  simp only [Int.reduceEq, if_false] at hG
  obtain ⟨g1, g2, g3, g4, g5, g6⟩ := hG
  rw [g1, g2, g3, g4, g5, g6]
  clear g1 g2 g3 g4 g5 g6
  repeat' (first | (constructor <;> intro _) | (intro _ hy _; subst hy))
  all_goals first
   | (exact ⟨rfl, rfl, rfl, rfl, rfl, rfl⟩)
   | (exfalso; omega)
 ·have hG := hY hC
  clear hY hN
  unfold parF at hG
  obtain ⟨g1, g2, g3, g4, g5, g6⟩ := hG
  rw [g1, g2, g3, g4, g5, g6]
  clear g1 g2 g3 g4 g5 g6
  have c1 : cupK (rdZ (wrdC s) 1) (qQq 1 (qQq (qQq 114 0) 0)) = 1 := by omega
  obtain ⟨v1, x1⟩ := cup_y c1
  have c2 : cupK (rdZ (wrdC s) 2) (qQq 1 (qQq (qQq 114 0) 0)) = 1 := by omega
  obtain ⟨v2, x2⟩ := cup_y c2
  simp only [v1, v2]
  clear v1 x1 q1 v2 x2 q2
  repeat' (first | (constructor <;> intro _) | (intro _ hy _; subst hy))
  all_goals first
   | (exfalso; omega)
   | omega
theorem plain (i v ro p) : statH 2 rk tree ⟨i, fN, v, ro, p⟩ = P (i 0) (i 1) := by kernel_rfl
theorem ran : ranH us (fun f _ => if [7].contains f then .unroll 400 else .auto) rk 2 tree = true := by kernel_rfl
theorem fineT : fineH 2 rk tree = true := by kernel_rfl
theorem ok : RhOk (cxOf 2) rk.rh := okH us_ok ran fineT (by kernel_rfl) okk fun i v ro p hρ hpre => by rw [plain]; have q := hρ.hi; exact holds _ _ (q 0 _ rfl).1 (q 0 _ rfl).2 (hpre _ (mg 0 rfl)) (hpre _ (mg 1 rfl)) (hpre _ (mg 2 rfl)) (hpre _ (mg 3 rfl)) (hpre _ (mg 4 rfl))
end CLPb
namespace CLPf
def rk : Rk := ⟨7, [(31, 31)], 2, [.str (.v 1)], [], [(.c 2), (.c 1), (.b .le .i64 (.f 21 (.v 1) (.c 0) (.c 0)) (.c 100000)), (.b .ne .i64 (.f 136 (.v 1) (.c 0) (.c 0)) (.c 0)), (.b .eq .i64 (.f 90 (.f 13 (.f 137 (.v 1) (.c 0) (.c 0)) (.c 0) (.c 0)) (.c 0) (.c 0)) (.v 0))], .tup [.agg [.int .i64 (.v 1000000), .int .i64 (.v 1000001), .int .i64 (.v 1000002), .int .i64 (.v 1000003), .int .i64 (.v 1000004)], .int .i64 (.v 1000005)], [], [.num (.f 143 (.v 1) (.c 0) (.c 0)), .num (.f 143 (.v 1) (.c 1) (.c 0)), .num (.f 143 (.v 1) (.c 2) (.c 0)), .num (.f 143 (.v 1) (.c 3) (.c 0)), .num (.f 143 (.v 1) (.c 4) (.c 0)), .num (.f 144 (.v 1) (.c 0) (.c 0))], []⟩
theorem okk : rk.ok = true := by kernel_rfl
theorem okh : rk.rh.ok = true := by kernel_rfl
noncomputable def us : SMs := fun Γ ins n => smH (cxG n Γ ins) [] (smR (cxG n Γ ins) [CCChk.rc, CLWords.rc, CLNumber.rc, COFind.rc, CLCut.rc])
theorem us_ok : SMsOk us := fun Γ ins n => qZb (tabsG n Γ ins) (qQs _) (qZw (tabsG n Γ ins) (qQw CCChk.okb (rc_n CCChk.ok) (qQw CLWords.okb (rc_n CLWords.ok) (qQw CLNumber.okb (rc_n CLNumber.ok) (qQw COFind.okb (rc_n COFind.ok) (qQw CLCut.okb (rc_n CLCut.ok) (qQt _)))))))
def Q0 : E := (.f 136 (.v 1) (.c 0) (.c 0))
def Q1 : E := (.b .psub .i64 Q0 (.c 1))
def Q2 : E := (tl (.c 0) Q1)
def Q3 : E := (te Q1 (.c 0))
def Q4 : E := (tC (.c 0) (.c 0))
def Q5 : E := (tC (.c 0) Q4)
def Q6 : E := (tC (.c 114) (.c 0))
def Q7 : E := (tC Q6 (.c 0))
def Q8 : E := (tC (.c 1) Q7)
def Q9 : E := (.f 148 Q5 Q8 (.c 0))
def Q10 : E := (.f 147 Q5 Q8 (.c 0))
def Q11 : E := (.f 139 Q10 (.c 0) (.c 0))
def Q12 : E := (.f 138 Q10 (.c 0) (.c 0))
def Q13 : E := (.f 139 Q5 (.c 0) (.c 0))
def Q14 : E := (.f 138 Q5 (.c 0) (.c 0))
def Q15 : E := (tk (.c 0) Q1)
def Q16 : E := (tk (.c 1) Q0)
def Q17 : E := (tl (.c 1) Q1)
def Q18 : E := (tp (.c 1) Q1)
def Q19 : E := (tl Q18 Q0)
def Q20 : E := (.f 137 (.v 1) (.c 0) (.c 0))
def Q21 : E := (tR Q20 (.c 1))
def Q22 : E := (.f 148 Q21 Q8 (.c 0))
def Q23 : E := (.f 147 Q21 Q8 (.c 0))
def Q24 : E := (.f 139 Q23 (.c 0) (.c 0))
def Q25 : E := (.f 138 Q23 (.c 0) (.c 0))
def Q26 : E := (.b .psub .i64 Q1 (.c 1))
def Q27 : E := (tl (.c 0) Q26)
def Q28 : E := (te Q26 (.c 0))
def Q29 : E := (tk (.c 0) Q26)
def Q30 : E := (tp (.c 1) (.c 1))
def Q31 : E := (tk Q30 Q0)
def Q32 : E := (tl (.c 1) Q26)
def Q33 : E := (tp Q30 Q26)
def Q34 : E := (tl Q33 Q0)
def Q35 : E := (tR Q20 Q30)
def Q36 : E := (.f 148 Q35 Q8 (.c 0))
def Q37 : E := (.f 147 Q35 Q8 (.c 0))
def Q38 : E := (.f 139 Q37 (.c 0) (.c 0))
def Q39 : E := (.f 138 Q37 (.c 0) (.c 0))
def Q40 : E := (.b .psub .i64 Q26 (.c 1))
def Q41 : E := (tl (.c 0) Q40)
def Q42 : E := (te Q40 (.c 0))
def Q43 : E := (tk (.c 0) Q40)
def Q44 : E := (tp Q30 (.c 1))
def Q45 : E := (tk Q44 Q0)
def Q46 : E := (tl (.c 1) Q40)
def Q47 : E := (tp Q44 Q40)
def Q48 : E := (tl Q47 Q0)
def Q49 : E := (tR Q20 Q44)
def Q50 : E := (.f 139 Q49 (.c 0) (.c 0))
def Q51 : E := (.f 138 Q49 (.c 0) (.c 0))
def Q52 : E := (.b .psub .i64 Q40 (.c 1))
def Q53 : E := (tl (.c 0) Q52)
def Q54 : E := (tk (.c 0) Q52)
def Q55 : E := (.cl 1001 (-999999999) 999999999)
def Q56 : E := (.cl 1004 (-999999999) 999999999)
def Q57 : E := (.cl 1006 (-999999999) 999999999)
def Q58 : E := (tC Q57 (.c 0))
def Q59 : E := (tC (.c 0) Q58)
def Q60 : E := (tC Q56 Q59)
def Q61 : E := (.f 141 (.v 0) Q55 Q60)
def Q62 : E := (tn (.cl 1008 0 6) (.c 0))
def tree : TT (List E) :=
 (.br (tk (.c 0) Q0) (.br (tl (.c 1) Q0) (.br (te (.v 0) (.c 31)) (.br Q2 (.br Q3 (.new 1000 Q9 (.new 1001 Q11 (.new 1002 Q12 (.new 1003 Q13 (.new 1004 Q14 (.leaf [(.c 0), (.c 0), (.c 0), (.c 0), (.c 0), (.c 3)])))))) (.br Q15 (.br Q16 (.br Q17 (.br Q19 (.new 1000 Q22 (.new 1001 Q24 (.new 1002 Q25 (.br (.nt (.cl 1000 0 1)) (.br Q27 (.br Q28 (.new 1003 Q9 (.new 1004 Q11 (.new 1005 Q12 (.new 1006 Q13 (.new 1007 Q14 (.leaf [(.c 0), (.c 0), (.c 0), (.c 0), (.c 0), (.c 3)])))))) (.br Q29 (.br Q31 (.br Q32 (.br Q34 (.new 1003 Q36 (.new 1004 Q38 (.new 1005 Q39 (.br Q41 (.br Q42 (.new 1006 Q13 (.new 1007 Q14 (.leaf [(.c 0), (.c 0), (.c 0), (.c 0), (.c 0), (.c 3)]))) (.br Q43 (.br Q45 (.br Q46 (.br Q48 (.new 1006 Q50 (.new 1007 Q51 (.leaf [(.c 0), (.c 0), (.c 0), (.c 0), (.c 0), (.c 3)]))) (.bad
 200)) (.bad 200)) (.bad 200)) (.bad 200))) (.bad 200))))) (.bad 200)) (.bad 200)) (.bad 200)) (.bad 200))) (.bad 200)) (.br Q27 (.br Q28 (.new 1003 Q9 (.new 1004 Q11 (.new 1005 Q12 (.new 1006 Q13 (.new 1007 Q14 (.leaf [(.c 0), (.c 0), (.c 0), (.c 0), (.c 0), (.c 3)])))))) (.br Q29 (.br Q31 (.br Q32 (.br Q34 (.new 1003 Q36 (.br (.nt (.cl 1002 0 1)) (.new 1004 Q38 (.new 1005 Q39 (.br Q41 (.br Q42 (.new 1006 Q13 (.new 1007 Q14 (.leaf [(.c 0), (.c 0), (.c 0), (.c 0), (.c 0), (.c 3)]))) (.br Q43 (.br Q45 (.br Q46 (.br Q48 (.new 1006 Q50 (.new 1007 Q51 (.leaf [(.c 0), (.c 0), (.c 0), (.c 0), (.c 0), (.c 3)]))) (.bad 200)) (.bad 200)) (.bad 200)) (.bad 200))) (.bad 200)))) (.new 1004 Q38 (.new 1005 Q39 (.br (.nt (.cl 1003 0 1)) (.br Q41 (.br Q42 (.new 1006 Q13 (.new 1007 Q14 (.leaf [(.c 0), (.c
 0), (.c 0), (.c 0), (.c 0), (.c 3)]))) (.br Q43 (.br Q45 (.br Q46 (.br Q48 (.new 1006 Q50 (.new 1007 Q51 (.leaf [(.c 0), (.c 0), (.c 0), (.c 0), (.c 0), (.c 3)]))) (.bad 200)) (.bad 200)) (.bad 200)) (.bad 200))) (.bad 200)) (.br Q41 (.br Q42 (.new 1006 Q13 (.new 1007 Q14 (.leaf [(.c 0), (.c 0), (.c 0), (.c 0), (.c 0), (.c 3)]))) (.br Q43 (.br Q45 (.br Q46 (.br Q48 (.new 1006 Q50 (.new 1007 Q51 (.br (.nt (.cl 1005 0 1)) (.leaf [(.c 0), (.c 0), (.c 0), (.c 0), (.c 0), (.c 3)]) (.br (.nt (.cl 1007 0 1)) (.leaf [(.c 0), (.c 0), (.c 0), (.c 0), (.c 0), (.c 3)]) (.br Q53 (.br Q54 (.leaf [(.c 0), (.c 0), (.c 0), (.c 0), (.c 0), (.c 3)]) (.new 1008 Q61 (.br Q62 (.leaf [(.c 0), (.c 0), (.c 0), (.c 0), (.c 0), (.cl 1008 0 6)]) (.leaf [(.v 0), Q55, Q56, (.c 0), Q57, (.c 0)])))) (.bad 200))))))
 (.bad 200)) (.bad 200)) (.bad 200)) (.bad 200))) (.bad 200))))))) (.bad 200)) (.bad 200)) (.bad 200)) (.bad 200))) (.bad 200)))))) (.bad 200)) (.bad 200)) (.bad 200)) (.bad 200))) (.bad 200)) (.br Q2 (.br Q3 (.new 1000 Q9 (.new 1001 Q11 (.new 1002 Q12 (.new 1003 Q13 (.new 1004 Q14 (.leaf [(.c 0), (.c 0), (.c 0), (.c 0), (.c 0), (.c 3)])))))) (.br Q15 (.br Q16 (.br Q17 (.br Q19 (.new 1000 Q22 (.new 1001 Q24 (.new 1002 Q25 (.br (.nt (.cl 1000 0 1)) (.br Q27 (.br Q28 (.new 1003 Q9 (.new 1004 Q11 (.new 1005 Q12 (.new 1006 Q13 (.new 1007 Q14 (.leaf [(.c 0), (.c 0), (.c 0), (.c 0), (.c 0), (.c 3)])))))) (.br Q29 (.br Q31 (.br Q32 (.br Q34 (.new 1003 Q36 (.new 1004 Q38 (.new 1005 Q39 (.br Q41 (.br Q42 (.new 1006 Q13 (.new 1007 Q14 (.leaf [(.c 0), (.c 0), (.c 0), (.c 0), (.c 0), (.c 3)]))) (.br
 Q43 (.br Q45 (.br Q46 (.br Q48 (.new 1006 Q50 (.new 1007 Q51 (.leaf [(.c 0), (.c 0), (.c 0), (.c 0), (.c 0), (.c 3)]))) (.bad 200)) (.bad 200)) (.bad 200)) (.bad 200))) (.bad 200))))) (.bad 200)) (.bad 200)) (.bad 200)) (.bad 200))) (.bad 200)) (.br Q27 (.br Q28 (.new 1003 Q9 (.new 1004 Q11 (.new 1005 Q12 (.new 1006 Q13 (.new 1007 Q14 (.leaf [(.c 0), (.c 0), (.c 0), (.c 0), (.c 0), (.c 3)])))))) (.br Q29 (.br Q31 (.br Q32 (.br Q34 (.new 1003 Q36 (.br (.nt (.cl 1002 0 1)) (.new 1004 Q38 (.new 1005 Q39 (.br Q41 (.br Q42 (.new 1006 Q13 (.new 1007 Q14 (.leaf [(.c 0), (.c 0), (.c 0), (.c 0), (.c 0), (.c 3)]))) (.br Q43 (.br Q45 (.br Q46 (.br Q48 (.new 1006 Q50 (.new 1007 Q51 (.leaf [(.c 0), (.c 0), (.c 0), (.c 0), (.c 0), (.c 3)]))) (.bad 200)) (.bad 200)) (.bad 200)) (.bad 200))) (.bad
 200)))) (.new 1004 Q38 (.new 1005 Q39 (.br (.nt (.cl 1003 0 1)) (.br Q41 (.br Q42 (.new 1006 Q13 (.new 1007 Q14 (.leaf [(.c 0), (.c 0), (.c 0), (.c 0), (.c 0), (.c 3)]))) (.br Q43 (.br Q45 (.br Q46 (.br Q48 (.new 1006 Q50 (.new 1007 Q51 (.leaf [(.c 0), (.c 0), (.c 0), (.c 0), (.c 0), (.c 3)]))) (.bad 200)) (.bad 200)) (.bad 200)) (.bad 200))) (.bad 200)) (.br Q41 (.br Q42 (.new 1006 Q13 (.new 1007 Q14 (.leaf [(.c 0), (.c 0), (.c 0), (.c 0), (.c 0), (.c 3)]))) (.br Q43 (.br Q45 (.br Q46 (.br Q48 (.new 1006 Q50 (.new 1007 Q51 (.br (.nt (.cl 1005 0 1)) (.leaf [(.c 0), (.c 0), (.c 0), (.c 0), (.c 0), (.c 3)]) (.br (.nt (.cl 1007 0 1)) (.leaf [(.c 0), (.c 0), (.c 0), (.c 0), (.c 0), (.c 3)]) (.br Q53 (.br Q54 (.leaf [(.c 0), (.c 0), (.c 0), (.c 0), (.c 0), (.c 3)]) (.new 1008 Q61 (.br Q62
 (.leaf [(.c 0), (.c 0), (.c 0), (.c 0), (.c 0), (.cl 1008 0 6)]) (.leaf [(.v 0), Q55, Q56, (.c 0), Q57, (.c 0)])))) (.bad 200)))))) (.bad 200)) (.bad 200)) (.bad 200)) (.bad 200))) (.bad 200))))))) (.bad 200)) (.bad 200)) (.bad 200)) (.bad 200))) (.bad 200)))))) (.bad 200)) (.bad 200)) (.bad 200)) (.bad 200))) (.bad 200))) (.bad 200)) (.bad 200))
noncomputable def sq0 : Int := (cupZ (kZ 0 (kZ 0 0)) (kZ 1 (kZ (kZ 114 0) 0)))
noncomputable def sq1 (b : Int) : Int := (cupZ (rdZ (wrdC b) (1 + 1)) (kZ 1 (kZ (kZ 114 0) 0)))
noncomputable def sq2 (b : Int) : Int := (PL (((1 + 1) + 1) + ((((wrdN b) - 1) - 1) - 1)) (wrdN b))
noncomputable def sq3 : Int := (cupK (kZ 0 (kZ 0 0)) (kZ 1 (kZ (kZ 114 0) 0)))
def sL0 (b z0 z2 z4 z8 z10 : Int) : Prop := (z0 : Int) = (parZ b 0) ∧ (z2 : Int) = (parZ b 1) ∧ (z4 : Int) = (parZ b 2) ∧ (0 : Int) = (parZ b 3) ∧ (z8 : Int) = (parZ b 4) ∧ (z10 : Int) = (parE b) ∧ True
def sq4 (b a : Int) : Prop := (Pm (PL 0 ((wrdN b) - 1)) (Pb (Pe ((wrdN b) - 1) 0) (Pn sq3 0 1 fun y0 => Pn (numZ sq0) (-999999999) 999999999 fun y1 => Pn (numK sq0) 0 1 fun y2 => Pn (numZ (kZ 0 (kZ 0 0))) (-999999999) 999999999 fun y3 => Pn (numK (kZ 0 (kZ 0 0))) 0 1 fun y4 => (sL0 b 0 0 0 0 3)) (Pm (Pl 0 ((wrdN b) - 1)) (Pm (Pl 1 (wrdN b)) (Pm (PL 1 ((wrdN b) - 1)) (Pm (PL (1 + ((wrdN b) - 1)) (wrdN b)) (Pn (cupK (rdZ (wrdC b) 1) (kZ 1 (kZ (kZ 114 0) 0))) 0 1 fun y0 => Pn (numZ (cupZ (rdZ (wrdC b) 1) (kZ 1 (kZ (kZ 114 0) 0)))) (-999999999) 999999999 fun y1 => Pn (numK (cupZ (rdZ (wrdC b) 1) (kZ 1 (kZ (kZ 114 0) 0)))) 0 1 fun y2 => (Pb (Pe y0 0) (Pm (PL 0 (((wrdN b) - 1) - 1)) (Pb (Pe (((wrdN b) - 1) - 1) 0) (Pn sq3 0 1 fun y3 => Pn (numZ sq0) (-999999999) 999999999 fun y4 => Pn (numK
 sq0) 0 1 fun y5 => Pn (numZ (kZ 0 (kZ 0 0))) (-999999999) 999999999 fun y6 => Pn (numK (kZ 0 (kZ 0 0))) 0 1 fun y7 => (sL0 b 0 0 0 0 3)) (Pm (Pl 0 (((wrdN b) - 1) - 1)) (Pm (Pl (1 + 1) (wrdN b)) (Pm (PL 1 (((wrdN b) - 1) - 1)) (Pm (PL ((1 + 1) + (((wrdN b) - 1) - 1)) (wrdN b)) (Pn (cupK (rdZ (wrdC b) (1 + 1)) (kZ 1 (kZ (kZ 114 0) 0))) 0 1 fun y3 => Pn (numZ (sq1 b)) (-999999999) 999999999 fun y4 => Pn (numK (sq1 b)) 0 1 fun y5 => (Pm (PL 0 ((((wrdN b) - 1) - 1) - 1)) (Pb (Pe ((((wrdN b) - 1) - 1) - 1) 0) (Pn (numZ (kZ 0 (kZ 0 0))) (-999999999) 999999999 fun y6 => Pn (numK (kZ 0 (kZ 0 0))) 0 1 fun y7 => (sL0 b 0 0 0 0 3)) (Pm (Pl 0 ((((wrdN b) - 1) - 1) - 1)) (Pm (Pl ((1 + 1) + 1) (wrdN b)) (Pm (PL 1 ((((wrdN b) - 1) - 1) - 1)) (Pm (sq2 b) (Pn (numZ (rdZ (wrdC b) ((1 + 1) + 1)))
 (-999999999) 999999999 fun y6 => Pn (numK (rdZ (wrdC b) ((1 + 1) + 1))) 0 1 fun y7 => (sL0 b 0 0 0 0 3))))))))))))))) (Pm (PL 0 (((wrdN b) - 1) - 1)) (Pb (Pe (((wrdN b) - 1) - 1) 0) (Pn sq3 0 1 fun y3 => Pn (numZ sq0) (-999999999) 999999999 fun y4 => Pn (numK sq0) 0 1 fun y5 => Pn (numZ (kZ 0 (kZ 0 0))) (-999999999) 999999999 fun y6 => Pn (numK (kZ 0 (kZ 0 0))) 0 1 fun y7 => (sL0 b 0 0 0 0 3)) (Pm (Pl 0 (((wrdN b) - 1) - 1)) (Pm (Pl (1 + 1) (wrdN b)) (Pm (PL 1 (((wrdN b) - 1) - 1)) (Pm (PL ((1 + 1) + (((wrdN b) - 1) - 1)) (wrdN b)) (Pn (cupK (rdZ (wrdC b) (1 + 1)) (kZ 1 (kZ (kZ 114 0) 0))) 0 1 fun y3 => (Pb (Pe y2 0) (Pn (numZ (sq1 b)) (-999999999) 999999999 fun y4 => Pn (numK (sq1 b)) 0 1 fun y5 => (Pm (PL 0 ((((wrdN b) - 1) - 1) - 1)) (Pb (Pe ((((wrdN b) - 1) - 1) - 1) 0) (Pn (numZ (kZ
 0 (kZ 0 0))) (-999999999) 999999999 fun y6 => Pn (numK (kZ 0 (kZ 0 0))) 0 1 fun y7 => (sL0 b 0 0 0 0 3)) (Pm (Pl 0 ((((wrdN b) - 1) - 1) - 1)) (Pm (Pl ((1 + 1) + 1) (wrdN b)) (Pm (PL 1 ((((wrdN b) - 1) - 1) - 1)) (Pm (sq2 b) (Pn (numZ (rdZ (wrdC b) ((1 + 1) + 1))) (-999999999) 999999999 fun y6 => Pn (numK (rdZ (wrdC b) ((1 + 1) + 1))) 0 1 fun y7 => (sL0 b 0 0 0 0 3))))))))) (Pn (numZ (sq1 b)) (-999999999) 999999999 fun y4 => Pn (numK (sq1 b)) 0 1 fun y5 => (Pb (Pe y3 0) (Pm (PL 0 ((((wrdN b) - 1) - 1) - 1)) (Pb (Pe ((((wrdN b) - 1) - 1) - 1) 0) (Pn (numZ (kZ 0 (kZ 0 0))) (-999999999) 999999999 fun y6 => Pn (numK (kZ 0 (kZ 0 0))) 0 1 fun y7 => (sL0 b 0 0 0 0 3)) (Pm (Pl 0 ((((wrdN b) - 1) - 1) - 1)) (Pm (Pl ((1 + 1) + 1) (wrdN b)) (Pm (PL 1 ((((wrdN b) - 1) - 1) - 1)) (Pm (sq2 b) (Pn
 (numZ (rdZ (wrdC b) ((1 + 1) + 1))) (-999999999) 999999999 fun y6 => Pn (numK (rdZ (wrdC b) ((1 + 1) + 1))) 0 1 fun y7 => (sL0 b 0 0 0 0 3)))))))) (Pm (PL 0 ((((wrdN b) - 1) - 1) - 1)) (Pb (Pe ((((wrdN b) - 1) - 1) - 1) 0) (Pn (numZ (kZ 0 (kZ 0 0))) (-999999999) 999999999 fun y6 => Pn (numK (kZ 0 (kZ 0 0))) 0 1 fun y7 => (sL0 b 0 0 0 0 3)) (Pm (Pl 0 ((((wrdN b) - 1) - 1) - 1)) (Pm (Pl ((1 + 1) + 1) (wrdN b)) (Pm (PL 1 ((((wrdN b) - 1) - 1) - 1)) (Pm (sq2 b) (Pn (numZ (rdZ (wrdC b) ((1 + 1) + 1))) (-999999999) 999999999 fun y6 => Pn (numK (rdZ (wrdC b) ((1 + 1) + 1))) 0 1 fun y7 => (Pb (Pe y5 0) (sL0 b 0 0 0 0 3) (Pb (Pe y7 0) (sL0 b 0 0 0 0 3) (Pm (PL 0 (((((wrdN b) - 1) - 1) - 1) - 1)) (Pb (Pl 0 (((((wrdN b) - 1) - 1) - 1) - 1)) (sL0 b 0 0 0 0 3) (Pn (cckZ a y1 (kZ y4 (kZ 0 (kZ y6 0))))
 0 6 fun y8 => (Pb (Pd y8 0) (sL0 b 0 0 0 0 y8) (sL0 b a y1 y4 y6 0))))))))))))))))))))))))))))))))
def P (a b : Int) : Prop :=
 (Pm (Pl 0 (wrdN b)) (Pm (PL 1 (wrdN b)) (Pb (Pe a 31) (sq4 b a) (sq4 b a))))
theorem cup_r (x : Int) : (cupK x (qQq 1 (qQq (qQq 114 0) 0)) = 0 ∧ ¬ (1 ≤ qQz x ∧ ¬ seqZ (qQq 1 (qQq (qQv (rdZ x 1) 0) 0)) (qQq 1 (qQq (qQq 114 0) 0)) = 0)) ∨
  (cupK x (qQq 1 (qQq (qQq 114 0) 0)) = 1 ∧ 1 ≤ qQz x ∧ ¬ seqZ (qQq 1 (qQq (qQv (rdZ x 1) 0) 0)) (qQq 1 (qQq (qQq 114 0) 0)) = 0 ∧
   numK (cupZ x (qQq 1 (qQq (qQq 114 0) 0))) = numK (qQq (qQz x - 1) (qQq (qQv (rdZ x 1) 1) 0)) ∧ numZ (cupZ x (qQq 1 (qQq (qQq 114 0) 0))) = numZ (qQq (qQz x - 1) (qQq (qQv (rdZ x 1) 1) 0))) := by
 have h1 := qZm (qQq (qQq 114 0) 0)
 by_cases h : 1 ≤ qQz x ∧ ¬ seqZ (qQq 1 (qQq (qQv (rdZ x 1) 0) 0)) (qQq 1 (qQq (qQq 114 0) 0)) = 0
 ·have hk : cupK x (qQq 1 (qQq (qQq 114 0) 0)) = 1 := by unfold cupK; rw [h1]; exact if_pos h
  have hz : cupZ x (qQq 1 (qQq (qQq 114 0) 0)) = qQq (qQz x - 1) (qQq (qQv (rdZ x 1) 1) 0) := by unfold cupZ; rw [hk, h1]; rfl
  exact .inr ⟨hk, h.1, h.2, by rw [hz], by rw [hz]⟩
 ·have hk : cupK x (qQq 1 (qQq (qQq 114 0) 0)) = 0 := by unfold cupK; rw [h1]; exact if_neg h
  exact .inl ⟨hk, h⟩
theorem cup_y {x : Int} (h : cupK x (qQq 1 (qQq (qQq 114 0) 0)) = 1) : cupZ x (qQq 1 (qQq (qQq 114 0) 0)) = qQq (qQz x - 1) (qQq (qQv (rdZ x 1) 1) 0) ∧ True := by
 refine ⟨?_, trivial⟩
 unfold cupZ; rw [h, qZm]; rfl
set_option maxHeartbeats 40000000 in
theorem holds (o s : Int) (l_o : 31 ≤ o) (u_o : o ≤ 31) (h_pre0 : (2 : Int) ≠ 0) (h_pre1 : (1 : Int) ≠ 0) (h_pre2 : qQx (decide ((qQz s)  ≤  100000)) ≠ 0) (h_pre3 : qQx ((wrdN s)  !=  0) ≠ 0) (h_pre4 : qQx ((opfZ (rdZ (wrdC s) 0))  ==  o) ≠ 0) : P o s := by
 delta P sq0 sq1 sq2 sq3 sq4 sL0 Pb Pm Pn PL Pl Pe Pd kZ
 have hw0 := (qYe s).1
 clear h_pre0 h_pre1
 simp only [nrm, Int.reduceEq, Int.reduceNeg, reduceIte, qYc, Int.reduceAdd, slen_0, qZm] at h_pre2 h_pre3 h_pre4 ⊢
 have ho := h_pre4
 clear h_pre4
 have hs : (o = 31) := by omega
 have hr := hs
 obtain ⟨hY, hN⟩ := parF_2 ho hr (by omega)
 have q1 := cup_r (rdZ (wrdC s) 1)
 have q2 := cup_r (rdZ (wrdC s) 2)
 rcases Classical.em _ with hC | hC
 rotate_left
 ·have hG := hN hC
  clear hY hN
  unfold parF at hG
  simp only [Int.reduceEq, if_false] at hG
  obtain ⟨g1, g2, g3, g4, g5, g6⟩ := hG
  rw [g1, g2, g3, g4, g5, g6]
  clear g1 g2 g3 g4 g5 g6
  repeat' (first | (constructor <;> intro _) | (intro _ hy _; subst hy))
  all_goals first
   | (exact ⟨rfl, rfl, rfl, rfl, rfl, rfl⟩)
   | (exfalso; omega)
 ·have hG := hY hC
  clear hY hN
  unfold parF at hG
  obtain ⟨g1, g2, g3, g4, g5, g6⟩ := hG
  rw [g1, g2, g3, g4, g5, g6]
  clear g1 g2 g3 g4 g5 g6
  have c1 : cupK (rdZ (wrdC s) 1) (qQq 1 (qQq (qQq 114 0) 0)) = 1 := by omega
  obtain ⟨v1, x1⟩ := cup_y c1
  have c2 : cupK (rdZ (wrdC s) 2) (qQq 1 (qQq (qQq 114 0) 0)) = 1 := by omega
  obtain ⟨v2, x2⟩ := cup_y c2
  simp only [v1, v2]
  clear v1 x1 q1 v2 x2 q2
  repeat' (first | (constructor <;> intro _) | (intro _ hy _; subst hy))
  all_goals first
   | (exfalso; omega)
   | omega
theorem plain (i v ro p) : statH 2 rk tree ⟨i, fN, v, ro, p⟩ = P (i 0) (i 1) := by kernel_rfl
theorem ran : ranH us (fun f _ => if [7].contains f then .unroll 400 else .auto) rk 2 tree = true := by kernel_rfl
theorem fineT : fineH 2 rk tree = true := by kernel_rfl
theorem ok : RhOk (cxOf 2) rk.rh := okH us_ok ran fineT (by kernel_rfl) okk fun i v ro p hρ hpre => by rw [plain]; have q := hρ.hi; exact holds _ _ (q 0 _ rfl).1 (q 0 _ rfl).2 (hpre _ (mg 0 rfl)) (hpre _ (mg 1 rfl)) (hpre _ (mg 2 rfl)) (hpre _ (mg 3 rfl)) (hpre _ (mg 4 rfl))
end CLPf
end Go.Proofs.YtppiabilakeadaaGreatDoor
