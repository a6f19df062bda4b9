/-
  What functions of the program answer, as numbers of what they are handed: their runs by the engine, the plain statements behind them. No condition.
-/
import Derived.Test.YtppiabilakeadaaGreatDoorKe
import Derived.Test.YtppiabilakeadaaGreatDoorKg
import Derived.Test.YtppiabilakeadaaGreatDoorKh
import Derived.Test.YtppiabilakeadaaGreatDoorGab
import Derived.Test.YtppiabilakeadaaGreatDoorGp3
set_option linter.unusedVariables false
set_option linter.unusedSimpArgs false
set_option maxRecDepth 100000
namespace Go.Proofs.YtppiabilakeadaaGreatDoor
open Go.Eng Go.RowKit
namespace CRPb
def rk : Rk := ⟨8, [(24, 31)], 2, [.str (.v 1)], [], [(.c 2), (.c 1), (.b .le .i64 (.f 21 (.v 1) (.c 0) (.c 0)) (.c 100000)), (.b .ne .i64 (.f 136 (.v 1) (.c 0) (.c 0)) (.c 0)), (.b .eq .i64 (.f 90 (.f 13 (.f 137 (.v 1) (.c 0) (.c 0)) (.c 0) (.c 0)) (.c 0) (.c 0)) (.v 0))], .tup [.agg [.int .i64 (.v 1000000), .int .i64 (.v 1000001), .int .i64 (.v 1000002), .int .i64 (.v 1000003), .int .i64 (.v 1000004)], .int .i64 (.v 1000005)], [], [.num (.f 143 (.v 1) (.c 0) (.c 0)), .num (.f 143 (.v 1) (.c 1) (.c 0)), .num (.f 143 (.v 1) (.c 2) (.c 0)), .num (.f 143 (.v 1) (.c 3) (.c 0)), .num (.f 143 (.v 1) (.c 4) (.c 0)), .num (.f 144 (.v 1) (.c 0) (.c 0))], []⟩
theorem okk : rk.ok = true := by kernel_rfl
theorem okh : rk.rh.ok = true := by kernel_rfl
noncomputable def us : SMs := fun Γ ins n => smH (cxG n Γ ins) [] (smR (cxG n Γ ins) [CRChk13.rc, CRWords14.rc, CRNumber14.rc, CRFind06.rc])
theorem us_ok : SMsOk us := fun Γ ins n => qZb (tabsG n Γ ins) (qQs _) (qZw (tabsG n Γ ins) (qQw CRChk13.okb (rc_n CRChk13.ok) (qQw CRWords14.okb (rc_n CRWords14.ok) (qQw CRNumber14.okb (rc_n CRNumber14.ok) (qQw CRFind06.okb (rc_n CRFind06.ok) (qQt _))))))
def Q0 : E := (.f 136 (.v 1) (.c 0) (.c 0))
def Q1 : E := (tl Q0 (.c 1))
def Q2 : E := (.f 137 (.v 1) (.c 0) (.c 0))
def Q3 : E := (tR Q2 (.c 1))
def Q4 : E := (.f 21 Q3 (.c 0) (.c 0))
def Q5 : E := (tk (.c 0) Q4)
def Q6 : E := (.f 22 Q3 (.c 0) (.c 0))
def Q7 : E := (tn Q6 (.c 114))
def Q8 : E := (tl (.c 1) Q4)
def Q9 : E := (.b .psub .i64 Q4 (.c 1))
def Q10 : E := (tR Q3 (.c 1))
def Q11 : E := (.f 18 Q10 (.c 1) (.c 0))
def Q12 : E := (tC Q11 (.c 0))
def Q13 : E := (tC Q9 Q12)
def Q14 : E := (.f 139 Q13 (.c 0) (.c 0))
def Q15 : E := (.f 138 Q13 (.c 0) (.c 0))
def Q16 : E := (tl Q0 (.c 2))
def Q17 : E := (tR Q2 (.c 2))
def Q18 : E := (.f 21 Q17 (.c 0) (.c 0))
def Q19 : E := (tk (.c 0) Q18)
def Q20 : E := (.f 22 Q17 (.c 0) (.c 0))
def Q21 : E := (tn Q20 (.c 114))
def Q22 : E := (tl (.c 1) Q18)
def Q23 : E := (.b .psub .i64 Q18 (.c 1))
def Q24 : E := (tR Q17 (.c 1))
def Q25 : E := (.f 18 Q24 (.c 1) (.c 0))
def Q26 : E := (tC Q25 (.c 0))
def Q27 : E := (tC Q23 Q26)
def Q28 : E := (.f 139 Q27 (.c 0) (.c 0))
def Q29 : E := (.f 138 Q27 (.c 0) (.c 0))
def Q30 : E := (.cl 1000 (-999999999) 999999999)
def Q31 : E := (.cl 1002 (-999999999) 999999999)
def Q32 : E := (tR Q2 (.c 3))
def Q33 : E := (.cl 1004 (-999999999) 999999999)
def tree : TT (List E) :=
 (.br (tk (.c 0) Q0) (.br (tl (.v 0) (.c 30)) (.br Q1 (.leaf [(.c 0), (.c 0), (.c 0), (.c 0), (.c 0), (.c 3)]) (.br Q5 (.br Q7 (.leaf [(.c 0), (.c 0), (.c 0), (.c 0), (.c 0), (.c 3)]) (.br Q8 (.new 1000 Q14 (.new 1001 Q15 (.br (.nt (.cl 1001 0 1)) (.leaf [(.c 0), (.c 0), (.c 0), (.c 0), (.c 0), (.c 3)]) (.br Q16 (.leaf [(.c 0), (.c 0), (.c 0), (.c 0), (.c 0), (.c 3)]) (.br Q19 (.br Q21 (.leaf [(.c 0), (.c 0), (.c 0), (.c 0), (.c 0), (.c 3)]) (.br Q22 (.new 1002 Q28 (.new 1003 Q29 (.br (.nt (.cl 1003 0 1)) (.leaf [(.c 0), (.c 0), (.c 0), (.c 0), (.c 0), (.c 3)]) (.br (tn (.c 3) Q0) (.leaf [(.c 0), (.c 0), (.c 0), (.c 0), (.c 0), (.c 3)]) (.new 1004 (.f 141 (.v 0) Q30 (tC Q31 (tC (.c 0) (tC (.c 0) (.c 0))))) (.br (tn (.cl 1004 0 6) (.c 0)) (.leaf [(.c 0), (.c 0), (.c 0), (.c 0), (.c 0),
 (.cl 1004 0 6)]) (.leaf [(.v 0), Q30, Q31, (.c 0), (.c 0), (.c 0)]))))))) (.bad 200))) (.bad 200)))))) (.bad 200))) (.bad 200))) (.br (te (.v 0) (.c 31)) (.br Q1 (.leaf [(.c 0), (.c 0), (.c 0), (.c 0), (.c 0), (.c 3)]) (.br Q5 (.br Q7 (.leaf [(.c 0), (.c 0), (.c 0), (.c 0), (.c 0), (.c 3)]) (.br Q8 (.new 1000 Q14 (.new 1001 Q15 (.br (.nt (.cl 1001 0 1)) (.leaf [(.c 0), (.c 0), (.c 0), (.c 0), (.c 0), (.c 3)]) (.br Q16 (.leaf [(.c 0), (.c 0), (.c 0), (.c 0), (.c 0), (.c 3)]) (.br Q19 (.br Q21 (.leaf [(.c 0), (.c 0), (.c 0), (.c 0), (.c 0), (.c 3)]) (.br Q22 (.new 1002 Q28 (.new 1003 Q29 (.br (.nt (.cl 1003 0 1)) (.leaf [(.c 0), (.c 0), (.c 0), (.c 0), (.c 0), (.c 3)]) (.br (tl Q0 (.c 3)) (.leaf [(.c 0), (.c 0), (.c 0), (.c 0), (.c 0), (.c 3)]) (.new 1004 (.f 139 Q32 (.c 0) (.c 0)) (.new
 1005 (.f 138 Q32 (.c 0) (.c 0)) (.br (.nt (.cl 1005 0 1)) (.leaf [(.c 0), (.c 0), (.c 0), (.c 0), (.c 0), (.c 3)]) (.br (tn (.c 4) Q0) (.leaf [(.c 0), (.c 0), (.c 0), (.c 0), (.c 0), (.c 3)]) (.new 1006 (.f 141 (.v 0) Q30 (tC Q31 (tC (.c 0) (tC Q33 (.c 0))))) (.br (tn (.cl 1006 0 6) (.c 0)) (.leaf [(.c 0), (.c 0), (.c 0), (.c 0), (.c 0), (.cl 1006 0 6)]) (.leaf [(.v 0), Q30, Q31, (.c 0), Q33, (.c 0)]))))))))))) (.bad 200))) (.bad 200)))))) (.bad 200))) (.bad 200))) (.bad 283))) (.bad 200))
noncomputable def sq0 (b : Int) : Int := (kZ ((qQz (rdZ (wrdC b) 2)) - 1) (kZ (qQv (rdZ (rdZ (wrdC b) 2) 1) 1) 0))
noncomputable def sq1 (b : Int) : Int := (kZ ((qQz (rdZ (wrdC b) 1)) - 1) (kZ (qQv (rdZ (rdZ (wrdC b) 1) 1) 1) 0))
def sL0 (b z0 z2 z4 z8 z10 : Int) : Prop := (z0 : Int) = (parZ b 0) ∧ (z2 : Int) = (parZ b 1) ∧ (z4 : Int) = (parZ b 2) ∧ (0 : Int) = (parZ b 3) ∧ (z8 : Int) = (parZ b 4) ∧ (z10 : Int) = (parE b) ∧ True
def P (a b : Int) : Prop :=
 (Pm (Pl 0 (wrdN b)) (Pb (PL a 30) (Pb (PL (wrdN b) 1) (sL0 b 0 0 0 0 3) (Pm (Pl 0 (qQz (rdZ (wrdC b) 1))) (Pb (Pd (qQy (rdZ (wrdC b) 1) 0) 114) (sL0 b 0 0 0 0 3) (Pm (PL 1 (qQz (rdZ (wrdC b) 1))) (Pn (numZ (sq1 b)) (-999999999) 999999999 fun y0 => Pn (numK (sq1 b)) 0 1 fun y1 => (Pb (Pe y1 0) (sL0 b 0 0 0 0 3) (Pb (PL (wrdN b) 2) (sL0 b 0 0 0 0 3) (Pm (Pl 0 (qQz (rdZ (wrdC b) 2))) (Pb (Pd (qQy (rdZ (wrdC b) 2) 0) 114) (sL0 b 0 0 0 0 3) (Pm (PL 1 (qQz (rdZ (wrdC b) 2))) (Pn (numZ (sq0 b)) (-999999999) 999999999 fun y2 => Pn (numK (sq0 b)) 0 1 fun y3 => (Pb (Pe y3 0) (sL0 b 0 0 0 0 3) (Pb (Pd 3 (wrdN b)) (sL0 b 0 0 0 0 3) (Pn (cckZ a y0 (kZ y2 (kZ 0 (kZ 0 0)))) 0 6 fun y4 => (Pb (Pd y4 0) (sL0 b 0 0 0 0 y4) (sL0 b a y0 y2 0 0)))))))))))))))) (Pm (Pe a 31) (Pb (PL (wrdN b) 1)
 (sL0 b 0 0 0 0 3) (Pm (Pl 0 (qQz (rdZ (wrdC b) 1))) (Pb (Pd (qQy (rdZ (wrdC b) 1) 0) 114) (sL0 b 0 0 0 0 3) (Pm (PL 1 (qQz (rdZ (wrdC b) 1))) (Pn (numZ (sq1 b)) (-999999999) 999999999 fun y0 => Pn (numK (sq1 b)) 0 1 fun y1 => (Pb (Pe y1 0) (sL0 b 0 0 0 0 3) (Pb (PL (wrdN b) 2) (sL0 b 0 0 0 0 3) (Pm (Pl 0 (qQz (rdZ (wrdC b) 2))) (Pb (Pd (qQy (rdZ (wrdC b) 2) 0) 114) (sL0 b 0 0 0 0 3) (Pm (PL 1 (qQz (rdZ (wrdC b) 2))) (Pn (numZ (sq0 b)) (-999999999) 999999999 fun y2 => Pn (numK (sq0 b)) 0 1 fun y3 => (Pb (Pe y3 0) (sL0 b 0 0 0 0 3) (Pb (PL (wrdN b) 3) (sL0 b 0 0 0 0 3) (Pn (numZ (rdZ (wrdC b) 3)) (-999999999) 999999999 fun y4 => Pn (numK (rdZ (wrdC b) 3)) 0 1 fun y5 => (Pb (Pe y5 0) (sL0 b 0 0 0 0 3) (Pb (Pd 4 (wrdN b)) (sL0 b 0 0 0 0 3) (Pn (cckZ a y0 (kZ y2 (kZ 0 (kZ y4
 0)))) 0 6 fun y6 => (Pb (Pd y6 0) (sL0 b 0 0 0 0 y6) (sL0 b a y0 y2 y4 0))))))))))))))))))))))
theorem wrd_hd {s : Int} {k : Nat} : wrdN s ≤ k ∨ (1 ≤ qQz (rdZ (wrdC s) k) ∧ ((seqZ (qQq 1 (qQq (qQv (rdZ (rdZ (wrdC s) k) 1) 0) 0)) (qQq 1 (qQq (qQq 114 0) 0)) = 0 ∧ qQy (rdZ (wrdC s) k) 0 ≠ 114) ∨ (¬ seqZ (qQq 1 (qQq (qQv (rdZ (rdZ (wrdC s) k) 1) 0) 0)) (qQq 1 (qQq (qQq 114 0) 0)) = 0 ∧ qQy (rdZ (wrdC s) k) 0 = 114))) := by
 rcases Int.lt_or_le (k : Int) (wrdN s) with h | h
 ·have h1 := wrd_pos h
  have h2 := head_r h1
  have h3 := qXh (rdZ (wrdC s) k) 0
  refine .inr ⟨h1, ?_⟩
  have h4 : UInt8.ofNat (qQy (rdZ (wrdC s) k) 0).toNat = 114 ↔ qQy (rdZ (wrdC s) k) 0 = 114 := by
   constructor
   ·intro h
    have := congrArg UInt8.toNat h
    simp at this
    omega
   ·intro h
    rw [h]; rfl
  by_cases h5 : qQy (rdZ (wrdC s) k) 0 = 114
  ·exact .inr ⟨h2.2 (h4.2 h5), h5⟩
  ·refine .inl ⟨Classical.byContradiction fun g => h5 (h4.1 (h2.1 g)), h5⟩
 ·exact .inl h
set_option maxHeartbeats 40000000 in
theorem holds (o s : Int) (l_o : 24 ≤ o) (u_o : o ≤ 31) (h_pre0 : (2 : Int) ≠ 0) (h_pre1 : (1 : Int) ≠ 0) (h_pre2 : qQx (decide ((qQz s)  ≤  100000)) ≠ 0) (h_pre3 : qQx ((wrdN s)  !=  0) ≠ 0) (h_pre4 : qQx ((opfZ (rdZ (wrdC s) 0))  ==  o) ≠ 0) : P o s := by
 delta P sq0 sq1 sL0 Pb Pm Pn PL Pl Pe Pd kZ
 have hw0 := (qYe s).1
 have w1 : wrdN s ≤ 1 ∨ (1 ≤ qQz (rdZ (wrdC s) 1) ∧ ((seqZ (qQq 1 (qQq (qQv (rdZ (rdZ (wrdC s) 1) 1) 0) 0)) (qQq 1 (qQq (qQq 114 0) 0)) = 0 ∧ qQy (rdZ (wrdC s) 1) 0 ≠ 114) ∨ (¬ seqZ (qQq 1 (qQq (qQv (rdZ (rdZ (wrdC s) 1) 1) 0) 0)) (qQq 1 (qQq (qQq 114 0) 0)) = 0 ∧ qQy (rdZ (wrdC s) 1) 0 = 114))) := wrd_hd (s := s) (k := 1)
 have w2 : wrdN s ≤ 2 ∨ (1 ≤ qQz (rdZ (wrdC s) 2) ∧ ((seqZ (qQq 1 (qQq (qQv (rdZ (rdZ (wrdC s) 2) 1) 0) 0)) (qQq 1 (qQq (qQq 114 0) 0)) = 0 ∧ qQy (rdZ (wrdC s) 2) 0 ≠ 114) ∨ (¬ seqZ (qQq 1 (qQq (qQv (rdZ (rdZ (wrdC s) 2) 1) 0) 0)) (qQq 1 (qQq (qQq 114 0) 0)) = 0 ∧ qQy (rdZ (wrdC s) 2) 0 = 114))) := wrd_hd (s := s) (k := 2)
 clear h_pre0 h_pre1
 simp only [nrm, Int.reduceEq, Int.reduceNeg, reduceIte, qYc, Int.reduceAdd, slen_0, qZm] at h_pre2 h_pre3 h_pre4 ⊢
 have ho := h_pre4
 clear h_pre4
 have hs : (24 ≤ o ∧ o ≤ 30) ∨ (o = 31) := by omega
 rcases hs with hr | hr
 ·obtain ⟨hY, hN⟩ := parF_1 ho hr (by omega)
  rcases Classical.em _ with hC | hC
  rotate_left
  ·have hG := hN hC
   clear hY hN
   unfold parF at hG
   simp only [Int.reduceEq, if_false] at hG
   obtain ⟨g1, g2, g3, g4, g5, g6⟩ := hG
   rw [g1, g2, g3, g4, g5, g6]
   clear g1 g2 g3 g4 g5 g6
   repeat' (first | (constructor <;> intro _) | (intro _ hy _; subst hy))
   all_goals first
    | (exact ⟨rfl, rfl, rfl, rfl, rfl, rfl⟩)
    | (exfalso; omega)
  ·have hG := hY hC
   clear hY hN
   unfold parF at hG
   obtain ⟨g1, g2, g3, g4, g5, g6⟩ := hG
   rw [g1, g2, g3, g4, g5, g6]
   clear g1 g2 g3 g4 g5 g6
   repeat' (first | (constructor <;> intro _) | (intro _ hy _; subst hy))
   all_goals first
    | (exfalso; omega)
    | omega
 ·obtain ⟨hY, hN⟩ := parF_2 ho hr (by omega)
  rcases Classical.em _ with hC | hC
  rotate_left
  ·have hG := hN hC
   clear hY hN
   unfold parF at hG
   simp only [Int.reduceEq, if_false] at hG
   obtain ⟨g1, g2, g3, g4, g5, g6⟩ := hG
   rw [g1, g2, g3, g4, g5, g6]
   clear g1 g2 g3 g4 g5 g6
   repeat' (first | (constructor <;> intro _) | (intro _ hy _; subst hy))
   all_goals first
    | (exact ⟨rfl, rfl, rfl, rfl, rfl, rfl⟩)
    | (exfalso; omega)
  ·have hG := hY hC
   clear hY hN
   unfold parF at hG
   obtain ⟨g1, g2, g3, g4, g5, g6⟩ := hG
   rw [g1, g2, g3, g4, g5, g6]
   clear g1 g2 g3 g4 g5 g6
   repeat' (first | (constructor <;> intro _) | (intro _ hy _; subst hy))
   all_goals first
    | (exfalso; omega)
    | omega
theorem plain (i v ro p) : statH 2 rk tree ⟨i, fN, v, ro, p⟩ = P (i 0) (i 1) := by kernel_rfl
theorem ran : ranH us (fun f _ => if [8].contains f then .unroll 400 else .auto) rk 2 tree = true := by kernel_rfl
theorem fineT : fineH 2 rk tree = true := by kernel_rfl
theorem ok : RhOk (cxOf 2) rk.rh := okH us_ok ran fineT (by kernel_rfl) okk fun i v ro p hρ hpre => by rw [plain]; have q := hρ.hi; exact holds _ _ (q 0 _ rfl).1 (q 0 _ rfl).2 (hpre _ (mg 0 rfl)) (hpre _ (mg 1 rfl)) (hpre _ (mg 2 rfl)) (hpre _ (mg 3 rfl)) (hpre _ (mg 4 rfl))
end CRPb
namespace CRPc
def rk : Rk := ⟨8, [(32, 38)], 2, [.str (.v 1)], [], [(.c 2), (.c 1), (.b .le .i64 (.f 21 (.v 1) (.c 0) (.c 0)) (.c 100000)), (.b .ne .i64 (.f 136 (.v 1) (.c 0) (.c 0)) (.c 0)), (.b .eq .i64 (.f 90 (.f 13 (.f 137 (.v 1) (.c 0) (.c 0)) (.c 0) (.c 0)) (.c 0) (.c 0)) (.v 0))], .tup [.agg [.int .i64 (.v 1000000), .int .i64 (.v 1000001), .int .i64 (.v 1000002), .int .i64 (.v 1000003), .int .i64 (.v 1000004)], .int .i64 (.v 1000005)], [], [.num (.f 143 (.v 1) (.c 0) (.c 0)), .num (.f 143 (.v 1) (.c 1) (.c 0)), .num (.f 143 (.v 1) (.c 2) (.c 0)), .num (.f 143 (.v 1) (.c 3) (.c 0)), .num (.f 143 (.v 1) (.c 4) (.c 0)), .num (.f 144 (.v 1) (.c 0) (.c 0))], []⟩
theorem okk : rk.ok = true := by kernel_rfl
theorem okh : rk.rh.ok = true := by kernel_rfl
noncomputable def us : SMs := fun Γ ins n => smH (cxG n Γ ins) [] (smR (cxG n Γ ins) [CRChk13.rc, CRWords14.rc, CRNumber14.rc, CRFind06.rc])
theorem us_ok : SMsOk us := fun Γ ins n => qZb (tabsG n Γ ins) (qQs _) (qZw (tabsG n Γ ins) (qQw CRChk13.okb (rc_n CRChk13.ok) (qQw CRWords14.okb (rc_n CRWords14.ok) (qQw CRNumber14.okb (rc_n CRNumber14.ok) (qQw CRFind06.okb (rc_n CRFind06.ok) (qQt _))))))
def Q0 : E := (.f 136 (.v 1) (.c 0) (.c 0))
def Q1 : E := (tl Q0 (.c 1))
def Q2 : E := (.f 137 (.v 1) (.c 0) (.c 0))
def Q3 : E := (tR Q2 (.c 1))
def Q4 : E := (.f 21 Q3 (.c 0) (.c 0))
def Q5 : E := (tk (.c 0) Q4)
def Q6 : E := (.f 22 Q3 (.c 0) (.c 0))
def Q7 : E := (tn Q6 (.c 114))
def Q8 : E := (tl (.c 1) Q4)
def Q9 : E := (.b .psub .i64 Q4 (.c 1))
def Q10 : E := (tR Q3 (.c 1))
def Q11 : E := (.f 18 Q10 (.c 1) (.c 0))
def Q12 : E := (tC Q11 (.c 0))
def Q13 : E := (tC Q9 Q12)
def Q14 : E := (.f 139 Q13 (.c 0) (.c 0))
def Q15 : E := (.f 138 Q13 (.c 0) (.c 0))
def Q16 : E := (.nt (.cl 1001 0 1))
def Q17 : E := (tl Q0 (.c 2))
def Q18 : E := (tR Q2 (.c 2))
def Q19 : E := (.f 21 Q18 (.c 0) (.c 0))
def Q20 : E := (tk (.c 0) Q19)
def Q21 : E := (.f 22 Q18 (.c 0) (.c 0))
def Q22 : E := (tn Q21 (.c 114))
def Q23 : E := (tl (.c 1) Q19)
def Q24 : E := (.b .psub .i64 Q19 (.c 1))
def Q25 : E := (tR Q18 (.c 1))
def Q26 : E := (.f 18 Q25 (.c 1) (.c 0))
def Q27 : E := (tC Q26 (.c 0))
def Q28 : E := (tC Q24 Q27)
def Q29 : E := (.f 139 Q28 (.c 0) (.c 0))
def Q30 : E := (.f 138 Q28 (.c 0) (.c 0))
def Q31 : E := (.nt (.cl 1003 0 1))
def Q32 : E := (tl Q0 (.c 3))
def Q33 : E := (tR Q2 (.c 3))
def Q34 : E := (.f 139 Q33 (.c 0) (.c 0))
def Q35 : E := (.f 138 Q33 (.c 0) (.c 0))
def Q36 : E := (.nt (.cl 1005 0 1))
def Q37 : E := (tn (.c 4) Q0)
def Q38 : E := (.cl 1000 (-999999999) 999999999)
def Q39 : E := (.cl 1002 (-999999999) 999999999)
def Q40 : E := (.cl 1004 (-999999999) 999999999)
def Q41 : E := (tC Q40 (.c 0))
def Q42 : E := (tC (.c 0) Q41)
def Q43 : E := (tC Q39 Q42)
def Q44 : E := (.f 141 (.v 0) Q38 Q43)
def Q45 : E := (tn (.cl 1006 0 6) (.c 0))
def tree : TT (List E) :=
 (.br (tk (.c 0) Q0) (.br (te (.v 0) (.c 32)) (.br Q1 (.leaf [(.c 0), (.c 0), (.c 0), (.c 0), (.c 0), (.c 3)]) (.br Q5 (.br Q7 (.leaf [(.c 0), (.c 0), (.c 0), (.c 0), (.c 0), (.c 3)]) (.br Q8 (.new 1000 Q14 (.new 1001 Q15 (.br Q16 (.leaf [(.c 0), (.c 0), (.c 0), (.c 0), (.c 0), (.c 3)]) (.br Q17 (.leaf [(.c 0), (.c 0), (.c 0), (.c 0), (.c 0), (.c 3)]) (.br Q20 (.br Q22 (.leaf [(.c 0), (.c 0), (.c 0), (.c 0), (.c 0), (.c 3)]) (.br Q23 (.new 1002 Q29 (.new 1003 Q30 (.br Q31 (.leaf [(.c 0), (.c 0), (.c 0), (.c 0), (.c 0), (.c 3)]) (.br Q32 (.leaf [(.c 0), (.c 0), (.c 0), (.c 0), (.c 0), (.c 3)]) (.new 1004 Q34 (.new 1005 Q35 (.br Q36 (.leaf [(.c 0), (.c 0), (.c 0), (.c 0), (.c 0), (.c 3)]) (.br Q37 (.leaf [(.c 0), (.c 0), (.c 0), (.c 0), (.c 0), (.c 3)]) (.new 1006 Q44 (.br Q45 (.leaf [(.c
 0), (.c 0), (.c 0), (.c 0), (.c 0), (.cl 1006 0 6)]) (.leaf [(.v 0), Q38, Q39, (.c 0), Q40, (.c 0)]))))))))))) (.bad 200))) (.bad 200)))))) (.bad 200))) (.bad 200))) (.br (te (.v 0) (.c 34)) (.br Q1 (.leaf [(.c 0), (.c 0), (.c 0), (.c 0), (.c 0), (.c 3)]) (.br Q5 (.br Q7 (.leaf [(.c 0), (.c 0), (.c 0), (.c 0), (.c 0), (.c 3)]) (.br Q8 (.new 1000 Q14 (.new 1001 Q15 (.br Q16 (.leaf [(.c 0), (.c 0), (.c 0), (.c 0), (.c 0), (.c 3)]) (.br Q17 (.leaf [(.c 0), (.c 0), (.c 0), (.c 0), (.c 0), (.c 3)]) (.br Q20 (.br Q22 (.leaf [(.c 0), (.c 0), (.c 0), (.c 0), (.c 0), (.c 3)]) (.br Q23 (.new 1002 Q29 (.new 1003 Q30 (.br Q31 (.leaf [(.c 0), (.c 0), (.c 0), (.c 0), (.c 0), (.c 3)]) (.br Q32 (.leaf [(.c 0), (.c 0), (.c 0), (.c 0), (.c 0), (.c 3)]) (.new 1004 Q34 (.new 1005 Q35 (.br Q36 (.leaf [(.c
 0), (.c 0), (.c 0), (.c 0), (.c 0), (.c 3)]) (.br Q37 (.leaf [(.c 0), (.c 0), (.c 0), (.c 0), (.c 0), (.c 3)]) (.new 1006 Q44 (.br Q45 (.leaf [(.c 0), (.c 0), (.c 0), (.c 0), (.c 0), (.cl 1006 0 6)]) (.leaf [(.v 0), Q38, Q39, (.c 0), Q40, (.c 0)]))))))))))) (.bad 200))) (.bad 200)))))) (.bad 200))) (.bad 200))) (.br (te (.v 0) (.c 35)) (.br Q1 (.leaf [(.c 0), (.c 0), (.c 0), (.c 0), (.c 0), (.c 3)]) (.br Q5 (.br Q7 (.leaf [(.c 0), (.c 0), (.c 0), (.c 0), (.c 0), (.c 3)]) (.br Q8 (.new 1000 Q14 (.new 1001 Q15 (.br Q16 (.leaf [(.c 0), (.c 0), (.c 0), (.c 0), (.c 0), (.c 3)]) (.br Q17 (.leaf [(.c 0), (.c 0), (.c 0), (.c 0), (.c 0), (.c 3)]) (.br Q20 (.br Q22 (.leaf [(.c 0), (.c 0), (.c 0), (.c 0), (.c 0), (.c 3)]) (.br Q23 (.new 1002 Q29 (.new 1003 Q30 (.br Q31 (.leaf [(.c 0), (.c 0), (.c
 0), (.c 0), (.c 0), (.c 3)]) (.br Q32 (.leaf [(.c 0), (.c 0), (.c 0), (.c 0), (.c 0), (.c 3)]) (.new 1004 Q34 (.new 1005 Q35 (.br Q36 (.leaf [(.c 0), (.c 0), (.c 0), (.c 0), (.c 0), (.c 3)]) (.br Q37 (.leaf [(.c 0), (.c 0), (.c 0), (.c 0), (.c 0), (.c 3)]) (.new 1006 Q44 (.br Q45 (.leaf [(.c 0), (.c 0), (.c 0), (.c 0), (.c 0), (.cl 1006 0 6)]) (.leaf [(.v 0), Q38, Q39, (.c 0), Q40, (.c 0)]))))))))))) (.bad 200))) (.bad 200)))))) (.bad 200))) (.bad 200))) (.br (te (.v 0) (.c 36)) (.br Q1 (.leaf [(.c 0), (.c 0), (.c 0), (.c 0), (.c 0), (.c 3)]) (.br Q5 (.br Q7 (.leaf [(.c 0), (.c 0), (.c 0), (.c 0), (.c 0), (.c 3)]) (.br Q8 (.new 1000 Q14 (.new 1001 Q15 (.br Q16 (.leaf [(.c 0), (.c 0), (.c 0), (.c 0), (.c 0), (.c 3)]) (.br Q17 (.leaf [(.c 0), (.c 0), (.c 0), (.c 0), (.c 0), (.c 3)]) (.br
 Q20 (.br Q22 (.leaf [(.c 0), (.c 0), (.c 0), (.c 0), (.c 0), (.c 3)]) (.br Q23 (.new 1002 Q29 (.new 1003 Q30 (.br Q31 (.leaf [(.c 0), (.c 0), (.c 0), (.c 0), (.c 0), (.c 3)]) (.br Q32 (.leaf [(.c 0), (.c 0), (.c 0), (.c 0), (.c 0), (.c 3)]) (.new 1004 Q34 (.new 1005 Q35 (.br Q36 (.leaf [(.c 0), (.c 0), (.c 0), (.c 0), (.c 0), (.c 3)]) (.br Q37 (.leaf [(.c 0), (.c 0), (.c 0), (.c 0), (.c 0), (.c 3)]) (.new 1006 Q44 (.br Q45 (.leaf [(.c 0), (.c 0), (.c 0), (.c 0), (.c 0), (.cl 1006 0 6)]) (.leaf [(.v 0), Q38, Q39, (.c 0), Q40, (.c 0)]))))))))))) (.bad 200))) (.bad 200)))))) (.bad 200))) (.bad 200))) (.br (te (.v 0) (.c 37)) (.br Q1 (.leaf [(.c 0), (.c 0), (.c 0), (.c 0), (.c 0), (.c 3)]) (.br Q5 (.br Q7 (.leaf [(.c 0), (.c 0), (.c 0), (.c 0), (.c 0), (.c 3)]) (.br Q8 (.new 1000 Q14 (.new
 1001 Q15 (.br Q16 (.leaf [(.c 0), (.c 0), (.c 0), (.c 0), (.c 0), (.c 3)]) (.br Q17 (.leaf [(.c 0), (.c 0), (.c 0), (.c 0), (.c 0), (.c 3)]) (.br Q20 (.br Q22 (.leaf [(.c 0), (.c 0), (.c 0), (.c 0), (.c 0), (.c 3)]) (.br Q23 (.new 1002 Q29 (.new 1003 Q30 (.br Q31 (.leaf [(.c 0), (.c 0), (.c 0), (.c 0), (.c 0), (.c 3)]) (.br Q32 (.leaf [(.c 0), (.c 0), (.c 0), (.c 0), (.c 0), (.c 3)]) (.new 1004 Q34 (.new 1005 Q35 (.br Q36 (.leaf [(.c 0), (.c 0), (.c 0), (.c 0), (.c 0), (.c 3)]) (.br Q37 (.leaf [(.c 0), (.c 0), (.c 0), (.c 0), (.c 0), (.c 3)]) (.new 1006 Q44 (.br Q45 (.leaf [(.c 0), (.c 0), (.c 0), (.c 0), (.c 0), (.cl 1006 0 6)]) (.leaf [(.v 0), Q38, Q39, (.c 0), Q40, (.c 0)]))))))))))) (.bad 200))) (.bad 200)))))) (.bad 200))) (.bad 200))) (.br (te (.v 0) (.c 38)) (.br Q1 (.leaf [(.c
 0), (.c 0), (.c 0), (.c 0), (.c 0), (.c 3)]) (.br Q5 (.br Q7 (.leaf [(.c 0), (.c 0), (.c 0), (.c 0), (.c 0), (.c 3)]) (.br Q8 (.new 1000 Q14 (.new 1001 Q15 (.br Q16 (.leaf [(.c 0), (.c 0), (.c 0), (.c 0), (.c 0), (.c 3)]) (.br Q17 (.leaf [(.c 0), (.c 0), (.c 0), (.c 0), (.c 0), (.c 3)]) (.br Q20 (.br Q22 (.leaf [(.c 0), (.c 0), (.c 0), (.c 0), (.c 0), (.c 3)]) (.br Q23 (.new 1002 Q29 (.new 1003 Q30 (.br Q31 (.leaf [(.c 0), (.c 0), (.c 0), (.c 0), (.c 0), (.c 3)]) (.br Q32 (.leaf [(.c 0), (.c 0), (.c 0), (.c 0), (.c 0), (.c 3)]) (.new 1004 Q34 (.new 1005 Q35 (.br Q36 (.leaf [(.c 0), (.c 0), (.c 0), (.c 0), (.c 0), (.c 3)]) (.br Q37 (.leaf [(.c 0), (.c 0), (.c 0), (.c 0), (.c 0), (.c 3)]) (.new 1006 Q44 (.br Q45 (.leaf [(.c 0), (.c 0), (.c 0), (.c 0), (.c 0), (.cl 1006 0 6)]) (.leaf [(.v
 0), Q38, Q39, (.c 0), Q40, (.c 0)]))))))))))) (.bad 200))) (.bad 200)))))) (.bad 200))) (.bad 200))) (.br (te (.v 0) (.c 33)) (.br Q1 (.leaf [(.c 0), (.c 0), (.c 0), (.c 0), (.c 0), (.c 3)]) (.br Q5 (.br Q7 (.leaf [(.c 0), (.c 0), (.c 0), (.c 0), (.c 0), (.c 3)]) (.br Q8 (.new 1000 Q14 (.new 1001 Q15 (.br Q16 (.leaf [(.c 0), (.c 0), (.c 0), (.c 0), (.c 0), (.c 3)]) (.br Q17 (.leaf [(.c 0), (.c 0), (.c 0), (.c 0), (.c 0), (.c 3)]) (.new 1002 (.f 139 Q18 (.c 0) (.c 0)) (.new 1003 (.f 138 Q18 (.c 0) (.c 0)) (.br Q31 (.leaf [(.c 0), (.c 0), (.c 0), (.c 0), (.c 0), (.c 3)]) (.br (tn (.c 3) Q0) (.leaf [(.c 0), (.c 0), (.c 0), (.c 0), (.c 0), (.c 3)]) (.new 1004 (.f 141 (.v 0) Q38 (tC (.c 0) (tC (.c 0) (tC Q39 (.c 0))))) (.br (tn (.cl 1004 0 6) (.c 0)) (.leaf [(.c 0), (.c 0), (.c 0), (.c 0),
 (.c 0), (.cl 1004 0 6)]) (.leaf [(.v 0), Q38, (.c 0), (.c 0), Q39, (.c 0)]))))))))))) (.bad 200))) (.bad 200))) (.bad 283)))))))) (.bad 200))
noncomputable def sq0 (b : Int) : Int := (kZ ((qQz (rdZ (wrdC b) 1)) - 1) (kZ (qQv (rdZ (rdZ (wrdC b) 1) 1) 1) 0))
noncomputable def sq1 (b : Int) : Int := (kZ ((qQz (rdZ (wrdC b) 2)) - 1) (kZ (qQv (rdZ (rdZ (wrdC b) 2) 1) 1) 0))
def sL0 (b z0 z2 z4 z8 z10 : Int) : Prop := (z0 : Int) = (parZ b 0) ∧ (z2 : Int) = (parZ b 1) ∧ (z4 : Int) = (parZ b 2) ∧ (0 : Int) = (parZ b 3) ∧ (z8 : Int) = (parZ b 4) ∧ (z10 : Int) = (parE b) ∧ True
def sq2 (b a : Int) : Prop := (Pb (PL (wrdN b) 1) (sL0 b 0 0 0 0 3) (Pm (Pl 0 (qQz (rdZ (wrdC b) 1))) (Pb (Pd (qQy (rdZ (wrdC b) 1) 0) 114) (sL0 b 0 0 0 0 3) (Pm (PL 1 (qQz (rdZ (wrdC b) 1))) (Pn (numZ (sq0 b)) (-999999999) 999999999 fun y0 => Pn (numK (sq0 b)) 0 1 fun y1 => (Pb (Pe y1 0) (sL0 b 0 0 0 0 3) (Pb (PL (wrdN b) 2) (sL0 b 0 0 0 0 3) (Pm (Pl 0 (qQz (rdZ (wrdC b) 2))) (Pb (Pd (qQy (rdZ (wrdC b) 2) 0) 114) (sL0 b 0 0 0 0 3) (Pm (PL 1 (qQz (rdZ (wrdC b) 2))) (Pn (numZ (sq1 b)) (-999999999) 999999999 fun y2 => Pn (numK (sq1 b)) 0 1 fun y3 => (Pb (Pe y3 0) (sL0 b 0 0 0 0 3) (Pb (PL (wrdN b) 3) (sL0 b 0 0 0 0 3) (Pn (numZ (rdZ (wrdC b) 3)) (-999999999) 999999999 fun y4 => Pn (numK (rdZ (wrdC b) 3)) 0 1 fun y5 => (Pb (Pe y5 0) (sL0 b 0 0 0 0 3) (Pb (Pd 4 (wrdN b)) (sL0 b
 0 0 0 0 3) (Pn (cckZ a y0 (kZ y2 (kZ 0 (kZ y4 0)))) 0 6 fun y6 => (Pb (Pd y6 0) (sL0 b 0 0 0 0 y6) (sL0 b a y0 y2 y4 0)))))))))))))))))))
def P (a b : Int) : Prop :=
 (Pm (Pl 0 (wrdN b)) (Pb (Pe a 32) (sq2 b a) (Pb (Pe a 34) (sq2 b a) (Pb (Pe a 35) (sq2 b a) (Pb (Pe a 36) (sq2 b a) (Pb (Pe a 37) (sq2 b a) (Pb (Pe a 38) (sq2 b a) (Pm (Pe a 33) (Pb (PL (wrdN b) 1) (sL0 b 0 0 0 0 3) (Pm (Pl 0 (qQz (rdZ (wrdC b) 1))) (Pb (Pd (qQy (rdZ (wrdC b) 1) 0) 114) (sL0 b 0 0 0 0 3) (Pm (PL 1 (qQz (rdZ (wrdC b) 1))) (Pn (numZ (sq0 b)) (-999999999) 999999999 fun y0 => Pn (numK (sq0 b)) 0 1 fun y1 => (Pb (Pe y1 0) (sL0 b 0 0 0 0 3) (Pb (PL (wrdN b) 2) (sL0 b 0 0 0 0 3) (Pn (numZ (rdZ (wrdC b) 2)) (-999999999) 999999999 fun y2 => Pn (numK (rdZ (wrdC b) 2)) 0 1 fun y3 => (Pb (Pe y3 0) (sL0 b 0 0 0 0 3) (Pb (Pd 3 (wrdN b)) (sL0 b 0 0 0 0 3) (Pn (cckZ a y0 (kZ 0 (kZ 0 (kZ y2 0)))) 0 6 fun y4 => (Pb (Pd y4 0) (sL0 b 0 0 0 0 y4) (sL0 b a y0 0 y2 0)))))))))))))))))))))
theorem wrd_hd {s : Int} {k : Nat} : wrdN s ≤ k ∨ (1 ≤ qQz (rdZ (wrdC s) k) ∧ ((seqZ (qQq 1 (qQq (qQv (rdZ (rdZ (wrdC s) k) 1) 0) 0)) (qQq 1 (qQq (qQq 114 0) 0)) = 0 ∧ qQy (rdZ (wrdC s) k) 0 ≠ 114) ∨ (¬ seqZ (qQq 1 (qQq (qQv (rdZ (rdZ (wrdC s) k) 1) 0) 0)) (qQq 1 (qQq (qQq 114 0) 0)) = 0 ∧ qQy (rdZ (wrdC s) k) 0 = 114))) := by
 rcases Int.lt_or_le (k : Int) (wrdN s) with h | h
 ·have h1 := wrd_pos h
  have h2 := head_r h1
  have h3 := qXh (rdZ (wrdC s) k) 0
  refine .inr ⟨h1, ?_⟩
  have h4 : UInt8.ofNat (qQy (rdZ (wrdC s) k) 0).toNat = 114 ↔ qQy (rdZ (wrdC s) k) 0 = 114 := by
   constructor
   ·intro h
    have := congrArg UInt8.toNat h
    simp at this
    omega
   ·intro h
    rw [h]; rfl
  by_cases h5 : qQy (rdZ (wrdC s) k) 0 = 114
  ·exact .inr ⟨h2.2 (h4.2 h5), h5⟩
  ·refine .inl ⟨Classical.byContradiction fun g => h5 (h4.1 (h2.1 g)), h5⟩
 ·exact .inl h
set_option maxHeartbeats 40000000 in
theorem holds (o s : Int) (l_o : 32 ≤ o) (u_o : o ≤ 38) (h_pre0 : (2 : Int) ≠ 0) (h_pre1 : (1 : Int) ≠ 0) (h_pre2 : qQx (decide ((qQz s)  ≤  100000)) ≠ 0) (h_pre3 : qQx ((wrdN s)  !=  0) ≠ 0) (h_pre4 : qQx ((opfZ (rdZ (wrdC s) 0))  ==  o) ≠ 0) : P o s := by
 delta P sq0 sq1 sq2 sL0 Pb Pm Pn PL Pl Pe Pd kZ
 have hw0 := (qYe s).1
 have w1 : wrdN s ≤ 1 ∨ (1 ≤ qQz (rdZ (wrdC s) 1) ∧ ((seqZ (qQq 1 (qQq (qQv (rdZ (rdZ (wrdC s) 1) 1) 0) 0)) (qQq 1 (qQq (qQq 114 0) 0)) = 0 ∧ qQy (rdZ (wrdC s) 1) 0 ≠ 114) ∨ (¬ seqZ (qQq 1 (qQq (qQv (rdZ (rdZ (wrdC s) 1) 1) 0) 0)) (qQq 1 (qQq (qQq 114 0) 0)) = 0 ∧ qQy (rdZ (wrdC s) 1) 0 = 114))) := wrd_hd (s := s) (k := 1)
 have w2 : wrdN s ≤ 2 ∨ (1 ≤ qQz (rdZ (wrdC s) 2) ∧ ((seqZ (qQq 1 (qQq (qQv (rdZ (rdZ (wrdC s) 2) 1) 0) 0)) (qQq 1 (qQq (qQq 114 0) 0)) = 0 ∧ qQy (rdZ (wrdC s) 2) 0 ≠ 114) ∨ (¬ seqZ (qQq 1 (qQq (qQv (rdZ (rdZ (wrdC s) 2) 1) 0) 0)) (qQq 1 (qQq (qQq 114 0) 0)) = 0 ∧ qQy (rdZ (wrdC s) 2) 0 = 114))) := wrd_hd (s := s) (k := 2)
 clear h_pre0 h_pre1
 simp only [nrm, Int.reduceEq, Int.reduceNeg, reduceIte, qYc, Int.reduceAdd, slen_0, qZm] at h_pre2 h_pre3 h_pre4 ⊢
 have ho := h_pre4
 clear h_pre4
 have hs : (o = 32 ∨ (34 ≤ o ∧ o ≤ 38)) ∨ (o = 33 ∨ o = 40) := by omega
 rcases hs with hr | hr
 ·obtain ⟨hY, hN⟩ := parF_3 ho hr (by omega)
  rcases Classical.em _ with hC | hC
  rotate_left
  ·have hG := hN hC
   clear hY hN
   unfold parF at hG
   simp only [Int.reduceEq, if_false] at hG
   obtain ⟨g1, g2, g3, g4, g5, g6⟩ := hG
   rw [g1, g2, g3, g4, g5, g6]
   clear g1 g2 g3 g4 g5 g6
   repeat' (first | (constructor <;> intro _) | (intro _ hy _; subst hy))
   all_goals first
    | (exact ⟨rfl, rfl, rfl, rfl, rfl, rfl⟩)
    | (exfalso; omega)
  ·have hG := hY hC
   clear hY hN
   unfold parF at hG
   obtain ⟨g1, g2, g3, g4, g5, g6⟩ := hG
   rw [g1, g2, g3, g4, g5, g6]
   clear g1 g2 g3 g4 g5 g6
   repeat' (first | (constructor <;> intro _) | (intro _ hy _; subst hy))
   all_goals first
    | (exfalso; omega)
    | omega
 ·obtain ⟨hY, hN⟩ := parF_4 ho hr (by omega)
  clear w2
  rcases Classical.em _ with hC | hC
  rotate_left
  ·have hG := hN hC
   clear hY hN
   unfold parF at hG
   simp only [Int.reduceEq, if_false] at hG
   obtain ⟨g1, g2, g3, g4, g5, g6⟩ := hG
   rw [g1, g2, g3, g4, g5, g6]
   clear g1 g2 g3 g4 g5 g6
   repeat' (first | (constructor <;> intro _) | (intro _ hy _; subst hy))
   all_goals first
    | (exact ⟨rfl, rfl, rfl, rfl, rfl, rfl⟩)
    | (exfalso; omega)
  ·have hG := hY hC
   clear hY hN
   unfold parF at hG
   obtain ⟨g1, g2, g3, g4, g5, g6⟩ := hG
   rw [g1, g2, g3, g4, g5, g6]
   clear g1 g2 g3 g4 g5 g6
   repeat' (first | (constructor <;> intro _) | (intro _ hy _; subst hy))
   all_goals first
    | (exfalso; omega)
    | omega
theorem plain (i v ro p) : statH 2 rk tree ⟨i, fN, v, ro, p⟩ = P (i 0) (i 1) := by kernel_rfl
theorem ran : ranH us (fun f _ => if [8].contains f then .unroll 400 else .auto) rk 2 tree = true := by kernel_rfl
theorem fineT : fineH 2 rk tree = true := by kernel_rfl
theorem ok : RhOk (cxOf 2) rk.rh := okH us_ok ran fineT (by kernel_rfl) okk fun i v ro p hρ hpre => by rw [plain]; have q := hρ.hi; exact holds _ _ (q 0 _ rfl).1 (q 0 _ rfl).2 (hpre _ (mg 0 rfl)) (hpre _ (mg 1 rfl)) (hpre _ (mg 2 rfl)) (hpre _ (mg 3 rfl)) (hpre _ (mg 4 rfl))
end CRPc
namespace CRPd
def rk : Rk := ⟨8, [(39, 43)], 2, [.str (.v 1)], [], [(.c 2), (.c 1), (.b .le .i64 (.f 21 (.v 1) (.c 0) (.c 0)) (.c 100000)), (.b .ne .i64 (.f 136 (.v 1) (.c 0) (.c 0)) (.c 0)), (.b .eq .i64 (.f 90 (.f 13 (.f 137 (.v 1) (.c 0) (.c 0)) (.c 0) (.c 0)) (.c 0) (.c 0)) (.v 0))], .tup [.agg [.int .i64 (.v 1000000), .int .i64 (.v 1000001), .int .i64 (.v 1000002), .int .i64 (.v 1000003), .int .i64 (.v 1000004)], .int .i64 (.v 1000005)], [], [.num (.f 143 (.v 1) (.c 0) (.c 0)), .num (.f 143 (.v 1) (.c 1) (.c 0)), .num (.f 143 (.v 1) (.c 2) (.c 0)), .num (.f 143 (.v 1) (.c 3) (.c 0)), .num (.f 143 (.v 1) (.c 4) (.c 0)), .num (.f 144 (.v 1) (.c 0) (.c 0))], []⟩
theorem okk : rk.ok = true := by kernel_rfl
theorem okh : rk.rh.ok = true := by kernel_rfl
noncomputable def us : SMs := fun Γ ins n => smH (cxG n Γ ins) [] (smR (cxG n Γ ins) [CRChk13.rc, CRWords14.rc, CRNumber14.rc, CRFind06.rc])
theorem us_ok : SMsOk us := fun Γ ins n => qZb (tabsG n Γ ins) (qQs _) (qZw (tabsG n Γ ins) (qQw CRChk13.okb (rc_n CRChk13.ok) (qQw CRWords14.okb (rc_n CRWords14.ok) (qQw CRNumber14.okb (rc_n CRNumber14.ok) (qQw CRFind06.okb (rc_n CRFind06.ok) (qQt _))))))
def Q0 : E := (.f 136 (.v 1) (.c 0) (.c 0))
def Q1 : E := (tl Q0 (.c 1))
def Q2 : E := (.f 137 (.v 1) (.c 0) (.c 0))
def Q3 : E := (tR Q2 (.c 1))
def Q4 : E := (.f 21 Q3 (.c 0) (.c 0))
def Q5 : E := (tk (.c 0) Q4)
def Q6 : E := (.f 22 Q3 (.c 0) (.c 0))
def Q7 : E := (tn Q6 (.c 114))
def Q8 : E := (tl (.c 1) Q4)
def Q9 : E := (.b .psub .i64 Q4 (.c 1))
def Q10 : E := (tR Q3 (.c 1))
def Q11 : E := (.f 18 Q10 (.c 1) (.c 0))
def Q12 : E := (tC Q11 (.c 0))
def Q13 : E := (tC Q9 Q12)
def Q14 : E := (.f 139 Q13 (.c 0) (.c 0))
def Q15 : E := (.f 138 Q13 (.c 0) (.c 0))
def Q16 : E := (.nt (.cl 1001 0 1))
def Q17 : E := (tR Q2 (.c 2))
def Q18 : E := (.cl 1000 (-999999999) 999999999)
def Q19 : E := (.cl 1002 (-999999999) 999999999)
def Q20 : E := (tn (.c 2) Q0)
def Q21 : E := (tn (.cl 1002 0 6) (.c 0))
def Q22 : E := (tC (.c 0) (.c 0))
def Q23 : E := (tC (.c 0) Q22)
def Q24 : E := (tn (.c 1) Q0)
def Q25 : E := (tC (.c 0) Q23)
def Q26 : E := (.f 141 (.v 0) (.c 0) Q25)
def Q27 : E := (tn (.cl 1000 0 6) (.c 0))
def tree : TT (List E) :=
 (.br (tk (.c 0) Q0) (.br (te (.v 0) (.c 40)) (.br Q1 (.leaf [(.c 0), (.c 0), (.c 0), (.c 0), (.c 0), (.c 3)]) (.br Q5 (.br Q7 (.leaf [(.c 0), (.c 0), (.c 0), (.c 0), (.c 0), (.c 3)]) (.br Q8 (.new 1000 Q14 (.new 1001 Q15 (.br Q16 (.leaf [(.c 0), (.c 0), (.c 0), (.c 0), (.c 0), (.c 3)]) (.br (tl Q0 (.c 2)) (.leaf [(.c 0), (.c 0), (.c 0), (.c 0), (.c 0), (.c 3)]) (.new 1002 (.f 139 Q17 (.c 0) (.c 0)) (.new 1003 (.f 138 Q17 (.c 0) (.c 0)) (.br (.nt (.cl 1003 0 1)) (.leaf [(.c 0), (.c 0), (.c 0), (.c 0), (.c 0), (.c 3)]) (.br (tn (.c 3) Q0) (.leaf [(.c 0), (.c 0), (.c 0), (.c 0), (.c 0), (.c 3)]) (.new 1004 (.f 141 (.v 0) Q18 (tC (.c 0) (tC (.c 0) (tC Q19 (.c 0))))) (.br (tn (.cl 1004 0 6) (.c 0)) (.leaf [(.c 0), (.c 0), (.c 0), (.c 0), (.c 0), (.cl 1004 0 6)]) (.leaf [(.v 0), Q18, (.c 0),
 (.c 0), Q19, (.c 0)]))))))))))) (.bad 200))) (.bad 200))) (.br (te (.v 0) (.c 39)) (.br Q1 (.leaf [(.c 0), (.c 0), (.c 0), (.c 0), (.c 0), (.c 3)]) (.new 1000 (.f 139 Q3 (.c 0) (.c 0)) (.new 1001 (.f 138 Q3 (.c 0) (.c 0)) (.br Q16 (.leaf [(.c 0), (.c 0), (.c 0), (.c 0), (.c 0), (.c 3)]) (.br Q20 (.leaf [(.c 0), (.c 0), (.c 0), (.c 0), (.c 0), (.c 3)]) (.new 1002 (.f 141 (.v 0) (.c 0) (tC (.c 0) (tC (.c 0) (tC Q18 (.c 0))))) (.br Q21 (.leaf [(.c 0), (.c 0), (.c 0), (.c 0), (.c 0), (.cl 1002 0 6)]) (.leaf [(.v 0), (.c 0), (.c 0), (.c 0), Q18, (.c 0)])))))))) (.br (te (.v 0) (.c 41)) (.br Q1 (.leaf [(.c 0), (.c 0), (.c 0), (.c 0), (.c 0), (.c 3)]) (.br Q5 (.br Q7 (.leaf [(.c 0), (.c 0), (.c 0), (.c 0), (.c 0), (.c 3)]) (.br Q8 (.new 1000 Q14 (.new 1001 Q15 (.br Q16 (.leaf [(.c 0), (.c 0),
 (.c 0), (.c 0), (.c 0), (.c 3)]) (.br Q20 (.leaf [(.c 0), (.c 0), (.c 0), (.c 0), (.c 0), (.c 3)]) (.new 1002 (.f 141 (.v 0) (.c 0) (tC Q18 Q23)) (.br Q21 (.leaf [(.c 0), (.c 0), (.c 0), (.c 0), (.c 0), (.cl 1002 0 6)]) (.leaf [(.v 0), (.c 0), Q18, (.c 0), (.c 0), (.c 0)]))))))) (.bad 200))) (.bad 200))) (.br (te (.v 0) (.c 42)) (.br Q24 (.leaf [(.c 0), (.c 0), (.c 0), (.c 0), (.c 0), (.c 3)]) (.new 1000 Q26 (.br Q27 (.leaf [(.c 0), (.c 0), (.c 0), (.c 0), (.c 0), (.cl 1000 0 6)]) (.leaf [(.v 0), (.c 0), (.c 0), (.c 0), (.c 0), (.c 0)])))) (.br (te (.v 0) (.c 43)) (.br Q24 (.leaf [(.c 0), (.c 0), (.c 0), (.c 0), (.c 0), (.c 3)]) (.new 1000 Q26 (.br Q27 (.leaf [(.c 0), (.c 0), (.c 0), (.c 0), (.c 0), (.cl 1000 0 6)]) (.leaf [(.v 0), (.c 0), (.c 0), (.c 0), (.c 0), (.c 0)])))) (.bad
 283)))))) (.bad 200))
noncomputable def sq0 (b : Int) : Int := (kZ ((qQz (rdZ (wrdC b) 1)) - 1) (kZ (qQv (rdZ (rdZ (wrdC b) 1) 1) 1) 0))
def sL0 (b z0 z2 z4 z8 z10 : Int) : Prop := (z0 : Int) = (parZ b 0) ∧ (z2 : Int) = (parZ b 1) ∧ (z4 : Int) = (parZ b 2) ∧ (0 : Int) = (parZ b 3) ∧ (z8 : Int) = (parZ b 4) ∧ (z10 : Int) = (parE b) ∧ True
def P (a b : Int) : Prop :=
 (Pm (Pl 0 (wrdN b)) (Pb (Pe a 40) (Pb (PL (wrdN b) 1) (sL0 b 0 0 0 0 3) (Pm (Pl 0 (qQz (rdZ (wrdC b) 1))) (Pb (Pd (qQy (rdZ (wrdC b) 1) 0) 114) (sL0 b 0 0 0 0 3) (Pm (PL 1 (qQz (rdZ (wrdC b) 1))) (Pn (numZ (sq0 b)) (-999999999) 999999999 fun y0 => Pn (numK (sq0 b)) 0 1 fun y1 => (Pb (Pe y1 0) (sL0 b 0 0 0 0 3) (Pb (PL (wrdN b) 2) (sL0 b 0 0 0 0 3) (Pn (numZ (rdZ (wrdC b) 2)) (-999999999) 999999999 fun y2 => Pn (numK (rdZ (wrdC b) 2)) 0 1 fun y3 => (Pb (Pe y3 0) (sL0 b 0 0 0 0 3) (Pb (Pd 3 (wrdN b)) (sL0 b 0 0 0 0 3) (Pn (cckZ a y0 (kZ 0 (kZ 0 (kZ y2 0)))) 0 6 fun y4 => (Pb (Pd y4 0) (sL0 b 0 0 0 0 y4) (sL0 b a y0 0 y2 0))))))))))))) (Pb (Pe a 39) (Pb (PL (wrdN b) 1) (sL0 b 0 0 0 0 3) (Pn (numZ (rdZ (wrdC b) 1)) (-999999999) 999999999 fun y0 => Pn (numK (rdZ (wrdC b) 1)) 0 1 fun y1
 => (Pb (Pe y1 0) (sL0 b 0 0 0 0 3) (Pb (Pd 2 (wrdN b)) (sL0 b 0 0 0 0 3) (Pn (cckZ a 0 (kZ 0 (kZ 0 (kZ y0 0)))) 0 6 fun y2 => (Pb (Pd y2 0) (sL0 b 0 0 0 0 y2) (sL0 b a 0 0 y0 0))))))) (Pb (Pe a 41) (Pb (PL (wrdN b) 1) (sL0 b 0 0 0 0 3) (Pm (Pl 0 (qQz (rdZ (wrdC b) 1))) (Pb (Pd (qQy (rdZ (wrdC b) 1) 0) 114) (sL0 b 0 0 0 0 3) (Pm (PL 1 (qQz (rdZ (wrdC b) 1))) (Pn (numZ (sq0 b)) (-999999999) 999999999 fun y0 => Pn (numK (sq0 b)) 0 1 fun y1 => (Pb (Pe y1 0) (sL0 b 0 0 0 0 3) (Pb (Pd 2 (wrdN b)) (sL0 b 0 0 0 0 3) (Pn (cckZ a 0 (kZ y0 (kZ 0 (kZ 0 0)))) 0 6 fun y2 => (Pb (Pd y2 0) (sL0 b 0 0 0 0 y2) (sL0 b a 0 y0 0 0)))))))))) (Pb (Pe a 42) (Pb (Pd 1 (wrdN b)) (sL0 b 0 0 0 0 3) (Pn (cckZ a 0 (kZ 0 (kZ 0 (kZ 0 0)))) 0 6 fun y0 => (Pb (Pd y0 0) (sL0 b 0 0 0 0 y0) (sL0 b a 0 0 0 0)))) (Pm
 (Pe a 43) (Pb (Pd 1 (wrdN b)) (sL0 b 0 0 0 0 3) (Pn (cckZ a 0 (kZ 0 (kZ 0 (kZ 0 0)))) 0 6 fun y0 => (Pb (Pd y0 0) (sL0 b 0 0 0 0 y0) (sL0 b a 0 0 0 0))))))))))
theorem wrd_hd {s : Int} {k : Nat} : wrdN s ≤ k ∨ (1 ≤ qQz (rdZ (wrdC s) k) ∧ ((seqZ (qQq 1 (qQq (qQv (rdZ (rdZ (wrdC s) k) 1) 0) 0)) (qQq 1 (qQq (qQq 114 0) 0)) = 0 ∧ qQy (rdZ (wrdC s) k) 0 ≠ 114) ∨ (¬ seqZ (qQq 1 (qQq (qQv (rdZ (rdZ (wrdC s) k) 1) 0) 0)) (qQq 1 (qQq (qQq 114 0) 0)) = 0 ∧ qQy (rdZ (wrdC s) k) 0 = 114))) := by
 rcases Int.lt_or_le (k : Int) (wrdN s) with h | h
 ·have h1 := wrd_pos h
  have h2 := head_r h1
  have h3 := qXh (rdZ (wrdC s) k) 0
  refine .inr ⟨h1, ?_⟩
  have h4 : UInt8.ofNat (qQy (rdZ (wrdC s) k) 0).toNat = 114 ↔ qQy (rdZ (wrdC s) k) 0 = 114 := by
   constructor
   ·intro h
    have := congrArg UInt8.toNat h
    simp at this
    omega
   ·intro h
    rw [h]; rfl
  by_cases h5 : qQy (rdZ (wrdC s) k) 0 = 114
  ·exact .inr ⟨h2.2 (h4.2 h5), h5⟩
  ·refine .inl ⟨Classical.byContradiction fun g => h5 (h4.1 (h2.1 g)), h5⟩
 ·exact .inl h
set_option maxHeartbeats 40000000 in
theorem holds (o s : Int) (l_o : 39 ≤ o) (u_o : o ≤ 43) (h_pre0 : (2 : Int) ≠ 0) (h_pre1 : (1 : Int) ≠ 0) (h_pre2 : qQx (decide ((qQz s)  ≤  100000)) ≠ 0) (h_pre3 : qQx ((wrdN s)  !=  0) ≠ 0) (h_pre4 : qQx ((opfZ (rdZ (wrdC s) 0))  ==  o) ≠ 0) : P o s := by
 delta P sq0 sL0 Pb Pm Pn PL Pl Pe Pd kZ
 have hw0 := (qYe s).1
 have w1 : wrdN s ≤ 1 ∨ (1 ≤ qQz (rdZ (wrdC s) 1) ∧ ((seqZ (qQq 1 (qQq (qQv (rdZ (rdZ (wrdC s) 1) 1) 0) 0)) (qQq 1 (qQq (qQq 114 0) 0)) = 0 ∧ qQy (rdZ (wrdC s) 1) 0 ≠ 114) ∨ (¬ seqZ (qQq 1 (qQq (qQv (rdZ (rdZ (wrdC s) 1) 1) 0) 0)) (qQq 1 (qQq (qQq 114 0) 0)) = 0 ∧ qQy (rdZ (wrdC s) 1) 0 = 114))) := wrd_hd (s := s) (k := 1)
 clear h_pre0 h_pre1
 simp only [nrm, Int.reduceEq, Int.reduceNeg, reduceIte, qYc, Int.reduceAdd, slen_0, qZm] at h_pre2 h_pre3 h_pre4 ⊢
 have ho := h_pre4
 clear h_pre4
 have hs : (o = 39) ∨ (o = 33 ∨ o = 40) ∨ (o = 41) ∨ (o = 42 ∨ o = 43) := by omega
 rcases hs with hr | hr | hr | hr
 ·obtain ⟨hY, hN⟩ := parF_5 ho hr (by omega)
  clear w1
  rcases Classical.em _ with hC | hC
  rotate_left
  ·have hG := hN hC
   clear hY hN
   unfold parF at hG
   simp only [Int.reduceEq, if_false] at hG
   obtain ⟨g1, g2, g3, g4, g5, g6⟩ := hG
   rw [g1, g2, g3, g4, g5, g6]
   clear g1 g2 g3 g4 g5 g6
   repeat' (first | (constructor <;> intro _) | (intro _ hy _; subst hy))
   all_goals first
    | (exact ⟨rfl, rfl, rfl, rfl, rfl, rfl⟩)
    | (exfalso; omega)
  ·have hG := hY hC
   clear hY hN
   unfold parF at hG
   obtain ⟨g1, g2, g3, g4, g5, g6⟩ := hG
   rw [g1, g2, g3, g4, g5, g6]
   clear g1 g2 g3 g4 g5 g6
   repeat' (first | (constructor <;> intro _) | (intro _ hy _; subst hy))
   all_goals first
    | (exfalso; omega)
    | omega
 ·obtain ⟨hY, hN⟩ := parF_4 ho hr (by omega)
  rcases Classical.em _ with hC | hC
  rotate_left
  ·have hG := hN hC
   clear hY hN
   unfold parF at hG
   simp only [Int.reduceEq, if_false] at hG
   obtain ⟨g1, g2, g3, g4, g5, g6⟩ := hG
   rw [g1, g2, g3, g4, g5, g6]
   clear g1 g2 g3 g4 g5 g6
   repeat' (first | (constructor <;> intro _) | (intro _ hy _; subst hy))
   all_goals first
    | (exact ⟨rfl, rfl, rfl, rfl, rfl, rfl⟩)
    | (exfalso; omega)
  ·have hG := hY hC
   clear hY hN
   unfold parF at hG
   obtain ⟨g1, g2, g3, g4, g5, g6⟩ := hG
   rw [g1, g2, g3, g4, g5, g6]
   clear g1 g2 g3 g4 g5 g6
   repeat' (first | (constructor <;> intro _) | (intro _ hy _; subst hy))
   all_goals first
    | (exfalso; omega)
    | omega
 ·obtain ⟨hY, hN⟩ := parF_6 ho hr (by omega)
  rcases Classical.em _ with hC | hC
  rotate_left
  ·have hG := hN hC
   clear hY hN
   unfold parF at hG
   simp only [Int.reduceEq, if_false] at hG
   obtain ⟨g1, g2, g3, g4, g5, g6⟩ := hG
   rw [g1, g2, g3, g4, g5, g6]
   clear g1 g2 g3 g4 g5 g6
   repeat' (first | (constructor <;> intro _) | (intro _ hy _; subst hy))
   all_goals first
    | (exact ⟨rfl, rfl, rfl, rfl, rfl, rfl⟩)
    | (exfalso; omega)
  ·have hG := hY hC
   clear hY hN
   unfold parF at hG
   obtain ⟨g1, g2, g3, g4, g5, g6⟩ := hG
   rw [g1, g2, g3, g4, g5, g6]
   clear g1 g2 g3 g4 g5 g6
   repeat' (first | (constructor <;> intro _) | (intro _ hy _; subst hy))
   all_goals first
    | (exfalso; omega)
    | omega
 ·obtain ⟨hY, hN⟩ := parF_7 ho hr (by omega)
  clear w1
  rcases Classical.em _ with hC | hC
  rotate_left
  ·have hG := hN hC
   clear hY hN
   unfold parF at hG
   simp only [Int.reduceEq, if_false] at hG
   obtain ⟨g1, g2, g3, g4, g5, g6⟩ := hG
   rw [g1, g2, g3, g4, g5, g6]
   clear g1 g2 g3 g4 g5 g6
   repeat' (first | (constructor <;> intro _) | (intro _ hy _; subst hy))
   all_goals first
    | (exact ⟨rfl, rfl, rfl, rfl, rfl, rfl⟩)
    | (exfalso; omega)
  ·have hG := hY hC
   clear hY hN
   unfold parF at hG
   obtain ⟨g1, g2, g3, g4, g5, g6⟩ := hG
   rw [g1, g2, g3, g4, g5, g6]
   clear g1 g2 g3 g4 g5 g6
   repeat' (first | (constructor <;> intro _) | (intro _ hy _; subst hy))
   all_goals first
    | (exfalso; omega)
    | omega
theorem plain (i v ro p) : statH 2 rk tree ⟨i, fN, v, ro, p⟩ = P (i 0) (i 1) := by kernel_rfl
theorem ran : ranH us (fun f _ => if [8].contains f then .unroll 400 else .auto) rk 2 tree = true := by kernel_rfl
theorem fineT : fineH 2 rk tree = true := by kernel_rfl
theorem ok : RhOk (cxOf 2) rk.rh := okH us_ok ran fineT (by kernel_rfl) okk fun i v ro p hρ hpre => by rw [plain]; have q := hρ.hi; exact holds _ _ (q 0 _ rfl).1 (q 0 _ rfl).2 (hpre _ (mg 0 rfl)) (hpre _ (mg 1 rfl)) (hpre _ (mg 2 rfl)) (hpre _ (mg 3 rfl)) (hpre _ (mg 4 rfl))
end CRPd
end Go.Proofs.YtppiabilakeadaaGreatDoor
