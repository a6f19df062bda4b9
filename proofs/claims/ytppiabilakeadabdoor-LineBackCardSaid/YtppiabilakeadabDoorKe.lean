/-
  What functions of the program answer, as numbers of what they are handed: their runs by the engine, the plain statements behind them. No condition.
-/
import Derived.Test.YtppiabilakeadabDoorKa
import Derived.Test.YtppiabilakeadabDoorKd
import Derived.Test.YtppiabilakeadabDoorGab
import Derived.Test.YtppiabilakeadabDoorGp4
set_option linter.unusedVariables false
set_option linter.unusedSimpArgs false
set_option maxRecDepth 100000
namespace Go.Proofs.YtppiabilakeadabDoor
open Go.Eng Go.RowKit
namespace CAwake14
def rc : Rc := ⟨5, [], [], [], .one, [.bool (.c 1)]⟩
theorem okb : rc.ok = true := by kernel_rfl
noncomputable def us : SMs := fun Γ ins n => smH (cxG n Γ ins) [CLParse.rk.rh] (smR (cxG n Γ ins) [CLText.rc, CLNumber.rc])
theorem us_ok : SMsOk us := fun Γ ins n => qKx (tabsG n Γ ins) (rhs_cons CLParse.okh (rh_n CLParse.ok) (qJt _)) (qXt (tabsG n Γ ins) (qQc CLText.okb (rc_n CLText.ok) (qQc CLNumber.okb (rc_n CLNumber.ok) (qXz _))))
def Q0 : E := (tC (.c 40) (.c 0))
def Q1 : E := (tC (.c 0) Q0)
def Q2 : E := (tC (.c 0) Q1)
def Q3 : E := (tC (.c 32) (.c 0))
def Q4 : E := (tC (.c 53) Q3)
def Q5 : E := (tC (.c 45) Q4)
def Q6 : E := (tC (.c 32) Q5)
def Q7 : E := (tC (.c 50) Q6)
def Q8 : E := (tC (.c 114) Q7)
def Q9 : E := (tC (.c 32) Q8)
def Q10 : E := (tC (.c 32) Q9)
def Q11 : E := (tC (.c 49) Q10)
def Q12 : E := (tC (.c 114) Q11)
def Q13 : E := (tC (.c 32) Q12)
def Q14 : E := (tC (.c 105) Q13)
def Q15 : E := (tC (.c 100) Q14)
def Q16 : E := (tC (.c 100) Q15)
def Q17 : E := (tC (.c 97) Q16)
def Q18 : E := (tC (.c 32) Q17)
def Q19 : E := (tC Q18 (.c 0))
def Q20 : E := (tC (.c 16) Q19)
def Q21 : E := (tC (.c 53) (.c 0))
def Q22 : E := (tC (.c 32) Q21)
def Q23 : E := (tC (.c 50) Q22)
def Q24 : E := (tC (.c 114) Q23)
def Q25 : E := (tC (.c 32) Q24)
def Q26 : E := (tC (.c 49) Q25)
def Q27 : E := (tC (.c 48) Q26)
def Q28 : E := (tC (.c 114) Q27)
def Q29 : E := (tC (.c 32) Q28)
def Q30 : E := (tC (.c 105) Q29)
def Q31 : E := (tC (.c 100) Q30)
def Q32 : E := (tC (.c 100) Q31)
def Q33 : E := (tC (.c 97) Q32)
def Q34 : E := (tC Q33 (.c 0))
def Q35 : E := (tC (.c 13) Q34)
def Q36 : E := (tC (.c 50) (.c 0))
def Q37 : E := (tC (.c 49) Q36)
def Q38 : E := (tC (.c 45) Q37)
def Q39 : E := (tC Q38 (.c 0))
def Q40 : E := (tC (.c 3) Q39)
def tree : TT (List E) :=
 (.new 1000 (.f 141 (.c 34) (.c 1) Q2) (.br (tl (.f 21 Q20 (.c 0) (.c 0)) (.c 100000)) (.br (tl (.f 21 Q35 (.c 0) (.c 0)) (.c 100000)) (.new 1001 (.f 139 Q40 (.c 0) (.c 0)) (.new 1002 (.f 138 Q40 (.c 0) (.c 0)) (.br (.f 20 (.f 142 (.c 34) (.c 1) Q2) (tC (.c 11) (tC (tC (.c 108) (tC (.c 119) (tC (.c 32) (tC (.c 114) (tC (.c 49) (tC (.c 32) (tC (.c 114) (tC (.c 48) (tC (.c 32) (tC (.c 52) (tC (.c 48) (.c 0)))))))))))) (.c 0))) (.c 0)) (.br (te (.cl 1000 0 6) (.c 0)) (.br (.ite (te (.f 143 Q20 (.c 0) (.c 0)) (.c 31)) (.ite (te (.f 143 Q20 (.c 1) (.c 0)) (.c 1)) (.ite (te (.f 143 Q20 (.c 2) (.c 0)) (.c 2)) (.ite (te (.f 143 Q20 (.c 3) (.c 0)) (.c 0)) (te (.f 143 Q20 (.c 4) (.c 0)) (.c (-5))) (.c 0)) (.c 0)) (.c 0)) (.c 0)) (.br (te (.f 144 Q20 (.c 0) (.c 0)) (.c 0)) (.br (te (.f 144 Q35 (.c
 0) (.c 0)) (.c 3)) (.br (te (.cl 1001 (-999999999) 999999999) (.c (-12))) (.leaf [(.cl 1002 0 1)]) (.leaf [(.c 0)])) (.leaf [(.c 0)])) (.leaf [(.c 0)])) (.leaf [(.c 0)])) (.leaf [(.c 0)])) (.leaf [(.c 0)])))) (.bad 200)) (.bad 200)))
noncomputable def sq0 : Int := (kZ 16 (kZ (kZ 32 (kZ 97 (kZ 100 (kZ 100 (kZ 105 (kZ 32 (kZ 114 (kZ 49 (kZ 32 (kZ 32 (kZ 114 (kZ 50 (kZ 32 (kZ 45 (kZ 53 (kZ 32 0)))))))))))))))) 0))
def P : Prop :=
 Pn (cckZ 34 1 (kZ 0 (kZ 0 (kZ 40 0)))) 0 6 fun y0 => (Pm (PL (qQz sq0) 100000) (Pm (PL (qQz (kZ 13 (kZ (kZ 97 (kZ 100 (kZ 100 (kZ 105 (kZ 32 (kZ 114 (kZ 48 (kZ 49 (kZ 32 (kZ 114 (kZ 50 (kZ 32 (kZ 53 0))))))))))))) 0))) 100000) (Pn (numZ (kZ 3 (kZ (kZ 45 (kZ 49 (kZ 50 0))) 0))) (-999999999) 999999999 fun y1 => Pn (numK (kZ 3 (kZ (kZ 45 (kZ 49 (kZ 50 0))) 0))) 0 1 fun y2 => (Pb (seqZ (texZ 34 1 (kZ 0 (kZ 0 (kZ 40 0)))) (kZ 11 (kZ (kZ 108 (kZ 119 (kZ 32 (kZ 114 (kZ 49 (kZ 32 (kZ 114 (kZ 48 (kZ 32 (kZ 52 (kZ 48 0))))))))))) 0))) (Pb (Pe y0 0) (Pb (iteZ (Pe (parZ sq0 0) 31) (iteZ (Pe (parZ sq0 1) 1) (iteZ (Pe (parZ sq0 2) 2) (iteZ (Pe (parZ sq0 3) 0) (Pe (parZ sq0 4) (-5)) 0) 0) 0) 0) (Pb (Pe (parE sq0) 0) (Pb (Pe (parE (kZ 13 (kZ (kZ 97 (kZ 100 (kZ 100 (kZ 105 (kZ 32 (kZ 114 (kZ 48 (kZ
 49 (kZ 32 (kZ 114 (kZ 50 (kZ 32 (kZ 53 0))))))))))))) 0))) 3) (Pb (Pe y1 (-12)) (((y2 : Int) ≠ 0 ↔ (1 : Int) ≠ 0) ∧ True) Pf) Pf) Pf) Pf) Pf) Pf))))
set_option maxHeartbeats 4000000 in
theorem holds : P := by
 delta P sq0 Pb Pm Pn Pf PL Pe kZ
 obtain ⟨a0, a1, a2, a3, a4, a5⟩ := exA_par
 have b0 := exB_par
 obtain ⟨c0, c1⟩ := exC_num
 have d0 := exD_tex
 obtain ⟨e0, e1⟩ := ex_len
 have k0 : cckI 34 1 0 0 40 = 0 := by decide
 unfold exA at a0 a1 a2 a3 a4 a5 e0
 unfold exB at b0 e1
 unfold exC at c0 c1
 unfold exD at d0
 simp only [chS] at a0 a1 a2 a3 a4 a5 b0 c0 c1 d0 e0 e1
 simp only [nrm, Int.reduceEq, Int.reduceNeg, reduceIte, cckZ_I, texZ_I, a0, a1, a2, a3, a4, a5, b0, c0, c1, e0, e1, k0]
 clear a0 a1 a2 a3 a4 a5 b0 c0 c1 e0 e1
 repeat' (first | (constructor <;> intro _) | (intro _ hy _; subst hy))
 all_goals first
  | trivial
  | omega
  | contradiction
theorem plain (i v ro p) : statR 2 rc tree ⟨i, fN, v, ro, p⟩ = P  := by kernel_rfl
theorem ran : ranR us (fun _ _ => .auto) rc 2 tree = true := by kernel_rfl
theorem fineT : fineR 2 rc tree = true := by kernel_rfl
theorem ok : RcOk (cxOf 2) rc := okR us_ok ran fineT okb fun i v ro p hρ hcap hpre => by rw [plain]; have q := hρ.hi; exact holds
end CAwake14
end Go.Proofs.YtppiabilakeadabDoor
