/-
  What functions of the program answer, as numbers of what they are handed: their runs by the engine, the plain statements behind them. No condition.
-/
import Derived.Test.YtppiabilakeadacDoorKa
import Derived.Test.YtppiabilakeadacDoorKd
import Derived.Test.YtppiabilakeadacDoorGab
import Derived.Test.YtppiabilakeadacDoorGp4
import Derived.Test.YtppiabilakeadacDoorGp2
set_option linter.unusedVariables false
set_option linter.unusedSimpArgs false
set_option maxRecDepth 100000
namespace Go.Proofs.YtppiabilakeadacDoor
open Go.Eng Go.RowKit
namespace CAwake14
def rc : Rc := ⟨4, [], [], [], .one, [.bool (.c 1)]⟩
theorem okb : rc.ok = true := by kernel_rfl
noncomputable def us : SMs := fun Γ ins n => smH (cxG n Γ ins) [CLParse.rk.rh] (smR (cxG n Γ ins) [CLText.rc, CLNumber.rc])
theorem us_ok : SMsOk us := fun Γ ins n => qJj (tabsG n Γ ins) (rhs_cons CLParse.okh (rh_n CLParse.ok) (qZc _)) (qZu (tabsG n Γ ins) (qQa CLText.okb (rc_n CLText.ok) (qQa CLNumber.okb (rc_n CLNumber.ok) (qZd _))))
def Q0 : E := (tC (.c 40) (.c 0))
def Q1 : E := (tC (.c 0) Q0)
def Q2 : E := (tC (.c 0) Q1)
def Q3 : E := (tC (.c 32) (.c 0))
def Q4 : E := (tC (.c 53) Q3)
def Q5 : E := (tC (.c 45) Q4)
def Q6 : E := (tC (.c 32) Q5)
def Q7 : E := (tC (.c 50) Q6)
def Q8 : E := (tC (.c 114) Q7)
def Q9 : E := (tC (.c 32) Q8)
def Q10 : E := (tC (.c 32) Q9)
def Q11 : E := (tC (.c 49) Q10)
def Q12 : E := (tC (.c 114) Q11)
def Q13 : E := (tC (.c 32) Q12)
def Q14 : E := (tC (.c 105) Q13)
def Q15 : E := (tC (.c 100) Q14)
def Q16 : E := (tC (.c 100) Q15)
def Q17 : E := (tC (.c 97) Q16)
def Q18 : E := (tC (.c 32) Q17)
def Q19 : E := (tC Q18 (.c 0))
def Q20 : E := (tC (.c 16) Q19)
def Q21 : E := (tC (.c 53) (.c 0))
def Q22 : E := (tC (.c 32) Q21)
def Q23 : E := (tC (.c 50) Q22)
def Q24 : E := (tC (.c 114) Q23)
def Q25 : E := (tC (.c 32) Q24)
def Q26 : E := (tC (.c 49) Q25)
def Q27 : E := (tC (.c 48) Q26)
def Q28 : E := (tC (.c 114) Q27)
def Q29 : E := (tC (.c 32) Q28)
def Q30 : E := (tC (.c 105) Q29)
def Q31 : E := (tC (.c 100) Q30)
def Q32 : E := (tC (.c 100) Q31)
def Q33 : E := (tC (.c 97) Q32)
def Q34 : E := (tC Q33 (.c 0))
def Q35 : E := (tC (.c 13) Q34)
def Q36 : E := (tC (.c 50) (.c 0))
def Q37 : E := (tC (.c 49) Q36)
def Q38 : E := (tC (.c 45) Q37)
def Q39 : E := (tC Q38 (.c 0))
def Q40 : E := (tC (.c 3) Q39)
def tree : TT (List E) :=
 (.new 1000 (.f 141 (.c 34) (.c 1) Q2) (.br (tl (.f 21 Q20 (.c 0) (.c 0)) (.c 100000)) (.br (tl (.f 21 Q35 (.c 0) (.c 0)) (.c 100000)) (.new 1001 (.f 139 Q40 (.c 0) (.c 0)) (.new 1002 (.f 138 Q40 (.c 0) (.c 0)) (.br (.f 20 (.f 142 (.c 34) (.c 1) Q2) (tC (.c 11) (tC (tC (.c 108) (tC (.c 119) (tC (.c 32) (tC (.c 114) (tC (.c 49) (tC (.c 32) (tC (.c 114) (tC (.c 48) (tC (.c 32) (tC (.c 52) (tC (.c 48) (.c 0)))))))))))) (.c 0))) (.c 0)) (.br (te (.cl 1000 0 6) (.c 0)) (.br (.ite (te (.f 143 Q20 (.c 0) (.c 0)) (.c 31)) (.ite (te (.f 143 Q20 (.c 1) (.c 0)) (.c 1)) (.ite (te (.f 143 Q20 (.c 2) (.c 0)) (.c 2)) (.ite (te (.f 143 Q20 (.c 3) (.c 0)) (.c 0)) (te (.f 143 Q20 (.c 4) (.c 0)) (.c (-5))) (.c 0)) (.c 0)) (.c 0)) (.c 0)) (.br (te (.f 144 Q20 (.c 0) (.c 0)) (.c 0)) (.br (te (.f 144 Q35 (.c
 0) (.c 0)) (.c 3)) (.br (te (.cl 1001 (-999999999) 999999999) (.c (-12))) (.leaf [(.cl 1002 0 1)]) (.leaf [(.c 0)])) (.leaf [(.c 0)])) (.leaf [(.c 0)])) (.leaf [(.c 0)])) (.leaf [(.c 0)])) (.leaf [(.c 0)])))) (.bad 200)) (.bad 200)))
noncomputable def sq0 : Int := (kZ 16 (kZ (kZ 32 (kZ 97 (kZ 100 (kZ 100 (kZ 105 (kZ 32 (kZ 114 (kZ 49 (kZ 32 (kZ 32 (kZ 114 (kZ 50 (kZ 32 (kZ 45 (kZ 53 (kZ 32 0)))))))))))))))) 0))
def P : Prop :=
 Pn (cckZ 34 1 (kZ 0 (kZ 0 (kZ 40 0)))) 0 6 fun y0 => (Pm (PL (qQj sq0) 100000) (Pm (PL (qQj (kZ 13 (kZ (kZ 97 (kZ 100 (kZ 100 (kZ 105 (kZ 32 (kZ 114 (kZ 48 (kZ 49 (kZ 32 (kZ 114 (kZ 50 (kZ 32 (kZ 53 0))))))))))))) 0))) 100000) (Pn (numZ (kZ 3 (kZ (kZ 45 (kZ 49 (kZ 50 0))) 0))) (-999999999) 999999999 fun y1 => Pn (numK (kZ 3 (kZ (kZ 45 (kZ 49 (kZ 50 0))) 0))) 0 1 fun y2 => (Pb (seqZ (texZ 34 1 (kZ 0 (kZ 0 (kZ 40 0)))) (kZ 11 (kZ (kZ 108 (kZ 119 (kZ 32 (kZ 114 (kZ 49 (kZ 32 (kZ 114 (kZ 48 (kZ 32 (kZ 52 (kZ 48 0))))))))))) 0))) (Pb (Pe y0 0) (Pb (iteZ (Pe (parZ sq0 0) 31) (iteZ (Pe (parZ sq0 1) 1) (iteZ (Pe (parZ sq0 2) 2) (iteZ (Pe (parZ sq0 3) 0) (Pe (parZ sq0 4) (-5)) 0) 0) 0) 0) (Pb (Pe (parE sq0) 0) (Pb (Pe (parE (kZ 13 (kZ (kZ 97 (kZ 100 (kZ 100 (kZ 105 (kZ 32 (kZ 114 (kZ 48 (kZ
 49 (kZ 32 (kZ 114 (kZ 50 (kZ 32 (kZ 53 0))))))))))))) 0))) 3) (Pb (Pe y1 (-12)) (((y2 : Int) ≠ 0 ↔ (1 : Int) ≠ 0) ∧ True) Pf) Pf) Pf) Pf) Pf) Pf))))
set_option maxHeartbeats 4000000 in
theorem holds : P := by
 delta P sq0 Pb Pm Pn Pf PL Pe kZ
 obtain ⟨a0, a1, a2, a3, a4, a5⟩ := exA_par
 have b0 := exB_par
 obtain ⟨c0, c1⟩ := exC_num
 have d0 := exD_tex
 obtain ⟨e0, e1⟩ := ex_len
 have k0 : cckI 34 1 0 0 40 = 0 := by decide
 unfold exA at a0 a1 a2 a3 a4 a5 e0
 unfold exB at b0 e1
 unfold exC at c0 c1
 unfold exD at d0
 simp only [chS] at a0 a1 a2 a3 a4 a5 b0 c0 c1 d0 e0 e1
 simp only [nrm, Int.reduceEq, Int.reduceNeg, reduceIte, cckZ_I, texZ_I, a0, a1, a2, a3, a4, a5, b0, c0, c1, e0, e1, k0]
 clear a0 a1 a2 a3 a4 a5 b0 c0 c1 e0 e1
 repeat' (first | (constructor <;> intro _) | (intro _ hy _; subst hy))
 all_goals first
  | trivial
  | omega
  | contradiction
theorem plain (i v ro p) : statR 2 rc tree ⟨i, fN, v, ro, p⟩ = P  := by kernel_rfl
theorem ran : ranR us (fun _ _ => .auto) rc 2 tree = true := by kernel_rfl
theorem fineT : fineR 2 rc tree = true := by kernel_rfl
theorem ok : RcOk (cxOf 2) rc := okR us_ok ran fineT okb fun i v ro p hρ hcap hpre => by rw [plain]; have q := hρ.hi; exact holds
end CAwake14
namespace CRDg1
def rc : Rc := ⟨6, [none], [.num .i64 0 9], [], .one, [.str (.f 129 (.v 0) (.c 0) (.c 0))]⟩
theorem okb : rc.ok = true := by kernel_rfl
noncomputable def us : SMs := fun Γ ins n => smH (cxG n Γ ins) [] (smR (cxG n Γ ins) [])
theorem us_ok : SMsOk us := fun Γ ins n => qJj (tabsG n Γ ins) (qZc _) (qZu (tabsG n Γ ins) (qZd _))
def tree : TT (List E) :=
(.br (.b .le .i64 (.v 0) (.b .padd .i64 (.v 0) (.c 1)))
 (.br (.b .le .i64 (.b .padd .i64 (.v 0) (.c 1)) (.f 21 (.f 11 (.c 10) (.f 11 (.f 11 (.c 48) (.f 11 (.c 49) (.f 11 (.c 50) (.f 11 (.c 51) (.f 11 (.c 52) (.f 11 (.c 53) (.f 11 (.c 54) (.f 11 (.c 55) (.f 11 (.c 56) (.f 11 (.c 57) (.c 0) (.c 0)) (.c 0)) (.c 0)) (.c 0)) (.c 0)) (.c 0)) (.c 0)) (.c 0)) (.c 0)) (.c 0)) (.c 0) (.c 0)) (.c 0)) (.c 0) (.c 0)))
 (.leaf [(.f 11 (.b .psub .i64 (.b .padd .i64 (.v 0) (.c 1)) (.v 0)) (.f 11 (.f 18 (.f 11 (.c 48) (.f 11 (.c 49) (.f 11 (.c 50) (.f 11 (.c 51) (.f 11 (.c 52) (.f 11 (.c 53) (.f 11 (.c 54) (.f 11 (.c 55) (.f 11 (.c 56) (.f 11 (.c 57) (.c 0) (.c 0)) (.c 0)) (.c 0)) (.c 0)) (.c 0)) (.c 0)) (.c 0)) (.c 0)) (.c 0)) (.c 0)) (.v 0) (.c 0)) (.c 0) (.c 0)) (.c 0))])
 (.bad 200))
 (.bad 200))
def P (p0 : Int) : Prop :=
 (((qQx (decide (p0 ≤ (p0 + 1)))) ≠ 0 →
  (((qQx (decide ((p0 + 1) ≤ (qQj (qQq 10 (qQq (qQq 48 (qQq 49 (qQq 50 (qQq 51 (qQq 52 (qQq 53 (qQq 54 (qQq 55 (qQq 56 (qQq 57 0)))))))))) 0)))))) ≠ 0 →
   qQz (qQq ((p0 + 1) - p0) (qQq (qQy (qQq 48 (qQq 49 (qQq 50 (qQq 51 (qQq 52 (qQq 53 (qQq 54 (qQq 55 (qQq 56 (qQq 57 0)))))))))) p0) 0)) = qQz (itoZ p0) ∧ True) ∧ ((qQx (decide ((p0 + 1) ≤ (qQj (qQq 10 (qQq (qQq 48 (qQq 49 (qQq 50 (qQq 51 (qQq 52 (qQq 53 (qQq 54 (qQq 55 (qQq 56 (qQq 57 0)))))))))) 0)))))) = 0 →
   False))) ∧ ((qQx (decide (p0 ≤ (p0 + 1)))) = 0 →
  False))
theorem holds (p0 : Int) (l_p0 : 0 ≤ p0) (u_p0 : p0 ≤ 9) : P p0 := by
 unfold P
 simp only [nrm, Int.reduceEq, Int.reduceNeg, reduceIte, qKh]
 refine ⟨fun _ => ⟨fun _ => qXz (by omega) (by omega), fun h => ?_⟩, fun h => ?_⟩ <;> omega
theorem plain (i v ro p) : statR 2 rc tree ⟨i, fN, v, ro, p⟩ = P (i 0) := by kernel_rfl
theorem ran : ranR us (fun _ _ => .auto) rc 2 tree = true := by kernel_rfl
theorem fineT : fineR 2 rc tree = true := by kernel_rfl
theorem ok : RcOk (cxOf 2) rc := okR us_ok ran fineT okb fun i v ro p hρ hcap hpre => by rw [plain]; have q := hρ.hi; exact holds _ (q 0 _ rfl).1 (q 0 _ rfl).2
end CRDg1
namespace CRDg2
def rc : Rc := ⟨6, [none], [.num .i64 0 99], [], .one, [.str (.f 129 (.v 0) (.c 0) (.c 0))]⟩
theorem okb : rc.ok = true := by kernel_rfl
noncomputable def us : SMs := fun Γ ins n => smBut 6 (smH (cxG n Γ ins) [] (smR (cxG n Γ ins) [CRDg1.rc]))
theorem us_ok : SMsOk us := fun Γ ins n => qKa (qJj (tabsG n Γ ins) (qZc _) (qZu (tabsG n Γ ins) (qQa CRDg1.okb (rc_n CRDg1.ok) (qZd _))))
def tree : TT (List E) :=
(.br (.b .lt .i64 (.v 0) (.c 10))
 (.br (.b .le .i64 (.v 0) (.b .padd .i64 (.v 0) (.c 1)))
 (.br (.b .le .i64 (.b .padd .i64 (.v 0) (.c 1)) (.f 21 (.f 11 (.c 10) (.f 11 (.f 11 (.c 48) (.f 11 (.c 49) (.f 11 (.c 50) (.f 11 (.c 51) (.f 11 (.c 52) (.f 11 (.c 53) (.f 11 (.c 54) (.f 11 (.c 55) (.f 11 (.c 56) (.f 11 (.c 57) (.c 0) (.c 0)) (.c 0)) (.c 0)) (.c 0)) (.c 0)) (.c 0)) (.c 0)) (.c 0)) (.c 0)) (.c 0)) (.c 0) (.c 0)) (.c 0)) (.c 0) (.c 0)))
 (.leaf [(.f 11 (.b .psub .i64 (.b .padd .i64 (.v 0) (.c 1)) (.v 0)) (.f 11 (.f 18 (.f 11 (.c 48) (.f 11 (.c 49) (.f 11 (.c 50) (.f 11 (.c 51) (.f 11 (.c 52) (.f 11 (.c 53) (.f 11 (.c 54) (.f 11 (.c 55) (.f 11 (.c 56) (.f 11 (.c 57) (.c 0) (.c 0)) (.c 0)) (.c 0)) (.c 0)) (.c 0)) (.c 0)) (.c 0)) (.c 0)) (.c 0)) (.c 0)) (.v 0) (.c 0)) (.c 0) (.c 0)) (.c 0))])
 (.bad 200))
 (.bad 200))
 (.br (.b .le .i64 (.b .quo .i64 (.v 0) (.c 10)) (.c 9))
 (.br (.b .le .i64 (.b .padd .i64 (.f 21 (.f 129 (.b .quo .i64 (.v 0) (.c 10)) (.c 0) (.c 0)) (.c 0) (.c 0)) (.f 21 (.f 129 (.b .rem .i64 (.v 0) (.c 10)) (.c 0) (.c 0)) (.c 0) (.c 0))) (.c 1000000))
 (.leaf [(.f 23 (.f 129 (.b .quo .i64 (.v 0) (.c 10)) (.c 0) (.c 0)) (.f 129 (.b .rem .i64 (.v 0) (.c 10)) (.c 0) (.c 0)) (.c 0))])
 (.bad 200))
 (.bad 200)))
def P (p0 : Int) : Prop :=
 (((qQx (decide (p0 < 10))) ≠ 0 →
  (((qQx (decide (p0 ≤ (p0 + 1)))) ≠ 0 →
   (((qQx (decide ((p0 + 1) ≤ (qQj (qQq 10 (qQq (qQq 48 (qQq 49 (qQq 50 (qQq 51 (qQq 52 (qQq 53 (qQq 54 (qQq 55 (qQq 56 (qQq 57 0)))))))))) 0)))))) ≠ 0 →
    qQz (qQq ((p0 + 1) - p0) (qQq (qQy (qQq 48 (qQq 49 (qQq 50 (qQq 51 (qQq 52 (qQq 53 (qQq 54 (qQq 55 (qQq 56 (qQq 57 0)))))))))) p0) 0)) = qQz (itoZ p0) ∧ True) ∧ ((qQx (decide ((p0 + 1) ≤ (qQj (qQq 10 (qQq (qQq 48 (qQq 49 (qQq 50 (qQq 51 (qQq 52 (qQq 53 (qQq 54 (qQq 55 (qQq 56 (qQq 57 0)))))))))) 0)))))) = 0 →
    False))) ∧ ((qQx (decide (p0 ≤ (p0 + 1)))) = 0 →
   False))) ∧ ((qQx (decide (p0 < 10))) = 0 →
  (((qQx (decide ((BO.ev .quo .i64 p0 10) ≤ 9))) ≠ 0 →
   (((qQx (decide (((qQj (itoZ (BO.ev .quo .i64 p0 10))) + (qQj (itoZ (BO.ev .rem .i64 p0 10)))) ≤ 1000000))) ≠ 0 →
    qQz (catZ (itoZ (BO.ev .quo .i64 p0 10)) (itoZ (BO.ev .rem .i64 p0 10))) = qQz (itoZ p0) ∧ True) ∧ ((qQx (decide (((qQj (itoZ (BO.ev .quo .i64 p0 10))) + (qQj (itoZ (BO.ev .rem .i64 p0 10)))) ≤ 1000000))) = 0 →
    False))) ∧ ((qQx (decide ((BO.ev .quo .i64 p0 10) ≤ 9))) = 0 →
   False))))
theorem holds (p0 : Int) (l_p0 : 0 ≤ p0) (u_p0 : p0 ≤ 99) : P p0 := by
 unfold P
 have e1 : BO.ev .quo .i64 p0 10 = p0 / 10 := quo10 (by omega) (by omega)
 have e2 : BO.ev .rem .i64 p0 10 = p0 % 10 := rem10 (by omega)
 have a := qZz (n := p0 / 10) (by omega) (by omega)
 have b := qZz (n := p0 % 10) (by omega) (by omega)
 rw [e1, e2]
 simp only [nrm, Int.reduceEq, Int.reduceNeg, reduceIte, qKh]
 refine ⟨fun h0 => ⟨fun _ => ⟨fun _ => qXz (by omega) (by omega), fun h => ?_⟩, fun h => ?_⟩, fun h0 => ⟨fun _ => ⟨fun _ => dig_big (by omega) (by omega), fun h => ?_⟩, fun h => ?_⟩⟩ <;> omega
theorem plain (i v ro p) : statR 2 rc tree ⟨i, fN, v, ro, p⟩ = P (i 0) := by kernel_rfl
theorem ran : ranR us (fun _ _ => .auto) rc 2 tree = true := by kernel_rfl
theorem fineT : fineR 2 rc tree = true := by kernel_rfl
theorem ok : RcOk (cxOf 2) rc := okR us_ok ran fineT okb fun i v ro p hρ hcap hpre => by rw [plain]; have q := hρ.hi; exact holds _ (q 0 _ rfl).1 (q 0 _ rfl).2
end CRDg2
namespace CRDg3
def rc : Rc := ⟨6, [none], [.num .i64 0 999], [], .one, [.str (.f 129 (.v 0) (.c 0) (.c 0))]⟩
theorem okb : rc.ok = true := by kernel_rfl
noncomputable def us : SMs := fun Γ ins n => smBut 6 (smH (cxG n Γ ins) [] (smR (cxG n Γ ins) [CRDg2.rc]))
theorem us_ok : SMsOk us := fun Γ ins n => qKa (qJj (tabsG n Γ ins) (qZc _) (qZu (tabsG n Γ ins) (qQa CRDg2.okb (rc_n CRDg2.ok) (qZd _))))
def tree : TT (List E) :=
(.br (.b .lt .i64 (.v 0) (.c 10))
 (.br (.b .le .i64 (.v 0) (.b .padd .i64 (.v 0) (.c 1)))
 (.br (.b .le .i64 (.b .padd .i64 (.v 0) (.c 1)) (.f 21 (.f 11 (.c 10) (.f 11 (.f 11 (.c 48) (.f 11 (.c 49) (.f 11 (.c 50) (.f 11 (.c 51) (.f 11 (.c 52) (.f 11 (.c 53) (.f 11 (.c 54) (.f 11 (.c 55) (.f 11 (.c 56) (.f 11 (.c 57) (.c 0) (.c 0)) (.c 0)) (.c 0)) (.c 0)) (.c 0)) (.c 0)) (.c 0)) (.c 0)) (.c 0)) (.c 0)) (.c 0) (.c 0)) (.c 0)) (.c 0) (.c 0)))
 (.leaf [(.f 11 (.b .psub .i64 (.b .padd .i64 (.v 0) (.c 1)) (.v 0)) (.f 11 (.f 18 (.f 11 (.c 48) (.f 11 (.c 49) (.f 11 (.c 50) (.f 11 (.c 51) (.f 11 (.c 52) (.f 11 (.c 53) (.f 11 (.c 54) (.f 11 (.c 55) (.f 11 (.c 56) (.f 11 (.c 57) (.c 0) (.c 0)) (.c 0)) (.c 0)) (.c 0)) (.c 0)) (.c 0)) (.c 0)) (.c 0)) (.c 0)) (.c 0)) (.v 0) (.c 0)) (.c 0) (.c 0)) (.c 0))])
 (.bad 200))
 (.bad 200))
 (.br (.b .le .i64 (.b .quo .i64 (.v 0) (.c 10)) (.c 99))
 (.br (.b .le .i64 (.b .padd .i64 (.f 21 (.f 129 (.b .quo .i64 (.v 0) (.c 10)) (.c 0) (.c 0)) (.c 0) (.c 0)) (.f 21 (.f 129 (.b .rem .i64 (.v 0) (.c 10)) (.c 0) (.c 0)) (.c 0) (.c 0))) (.c 1000000))
 (.leaf [(.f 23 (.f 129 (.b .quo .i64 (.v 0) (.c 10)) (.c 0) (.c 0)) (.f 129 (.b .rem .i64 (.v 0) (.c 10)) (.c 0) (.c 0)) (.c 0))])
 (.bad 200))
 (.bad 200)))
def P (p0 : Int) : Prop :=
 (((qQx (decide (p0 < 10))) ≠ 0 →
  (((qQx (decide (p0 ≤ (p0 + 1)))) ≠ 0 →
   (((qQx (decide ((p0 + 1) ≤ (qQj (qQq 10 (qQq (qQq 48 (qQq 49 (qQq 50 (qQq 51 (qQq 52 (qQq 53 (qQq 54 (qQq 55 (qQq 56 (qQq 57 0)))))))))) 0)))))) ≠ 0 →
    qQz (qQq ((p0 + 1) - p0) (qQq (qQy (qQq 48 (qQq 49 (qQq 50 (qQq 51 (qQq 52 (qQq 53 (qQq 54 (qQq 55 (qQq 56 (qQq 57 0)))))))))) p0) 0)) = qQz (itoZ p0) ∧ True) ∧ ((qQx (decide ((p0 + 1) ≤ (qQj (qQq 10 (qQq (qQq 48 (qQq 49 (qQq 50 (qQq 51 (qQq 52 (qQq 53 (qQq 54 (qQq 55 (qQq 56 (qQq 57 0)))))))))) 0)))))) = 0 →
    False))) ∧ ((qQx (decide (p0 ≤ (p0 + 1)))) = 0 →
   False))) ∧ ((qQx (decide (p0 < 10))) = 0 →
  (((qQx (decide ((BO.ev .quo .i64 p0 10) ≤ 99))) ≠ 0 →
   (((qQx (decide (((qQj (itoZ (BO.ev .quo .i64 p0 10))) + (qQj (itoZ (BO.ev .rem .i64 p0 10)))) ≤ 1000000))) ≠ 0 →
    qQz (catZ (itoZ (BO.ev .quo .i64 p0 10)) (itoZ (BO.ev .rem .i64 p0 10))) = qQz (itoZ p0) ∧ True) ∧ ((qQx (decide (((qQj (itoZ (BO.ev .quo .i64 p0 10))) + (qQj (itoZ (BO.ev .rem .i64 p0 10)))) ≤ 1000000))) = 0 →
    False))) ∧ ((qQx (decide ((BO.ev .quo .i64 p0 10) ≤ 99))) = 0 →
   False))))
theorem holds (p0 : Int) (l_p0 : 0 ≤ p0) (u_p0 : p0 ≤ 999) : P p0 := by
 unfold P
 have e1 : BO.ev .quo .i64 p0 10 = p0 / 10 := quo10 (by omega) (by omega)
 have e2 : BO.ev .rem .i64 p0 10 = p0 % 10 := rem10 (by omega)
 have a := qZz (n := p0 / 10) (by omega) (by omega)
 have b := qZz (n := p0 % 10) (by omega) (by omega)
 rw [e1, e2]
 simp only [nrm, Int.reduceEq, Int.reduceNeg, reduceIte, qKh]
 refine ⟨fun h0 => ⟨fun _ => ⟨fun _ => qXz (by omega) (by omega), fun h => ?_⟩, fun h => ?_⟩, fun h0 => ⟨fun _ => ⟨fun _ => dig_big (by omega) (by omega), fun h => ?_⟩, fun h => ?_⟩⟩ <;> omega
theorem plain (i v ro p) : statR 2 rc tree ⟨i, fN, v, ro, p⟩ = P (i 0) := by kernel_rfl
theorem ran : ranR us (fun _ _ => .auto) rc 2 tree = true := by kernel_rfl
theorem fineT : fineR 2 rc tree = true := by kernel_rfl
theorem ok : RcOk (cxOf 2) rc := okR us_ok ran fineT okb fun i v ro p hρ hcap hpre => by rw [plain]; have q := hρ.hi; exact holds _ (q 0 _ rfl).1 (q 0 _ rfl).2
end CRDg3
namespace CRDg4
def rc : Rc := ⟨6, [none], [.num .i64 0 9999], [], .one, [.str (.f 129 (.v 0) (.c 0) (.c 0))]⟩
theorem okb : rc.ok = true := by kernel_rfl
noncomputable def us : SMs := fun Γ ins n => smBut 6 (smH (cxG n Γ ins) [] (smR (cxG n Γ ins) [CRDg3.rc]))
theorem us_ok : SMsOk us := fun Γ ins n => qKa (qJj (tabsG n Γ ins) (qZc _) (qZu (tabsG n Γ ins) (qQa CRDg3.okb (rc_n CRDg3.ok) (qZd _))))
def tree : TT (List E) :=
(.br (.b .lt .i64 (.v 0) (.c 10))
 (.br (.b .le .i64 (.v 0) (.b .padd .i64 (.v 0) (.c 1)))
 (.br (.b .le .i64 (.b .padd .i64 (.v 0) (.c 1)) (.f 21 (.f 11 (.c 10) (.f 11 (.f 11 (.c 48) (.f 11 (.c 49) (.f 11 (.c 50) (.f 11 (.c 51) (.f 11 (.c 52) (.f 11 (.c 53) (.f 11 (.c 54) (.f 11 (.c 55) (.f 11 (.c 56) (.f 11 (.c 57) (.c 0) (.c 0)) (.c 0)) (.c 0)) (.c 0)) (.c 0)) (.c 0)) (.c 0)) (.c 0)) (.c 0)) (.c 0)) (.c 0) (.c 0)) (.c 0)) (.c 0) (.c 0)))
 (.leaf [(.f 11 (.b .psub .i64 (.b .padd .i64 (.v 0) (.c 1)) (.v 0)) (.f 11 (.f 18 (.f 11 (.c 48) (.f 11 (.c 49) (.f 11 (.c 50) (.f 11 (.c 51) (.f 11 (.c 52) (.f 11 (.c 53) (.f 11 (.c 54) (.f 11 (.c 55) (.f 11 (.c 56) (.f 11 (.c 57) (.c 0) (.c 0)) (.c 0)) (.c 0)) (.c 0)) (.c 0)) (.c 0)) (.c 0)) (.c 0)) (.c 0)) (.c 0)) (.v 0) (.c 0)) (.c 0) (.c 0)) (.c 0))])
 (.bad 200))
 (.bad 200))
 (.br (.b .le .i64 (.b .quo .i64 (.v 0) (.c 10)) (.c 999))
 (.br (.b .le .i64 (.b .padd .i64 (.f 21 (.f 129 (.b .quo .i64 (.v 0) (.c 10)) (.c 0) (.c 0)) (.c 0) (.c 0)) (.f 21 (.f 129 (.b .rem .i64 (.v 0) (.c 10)) (.c 0) (.c 0)) (.c 0) (.c 0))) (.c 1000000))
 (.leaf [(.f 23 (.f 129 (.b .quo .i64 (.v 0) (.c 10)) (.c 0) (.c 0)) (.f 129 (.b .rem .i64 (.v 0) (.c 10)) (.c 0) (.c 0)) (.c 0))])
 (.bad 200))
 (.bad 200)))
def P (p0 : Int) : Prop :=
 (((qQx (decide (p0 < 10))) ≠ 0 →
  (((qQx (decide (p0 ≤ (p0 + 1)))) ≠ 0 →
   (((qQx (decide ((p0 + 1) ≤ (qQj (qQq 10 (qQq (qQq 48 (qQq 49 (qQq 50 (qQq 51 (qQq 52 (qQq 53 (qQq 54 (qQq 55 (qQq 56 (qQq 57 0)))))))))) 0)))))) ≠ 0 →
    qQz (qQq ((p0 + 1) - p0) (qQq (qQy (qQq 48 (qQq 49 (qQq 50 (qQq 51 (qQq 52 (qQq 53 (qQq 54 (qQq 55 (qQq 56 (qQq 57 0)))))))))) p0) 0)) = qQz (itoZ p0) ∧ True) ∧ ((qQx (decide ((p0 + 1) ≤ (qQj (qQq 10 (qQq (qQq 48 (qQq 49 (qQq 50 (qQq 51 (qQq 52 (qQq 53 (qQq 54 (qQq 55 (qQq 56 (qQq 57 0)))))))))) 0)))))) = 0 →
    False))) ∧ ((qQx (decide (p0 ≤ (p0 + 1)))) = 0 →
   False))) ∧ ((qQx (decide (p0 < 10))) = 0 →
  (((qQx (decide ((BO.ev .quo .i64 p0 10) ≤ 999))) ≠ 0 →
   (((qQx (decide (((qQj (itoZ (BO.ev .quo .i64 p0 10))) + (qQj (itoZ (BO.ev .rem .i64 p0 10)))) ≤ 1000000))) ≠ 0 →
    qQz (catZ (itoZ (BO.ev .quo .i64 p0 10)) (itoZ (BO.ev .rem .i64 p0 10))) = qQz (itoZ p0) ∧ True) ∧ ((qQx (decide (((qQj (itoZ (BO.ev .quo .i64 p0 10))) + (qQj (itoZ (BO.ev .rem .i64 p0 10)))) ≤ 1000000))) = 0 →
    False))) ∧ ((qQx (decide ((BO.ev .quo .i64 p0 10) ≤ 999))) = 0 →
   False))))
theorem holds (p0 : Int) (l_p0 : 0 ≤ p0) (u_p0 : p0 ≤ 9999) : P p0 := by
 unfold P
 have e1 : BO.ev .quo .i64 p0 10 = p0 / 10 := quo10 (by omega) (by omega)
 have e2 : BO.ev .rem .i64 p0 10 = p0 % 10 := rem10 (by omega)
 have a := qZz (n := p0 / 10) (by omega) (by omega)
 have b := qZz (n := p0 % 10) (by omega) (by omega)
 rw [e1, e2]
 simp only [nrm, Int.reduceEq, Int.reduceNeg, reduceIte, qKh]
 refine ⟨fun h0 => ⟨fun _ => ⟨fun _ => qXz (by omega) (by omega), fun h => ?_⟩, fun h => ?_⟩, fun h0 => ⟨fun _ => ⟨fun _ => dig_big (by omega) (by omega), fun h => ?_⟩, fun h => ?_⟩⟩ <;> omega
theorem plain (i v ro p) : statR 2 rc tree ⟨i, fN, v, ro, p⟩ = P (i 0) := by kernel_rfl
theorem ran : ranR us (fun _ _ => .auto) rc 2 tree = true := by kernel_rfl
theorem fineT : fineR 2 rc tree = true := by kernel_rfl
theorem ok : RcOk (cxOf 2) rc := okR us_ok ran fineT okb fun i v ro p hρ hcap hpre => by rw [plain]; have q := hρ.hi; exact holds _ (q 0 _ rfl).1 (q 0 _ rfl).2
end CRDg4
namespace CRDg5
def rc : Rc := ⟨6, [none], [.num .i64 0 99999], [], .one, [.str (.f 129 (.v 0) (.c 0) (.c 0))]⟩
theorem okb : rc.ok = true := by kernel_rfl
noncomputable def us : SMs := fun Γ ins n => smBut 6 (smH (cxG n Γ ins) [] (smR (cxG n Γ ins) [CRDg4.rc]))
theorem us_ok : SMsOk us := fun Γ ins n => qKa (qJj (tabsG n Γ ins) (qZc _) (qZu (tabsG n Γ ins) (qQa CRDg4.okb (rc_n CRDg4.ok) (qZd _))))
def tree : TT (List E) :=
(.br (.b .lt .i64 (.v 0) (.c 10))
 (.br (.b .le .i64 (.v 0) (.b .padd .i64 (.v 0) (.c 1)))
 (.br (.b .le .i64 (.b .padd .i64 (.v 0) (.c 1)) (.f 21 (.f 11 (.c 10) (.f 11 (.f 11 (.c 48) (.f 11 (.c 49) (.f 11 (.c 50) (.f 11 (.c 51) (.f 11 (.c 52) (.f 11 (.c 53) (.f 11 (.c 54) (.f 11 (.c 55) (.f 11 (.c 56) (.f 11 (.c 57) (.c 0) (.c 0)) (.c 0)) (.c 0)) (.c 0)) (.c 0)) (.c 0)) (.c 0)) (.c 0)) (.c 0)) (.c 0)) (.c 0) (.c 0)) (.c 0)) (.c 0) (.c 0)))
 (.leaf [(.f 11 (.b .psub .i64 (.b .padd .i64 (.v 0) (.c 1)) (.v 0)) (.f 11 (.f 18 (.f 11 (.c 48) (.f 11 (.c 49) (.f 11 (.c 50) (.f 11 (.c 51) (.f 11 (.c 52) (.f 11 (.c 53) (.f 11 (.c 54) (.f 11 (.c 55) (.f 11 (.c 56) (.f 11 (.c 57) (.c 0) (.c 0)) (.c 0)) (.c 0)) (.c 0)) (.c 0)) (.c 0)) (.c 0)) (.c 0)) (.c 0)) (.c 0)) (.v 0) (.c 0)) (.c 0) (.c 0)) (.c 0))])
 (.bad 200))
 (.bad 200))
 (.br (.b .le .i64 (.b .quo .i64 (.v 0) (.c 10)) (.c 9999))
 (.br (.b .le .i64 (.b .padd .i64 (.f 21 (.f 129 (.b .quo .i64 (.v 0) (.c 10)) (.c 0) (.c 0)) (.c 0) (.c 0)) (.f 21 (.f 129 (.b .rem .i64 (.v 0) (.c 10)) (.c 0) (.c 0)) (.c 0) (.c 0))) (.c 1000000))
 (.leaf [(.f 23 (.f 129 (.b .quo .i64 (.v 0) (.c 10)) (.c 0) (.c 0)) (.f 129 (.b .rem .i64 (.v 0) (.c 10)) (.c 0) (.c 0)) (.c 0))])
 (.bad 200))
 (.bad 200)))
def P (p0 : Int) : Prop :=
 (((qQx (decide (p0 < 10))) ≠ 0 →
  (((qQx (decide (p0 ≤ (p0 + 1)))) ≠ 0 →
   (((qQx (decide ((p0 + 1) ≤ (qQj (qQq 10 (qQq (qQq 48 (qQq 49 (qQq 50 (qQq 51 (qQq 52 (qQq 53 (qQq 54 (qQq 55 (qQq 56 (qQq 57 0)))))))))) 0)))))) ≠ 0 →
    qQz (qQq ((p0 + 1) - p0) (qQq (qQy (qQq 48 (qQq 49 (qQq 50 (qQq 51 (qQq 52 (qQq 53 (qQq 54 (qQq 55 (qQq 56 (qQq 57 0)))))))))) p0) 0)) = qQz (itoZ p0) ∧ True) ∧ ((qQx (decide ((p0 + 1) ≤ (qQj (qQq 10 (qQq (qQq 48 (qQq 49 (qQq 50 (qQq 51 (qQq 52 (qQq 53 (qQq 54 (qQq 55 (qQq 56 (qQq 57 0)))))))))) 0)))))) = 0 →
    False))) ∧ ((qQx (decide (p0 ≤ (p0 + 1)))) = 0 →
   False))) ∧ ((qQx (decide (p0 < 10))) = 0 →
  (((qQx (decide ((BO.ev .quo .i64 p0 10) ≤ 9999))) ≠ 0 →
   (((qQx (decide (((qQj (itoZ (BO.ev .quo .i64 p0 10))) + (qQj (itoZ (BO.ev .rem .i64 p0 10)))) ≤ 1000000))) ≠ 0 →
    qQz (catZ (itoZ (BO.ev .quo .i64 p0 10)) (itoZ (BO.ev .rem .i64 p0 10))) = qQz (itoZ p0) ∧ True) ∧ ((qQx (decide (((qQj (itoZ (BO.ev .quo .i64 p0 10))) + (qQj (itoZ (BO.ev .rem .i64 p0 10)))) ≤ 1000000))) = 0 →
    False))) ∧ ((qQx (decide ((BO.ev .quo .i64 p0 10) ≤ 9999))) = 0 →
   False))))
theorem holds (p0 : Int) (l_p0 : 0 ≤ p0) (u_p0 : p0 ≤ 99999) : P p0 := by
 unfold P
 have e1 : BO.ev .quo .i64 p0 10 = p0 / 10 := quo10 (by omega) (by omega)
 have e2 : BO.ev .rem .i64 p0 10 = p0 % 10 := rem10 (by omega)
 have a := qZz (n := p0 / 10) (by omega) (by omega)
 have b := qZz (n := p0 % 10) (by omega) (by omega)
 rw [e1, e2]
 simp only [nrm, Int.reduceEq, Int.reduceNeg, reduceIte, qKh]
 refine ⟨fun h0 => ⟨fun _ => ⟨fun _ => qXz (by omega) (by omega), fun h => ?_⟩, fun h => ?_⟩, fun h0 => ⟨fun _ => ⟨fun _ => dig_big (by omega) (by omega), fun h => ?_⟩, fun h => ?_⟩⟩ <;> omega
theorem plain (i v ro p) : statR 2 rc tree ⟨i, fN, v, ro, p⟩ = P (i 0) := by kernel_rfl
theorem ran : ranR us (fun _ _ => .auto) rc 2 tree = true := by kernel_rfl
theorem fineT : fineR 2 rc tree = true := by kernel_rfl
theorem ok : RcOk (cxOf 2) rc := okR us_ok ran fineT okb fun i v ro p hρ hcap hpre => by rw [plain]; have q := hρ.hi; exact holds _ (q 0 _ rfl).1 (q 0 _ rfl).2
end CRDg5
namespace CRDg6
def rc : Rc := ⟨6, [none], [.num .i64 0 999999], [], .one, [.str (.f 129 (.v 0) (.c 0) (.c 0))]⟩
theorem okb : rc.ok = true := by kernel_rfl
noncomputable def us : SMs := fun Γ ins n => smBut 6 (smH (cxG n Γ ins) [] (smR (cxG n Γ ins) [CRDg5.rc]))
theorem us_ok : SMsOk us := fun Γ ins n => qKa (qJj (tabsG n Γ ins) (qZc _) (qZu (tabsG n Γ ins) (qQa CRDg5.okb (rc_n CRDg5.ok) (qZd _))))
def tree : TT (List E) :=
(.br (.b .lt .i64 (.v 0) (.c 10))
 (.br (.b .le .i64 (.v 0) (.b .padd .i64 (.v 0) (.c 1)))
 (.br (.b .le .i64 (.b .padd .i64 (.v 0) (.c 1)) (.f 21 (.f 11 (.c 10) (.f 11 (.f 11 (.c 48) (.f 11 (.c 49) (.f 11 (.c 50) (.f 11 (.c 51) (.f 11 (.c 52) (.f 11 (.c 53) (.f 11 (.c 54) (.f 11 (.c 55) (.f 11 (.c 56) (.f 11 (.c 57) (.c 0) (.c 0)) (.c 0)) (.c 0)) (.c 0)) (.c 0)) (.c 0)) (.c 0)) (.c 0)) (.c 0)) (.c 0)) (.c 0) (.c 0)) (.c 0)) (.c 0) (.c 0)))
 (.leaf [(.f 11 (.b .psub .i64 (.b .padd .i64 (.v 0) (.c 1)) (.v 0)) (.f 11 (.f 18 (.f 11 (.c 48) (.f 11 (.c 49) (.f 11 (.c 50) (.f 11 (.c 51) (.f 11 (.c 52) (.f 11 (.c 53) (.f 11 (.c 54) (.f 11 (.c 55) (.f 11 (.c 56) (.f 11 (.c 57) (.c 0) (.c 0)) (.c 0)) (.c 0)) (.c 0)) (.c 0)) (.c 0)) (.c 0)) (.c 0)) (.c 0)) (.c 0)) (.v 0) (.c 0)) (.c 0) (.c 0)) (.c 0))])
 (.bad 200))
 (.bad 200))
 (.br (.b .le .i64 (.b .quo .i64 (.v 0) (.c 10)) (.c 99999))
 (.br (.b .le .i64 (.b .padd .i64 (.f 21 (.f 129 (.b .quo .i64 (.v 0) (.c 10)) (.c 0) (.c 0)) (.c 0) (.c 0)) (.f 21 (.f 129 (.b .rem .i64 (.v 0) (.c 10)) (.c 0) (.c 0)) (.c 0) (.c 0))) (.c 1000000))
 (.leaf [(.f 23 (.f 129 (.b .quo .i64 (.v 0) (.c 10)) (.c 0) (.c 0)) (.f 129 (.b .rem .i64 (.v 0) (.c 10)) (.c 0) (.c 0)) (.c 0))])
 (.bad 200))
 (.bad 200)))
def P (p0 : Int) : Prop :=
 (((qQx (decide (p0 < 10))) ≠ 0 →
  (((qQx (decide (p0 ≤ (p0 + 1)))) ≠ 0 →
   (((qQx (decide ((p0 + 1) ≤ (qQj (qQq 10 (qQq (qQq 48 (qQq 49 (qQq 50 (qQq 51 (qQq 52 (qQq 53 (qQq 54 (qQq 55 (qQq 56 (qQq 57 0)))))))))) 0)))))) ≠ 0 →
    qQz (qQq ((p0 + 1) - p0) (qQq (qQy (qQq 48 (qQq 49 (qQq 50 (qQq 51 (qQq 52 (qQq 53 (qQq 54 (qQq 55 (qQq 56 (qQq 57 0)))))))))) p0) 0)) = qQz (itoZ p0) ∧ True) ∧ ((qQx (decide ((p0 + 1) ≤ (qQj (qQq 10 (qQq (qQq 48 (qQq 49 (qQq 50 (qQq 51 (qQq 52 (qQq 53 (qQq 54 (qQq 55 (qQq 56 (qQq 57 0)))))))))) 0)))))) = 0 →
    False))) ∧ ((qQx (decide (p0 ≤ (p0 + 1)))) = 0 →
   False))) ∧ ((qQx (decide (p0 < 10))) = 0 →
  (((qQx (decide ((BO.ev .quo .i64 p0 10) ≤ 99999))) ≠ 0 →
   (((qQx (decide (((qQj (itoZ (BO.ev .quo .i64 p0 10))) + (qQj (itoZ (BO.ev .rem .i64 p0 10)))) ≤ 1000000))) ≠ 0 →
    qQz (catZ (itoZ (BO.ev .quo .i64 p0 10)) (itoZ (BO.ev .rem .i64 p0 10))) = qQz (itoZ p0) ∧ True) ∧ ((qQx (decide (((qQj (itoZ (BO.ev .quo .i64 p0 10))) + (qQj (itoZ (BO.ev .rem .i64 p0 10)))) ≤ 1000000))) = 0 →
    False))) ∧ ((qQx (decide ((BO.ev .quo .i64 p0 10) ≤ 99999))) = 0 →
   False))))
theorem holds (p0 : Int) (l_p0 : 0 ≤ p0) (u_p0 : p0 ≤ 999999) : P p0 := by
 unfold P
 have e1 : BO.ev .quo .i64 p0 10 = p0 / 10 := quo10 (by omega) (by omega)
 have e2 : BO.ev .rem .i64 p0 10 = p0 % 10 := rem10 (by omega)
 have a := qZz (n := p0 / 10) (by omega) (by omega)
 have b := qZz (n := p0 % 10) (by omega) (by omega)
 rw [e1, e2]
 simp only [nrm, Int.reduceEq, Int.reduceNeg, reduceIte, qKh]
 refine ⟨fun h0 => ⟨fun _ => ⟨fun _ => qXz (by omega) (by omega), fun h => ?_⟩, fun h => ?_⟩, fun h0 => ⟨fun _ => ⟨fun _ => dig_big (by omega) (by omega), fun h => ?_⟩, fun h => ?_⟩⟩ <;> omega
theorem plain (i v ro p) : statR 2 rc tree ⟨i, fN, v, ro, p⟩ = P (i 0) := by kernel_rfl
theorem ran : ranR us (fun _ _ => .auto) rc 2 tree = true := by kernel_rfl
theorem fineT : fineR 2 rc tree = true := by kernel_rfl
theorem ok : RcOk (cxOf 2) rc := okR us_ok ran fineT okb fun i v ro p hρ hcap hpre => by rw [plain]; have q := hρ.hi; exact holds _ (q 0 _ rfl).1 (q 0 _ rfl).2
end CRDg6
namespace CRDg7
def rc : Rc := ⟨6, [none], [.num .i64 0 9999999], [], .one, [.str (.f 129 (.v 0) (.c 0) (.c 0))]⟩
theorem okb : rc.ok = true := by kernel_rfl
noncomputable def us : SMs := fun Γ ins n => smBut 6 (smH (cxG n Γ ins) [] (smR (cxG n Γ ins) [CRDg6.rc]))
theorem us_ok : SMsOk us := fun Γ ins n => qKa (qJj (tabsG n Γ ins) (qZc _) (qZu (tabsG n Γ ins) (qQa CRDg6.okb (rc_n CRDg6.ok) (qZd _))))
def Q0 : E := (tp (.v 0) (.c 1))
def Q1 : E := (tC (.c 57) (.c 0))
def Q2 : E := (tC (.c 56) Q1)
def Q3 : E := (tC (.c 55) Q2)
def Q4 : E := (tC (.c 54) Q3)
def Q5 : E := (tC (.c 53) Q4)
def Q6 : E := (tC (.c 52) Q5)
def Q7 : E := (tC (.c 51) Q6)
def Q8 : E := (tC (.c 50) Q7)
def Q9 : E := (tC (.c 49) Q8)
def Q10 : E := (tC (.c 48) Q9)
def Q11 : E := (.b .quo .i64 (.v 0) (.c 10))
def Q12 : E := (.f 129 Q11 (.c 0) (.c 0))
def Q13 : E := (.b .rem .i64 (.v 0) (.c 10))
def Q14 : E := (.f 129 Q13 (.c 0) (.c 0))
def tree : TT (List E) :=
 (.br (tk (.v 0) (.c 10)) (.br (tl (.v 0) Q0) (.br (tl Q0 (.f 21 (tC (.c 10) (tC Q10 (.c 0))) (.c 0) (.c 0))) (.leaf [(tC (.b .psub .i64 Q0 (.v 0)) (tC (.f 18 Q10 (.v 0) (.c 0)) (.c 0)))]) (.bad 200)) (.bad 200)) (.br (tl Q11 (.c 999999)) (.br (tl (tp (.f 21 Q12 (.c 0) (.c 0)) (.f 21 Q14 (.c 0) (.c 0))) (.c 1000000)) (.leaf [(.f 23 Q12 Q14 (.c 0))]) (.bad 200)) (.bad 200)))
def P (a : Int) : Prop :=
 (Pb (Pl a 10) (Pm (PL a (a + 1)) (Pm (PL (a + 1) (qQj (kZ 10 (kZ (kZ 48 (kZ 49 (kZ 50 (kZ 51 (kZ 52 (kZ 53 (kZ 54 (kZ 55 (kZ 56 (kZ 57 0)))))))))) 0)))) (qQz (kZ ((a + 1) - a) (kZ (qQy (kZ 48 (kZ 49 (kZ 50 (kZ 51 (kZ 52 (kZ 53 (kZ 54 (kZ 55 (kZ 56 (kZ 57 0)))))))))) a) 0)) = qQz (itoZ a) ∧ True))) (Pm (PL (BO.ev .quo .i64 a 10) 999999) (Pm (PL ((qQj (itoZ (BO.ev .quo .i64 a 10))) + (qQj (itoZ (BO.ev .rem .i64 a 10)))) 1000000) (qQz (catZ (itoZ (BO.ev .quo .i64 a 10)) (itoZ (BO.ev .rem .i64 a 10))) = qQz (itoZ a) ∧ True))))
theorem holds (p0 : Int) (l_p0 : 0 ≤ p0) (u_p0 : p0 ≤ 9999999) : P p0 := by
 delta P Pb Pm PL Pl kZ
 have e1 : BO.ev .quo .i64 p0 10 = p0 / 10 := quo10 (by omega) (by omega)
 have e2 : BO.ev .rem .i64 p0 10 = p0 % 10 := rem10 (by omega)
 have a := qZz (n := p0 / 10) (by omega) (by omega)
 have b := qZz (n := p0 % 10) (by omega) (by omega)
 rw [e1, e2]
 simp only [nrm, Int.reduceEq, Int.reduceNeg, reduceIte, qKh]
 refine ⟨fun h0 => ⟨fun _ => ⟨fun _ => qXz (by omega) (by omega), fun h => ?_⟩, fun h => ?_⟩, fun h0 => ⟨fun _ => ⟨fun _ => dig_big (by omega) (by omega), fun h => ?_⟩, fun h => ?_⟩⟩ <;> omega
theorem plain (i v ro p) : statR 2 rc tree ⟨i, fN, v, ro, p⟩ = P (i 0) := by kernel_rfl
theorem ran : ranR us (fun _ _ => .auto) rc 2 tree = true := by kernel_rfl
theorem fineT : fineR 2 rc tree = true := by kernel_rfl
theorem ok : RcOk (cxOf 2) rc := okR us_ok ran fineT okb fun i v ro p hρ hcap hpre => by rw [plain]; have q := hρ.hi; exact holds _ (q 0 _ rfl).1 (q 0 _ rfl).2
end CRDg7
namespace CRDg8
def rc : Rc := ⟨6, [none], [.num .i64 0 99999999], [], .one, [.str (.f 129 (.v 0) (.c 0) (.c 0))]⟩
theorem okb : rc.ok = true := by kernel_rfl
noncomputable def us : SMs := fun Γ ins n => smBut 6 (smH (cxG n Γ ins) [] (smR (cxG n Γ ins) [CRDg7.rc]))
theorem us_ok : SMsOk us := fun Γ ins n => qKa (qJj (tabsG n Γ ins) (qZc _) (qZu (tabsG n Γ ins) (qQa CRDg7.okb (rc_n CRDg7.ok) (qZd _))))
def Q0 : E := (tp (.v 0) (.c 1))
def Q1 : E := (tC (.c 57) (.c 0))
def Q2 : E := (tC (.c 56) Q1)
def Q3 : E := (tC (.c 55) Q2)
def Q4 : E := (tC (.c 54) Q3)
def Q5 : E := (tC (.c 53) Q4)
def Q6 : E := (tC (.c 52) Q5)
def Q7 : E := (tC (.c 51) Q6)
def Q8 : E := (tC (.c 50) Q7)
def Q9 : E := (tC (.c 49) Q8)
def Q10 : E := (tC (.c 48) Q9)
def Q11 : E := (.b .quo .i64 (.v 0) (.c 10))
def Q12 : E := (.f 129 Q11 (.c 0) (.c 0))
def Q13 : E := (.b .rem .i64 (.v 0) (.c 10))
def Q14 : E := (.f 129 Q13 (.c 0) (.c 0))
def tree : TT (List E) :=
 (.br (tk (.v 0) (.c 10)) (.br (tl (.v 0) Q0) (.br (tl Q0 (.f 21 (tC (.c 10) (tC Q10 (.c 0))) (.c 0) (.c 0))) (.leaf [(tC (.b .psub .i64 Q0 (.v 0)) (tC (.f 18 Q10 (.v 0) (.c 0)) (.c 0)))]) (.bad 200)) (.bad 200)) (.br (tl Q11 (.c 9999999)) (.br (tl (tp (.f 21 Q12 (.c 0) (.c 0)) (.f 21 Q14 (.c 0) (.c 0))) (.c 1000000)) (.leaf [(.f 23 Q12 Q14 (.c 0))]) (.bad 200)) (.bad 200)))
def P (a : Int) : Prop :=
 (Pb (Pl a 10) (Pm (PL a (a + 1)) (Pm (PL (a + 1) (qQj (kZ 10 (kZ (kZ 48 (kZ 49 (kZ 50 (kZ 51 (kZ 52 (kZ 53 (kZ 54 (kZ 55 (kZ 56 (kZ 57 0)))))))))) 0)))) (qQz (kZ ((a + 1) - a) (kZ (qQy (kZ 48 (kZ 49 (kZ 50 (kZ 51 (kZ 52 (kZ 53 (kZ 54 (kZ 55 (kZ 56 (kZ 57 0)))))))))) a) 0)) = qQz (itoZ a) ∧ True))) (Pm (PL (BO.ev .quo .i64 a 10) 9999999) (Pm (PL ((qQj (itoZ (BO.ev .quo .i64 a 10))) + (qQj (itoZ (BO.ev .rem .i64 a 10)))) 1000000) (qQz (catZ (itoZ (BO.ev .quo .i64 a 10)) (itoZ (BO.ev .rem .i64 a 10))) = qQz (itoZ a) ∧ True))))
theorem holds (p0 : Int) (l_p0 : 0 ≤ p0) (u_p0 : p0 ≤ 99999999) : P p0 := by
 delta P Pb Pm PL Pl kZ
 have e1 : BO.ev .quo .i64 p0 10 = p0 / 10 := quo10 (by omega) (by omega)
 have e2 : BO.ev .rem .i64 p0 10 = p0 % 10 := rem10 (by omega)
 have a := qZz (n := p0 / 10) (by omega) (by omega)
 have b := qZz (n := p0 % 10) (by omega) (by omega)
 rw [e1, e2]
 simp only [nrm, Int.reduceEq, Int.reduceNeg, reduceIte, qKh]
 refine ⟨fun h0 => ⟨fun _ => ⟨fun _ => qXz (by omega) (by omega), fun h => ?_⟩, fun h => ?_⟩, fun h0 => ⟨fun _ => ⟨fun _ => dig_big (by omega) (by omega), fun h => ?_⟩, fun h => ?_⟩⟩ <;> omega
theorem plain (i v ro p) : statR 2 rc tree ⟨i, fN, v, ro, p⟩ = P (i 0) := by kernel_rfl
theorem ran : ranR us (fun _ _ => .auto) rc 2 tree = true := by kernel_rfl
theorem fineT : fineR 2 rc tree = true := by kernel_rfl
theorem ok : RcOk (cxOf 2) rc := okR us_ok ran fineT okb fun i v ro p hρ hcap hpre => by rw [plain]; have q := hρ.hi; exact holds _ (q 0 _ rfl).1 (q 0 _ rfl).2
end CRDg8
namespace CRDg9
def rc : Rc := ⟨6, [none], [.num .i64 0 999999999], [], .one, [.str (.f 129 (.v 0) (.c 0) (.c 0))]⟩
theorem okb : rc.ok = true := by kernel_rfl
noncomputable def us : SMs := fun Γ ins n => smBut 6 (smH (cxG n Γ ins) [] (smR (cxG n Γ ins) [CRDg8.rc]))
theorem us_ok : SMsOk us := fun Γ ins n => qKa (qJj (tabsG n Γ ins) (qZc _) (qZu (tabsG n Γ ins) (qQa CRDg8.okb (rc_n CRDg8.ok) (qZd _))))
def Q0 : E := (tp (.v 0) (.c 1))
def Q1 : E := (tC (.c 57) (.c 0))
def Q2 : E := (tC (.c 56) Q1)
def Q3 : E := (tC (.c 55) Q2)
def Q4 : E := (tC (.c 54) Q3)
def Q5 : E := (tC (.c 53) Q4)
def Q6 : E := (tC (.c 52) Q5)
def Q7 : E := (tC (.c 51) Q6)
def Q8 : E := (tC (.c 50) Q7)
def Q9 : E := (tC (.c 49) Q8)
def Q10 : E := (tC (.c 48) Q9)
def Q11 : E := (.b .quo .i64 (.v 0) (.c 10))
def Q12 : E := (.f 129 Q11 (.c 0) (.c 0))
def Q13 : E := (.b .rem .i64 (.v 0) (.c 10))
def Q14 : E := (.f 129 Q13 (.c 0) (.c 0))
def tree : TT (List E) :=
 (.br (tk (.v 0) (.c 10)) (.br (tl (.v 0) Q0) (.br (tl Q0 (.f 21 (tC (.c 10) (tC Q10 (.c 0))) (.c 0) (.c 0))) (.leaf [(tC (.b .psub .i64 Q0 (.v 0)) (tC (.f 18 Q10 (.v 0) (.c 0)) (.c 0)))]) (.bad 200)) (.bad 200)) (.br (tl Q11 (.c 99999999)) (.br (tl (tp (.f 21 Q12 (.c 0) (.c 0)) (.f 21 Q14 (.c 0) (.c 0))) (.c 1000000)) (.leaf [(.f 23 Q12 Q14 (.c 0))]) (.bad 200)) (.bad 200)))
def P (a : Int) : Prop :=
 (Pb (Pl a 10) (Pm (PL a (a + 1)) (Pm (PL (a + 1) (qQj (kZ 10 (kZ (kZ 48 (kZ 49 (kZ 50 (kZ 51 (kZ 52 (kZ 53 (kZ 54 (kZ 55 (kZ 56 (kZ 57 0)))))))))) 0)))) (qQz (kZ ((a + 1) - a) (kZ (qQy (kZ 48 (kZ 49 (kZ 50 (kZ 51 (kZ 52 (kZ 53 (kZ 54 (kZ 55 (kZ 56 (kZ 57 0)))))))))) a) 0)) = qQz (itoZ a) ∧ True))) (Pm (PL (BO.ev .quo .i64 a 10) 99999999) (Pm (PL ((qQj (itoZ (BO.ev .quo .i64 a 10))) + (qQj (itoZ (BO.ev .rem .i64 a 10)))) 1000000) (qQz (catZ (itoZ (BO.ev .quo .i64 a 10)) (itoZ (BO.ev .rem .i64 a 10))) = qQz (itoZ a) ∧ True))))
theorem holds (p0 : Int) (l_p0 : 0 ≤ p0) (u_p0 : p0 ≤ 999999999) : P p0 := by
 delta P Pb Pm PL Pl kZ
 have e1 : BO.ev .quo .i64 p0 10 = p0 / 10 := quo10 (by omega) (by omega)
 have e2 : BO.ev .rem .i64 p0 10 = p0 % 10 := rem10 (by omega)
 have a := qZz (n := p0 / 10) (by omega) (by omega)
 have b := qZz (n := p0 % 10) (by omega) (by omega)
 rw [e1, e2]
 simp only [nrm, Int.reduceEq, Int.reduceNeg, reduceIte, qKh]
 refine ⟨fun h0 => ⟨fun _ => ⟨fun _ => qXz (by omega) (by omega), fun h => ?_⟩, fun h => ?_⟩, fun h0 => ⟨fun _ => ⟨fun _ => dig_big (by omega) (by omega), fun h => ?_⟩, fun h => ?_⟩⟩ <;> omega
theorem plain (i v ro p) : statR 2 rc tree ⟨i, fN, v, ro, p⟩ = P (i 0) := by kernel_rfl
theorem ran : ranR us (fun _ _ => .auto) rc 2 tree = true := by kernel_rfl
theorem fineT : fineR 2 rc tree = true := by kernel_rfl
theorem ok : RcOk (cxOf 2) rc := okR us_ok ran fineT okb fun i v ro p hρ hcap hpre => by rw [plain]; have q := hρ.hi; exact holds _ (q 0 _ rfl).1 (q 0 _ rfl).2
end CRDg9
end Go.Proofs.YtppiabilakeadacDoor
