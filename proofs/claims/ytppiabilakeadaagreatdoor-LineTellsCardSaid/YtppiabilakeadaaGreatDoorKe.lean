/-
  What functions of the program answer, as numbers of what they are handed: their runs by the engine, the plain statements behind them. No condition.
-/
import Derived.Test.YtppiabilakeadaaGreatDoorKa
import Derived.Test.YtppiabilakeadaaGreatDoorKd
import Derived.Test.YtppiabilakeadaaGreatDoorGab
import Derived.Test.YtppiabilakeadaaGreatDoorGp4
import Derived.Test.YtppiabilakeadaaGreatDoorGp1
import Derived.Test.YtppiabilakeadaaGreatDoorGp2
set_option linter.unusedVariables false
set_option linter.unusedSimpArgs false
set_option maxRecDepth 100000
namespace Go.Proofs.YtppiabilakeadaaGreatDoor
open Go.Eng Go.RowKit
namespace CAwake14
def rc : Rc := ⟨4, [], [], [], .one, [.bool (.c 1)]⟩
theorem okb : rc.ok = true := by kernel_rfl
noncomputable def us : SMs := fun Γ ins n => smH (cxG n Γ ins) [CLParse.rk.rh] (smR (cxG n Γ ins) [CLText.rc, CLNumber.rc])
theorem us_ok : SMsOk us := fun Γ ins n => qZb (tabsG n Γ ins) (rhs_cons CLParse.okh (rh_n CLParse.ok) (qQs _)) (qZw (tabsG n Γ ins) (qQw CLText.okb (rc_n CLText.ok) (qQw CLNumber.okb (rc_n CLNumber.ok) (qQt _))))
def Q0 : E := (tC (.c 40) (.c 0))
def Q1 : E := (tC (.c 0) Q0)
def Q2 : E := (tC (.c 0) Q1)
def Q3 : E := (tC (.c 32) (.c 0))
def Q4 : E := (tC (.c 53) Q3)
def Q5 : E := (tC (.c 45) Q4)
def Q6 : E := (tC (.c 32) Q5)
def Q7 : E := (tC (.c 50) Q6)
def Q8 : E := (tC (.c 114) Q7)
def Q9 : E := (tC (.c 32) Q8)
def Q10 : E := (tC (.c 32) Q9)
def Q11 : E := (tC (.c 49) Q10)
def Q12 : E := (tC (.c 114) Q11)
def Q13 : E := (tC (.c 32) Q12)
def Q14 : E := (tC (.c 105) Q13)
def Q15 : E := (tC (.c 100) Q14)
def Q16 : E := (tC (.c 100) Q15)
def Q17 : E := (tC (.c 97) Q16)
def Q18 : E := (tC (.c 32) Q17)
def Q19 : E := (tC Q18 (.c 0))
def Q20 : E := (tC (.c 16) Q19)
def Q21 : E := (tC (.c 53) (.c 0))
def Q22 : E := (tC (.c 32) Q21)
def Q23 : E := (tC (.c 50) Q22)
def Q24 : E := (tC (.c 114) Q23)
def Q25 : E := (tC (.c 32) Q24)
def Q26 : E := (tC (.c 49) Q25)
def Q27 : E := (tC (.c 48) Q26)
def Q28 : E := (tC (.c 114) Q27)
def Q29 : E := (tC (.c 32) Q28)
def Q30 : E := (tC (.c 105) Q29)
def Q31 : E := (tC (.c 100) Q30)
def Q32 : E := (tC (.c 100) Q31)
def Q33 : E := (tC (.c 97) Q32)
def Q34 : E := (tC Q33 (.c 0))
def Q35 : E := (tC (.c 13) Q34)
def Q36 : E := (tC (.c 50) (.c 0))
def Q37 : E := (tC (.c 49) Q36)
def Q38 : E := (tC (.c 45) Q37)
def Q39 : E := (tC Q38 (.c 0))
def Q40 : E := (tC (.c 3) Q39)
def tree : TT (List E) :=
 (.new 1000 (.f 141 (.c 34) (.c 1) Q2) (.br (tl (.f 21 Q20 (.c 0) (.c 0)) (.c 100000)) (.br (tl (.f 21 Q35 (.c 0) (.c 0)) (.c 100000)) (.new 1001 (.f 139 Q40 (.c 0) (.c 0)) (.new 1002 (.f 138 Q40 (.c 0) (.c 0)) (.br (.f 20 (.f 142 (.c 34) (.c 1) Q2) (tC (.c 11) (tC (tC (.c 108) (tC (.c 119) (tC (.c 32) (tC (.c 114) (tC (.c 49) (tC (.c 32) (tC (.c 114) (tC (.c 48) (tC (.c 32) (tC (.c 52) (tC (.c 48) (.c 0)))))))))))) (.c 0))) (.c 0)) (.br (te (.cl 1000 0 6) (.c 0)) (.br (.ite (te (.f 143 Q20 (.c 0) (.c 0)) (.c 31)) (.ite (te (.f 143 Q20 (.c 1) (.c 0)) (.c 1)) (.ite (te (.f 143 Q20 (.c 2) (.c 0)) (.c 2)) (.ite (te (.f 143 Q20 (.c 3) (.c 0)) (.c 0)) (te (.f 143 Q20 (.c 4) (.c 0)) (.c (-5))) (.c 0)) (.c 0)) (.c 0)) (.c 0)) (.br (te (.f 144 Q20 (.c 0) (.c 0)) (.c 0)) (.br (te (.f 144 Q35 (.c
 0) (.c 0)) (.c 3)) (.br (te (.cl 1001 (-999999999) 999999999) (.c (-12))) (.leaf [(.cl 1002 0 1)]) (.leaf [(.c 0)])) (.leaf [(.c 0)])) (.leaf [(.c 0)])) (.leaf [(.c 0)])) (.leaf [(.c 0)])) (.leaf [(.c 0)])))) (.bad 200)) (.bad 200)))
noncomputable def sq0 : Int := (kZ 16 (kZ (kZ 32 (kZ 97 (kZ 100 (kZ 100 (kZ 105 (kZ 32 (kZ 114 (kZ 49 (kZ 32 (kZ 32 (kZ 114 (kZ 50 (kZ 32 (kZ 45 (kZ 53 (kZ 32 0)))))))))))))))) 0))
def P : Prop :=
 Pn (cckZ 34 1 (kZ 0 (kZ 0 (kZ 40 0)))) 0 6 fun y0 => (Pm (PL (qQz sq0) 100000) (Pm (PL (qQz (kZ 13 (kZ (kZ 97 (kZ 100 (kZ 100 (kZ 105 (kZ 32 (kZ 114 (kZ 48 (kZ 49 (kZ 32 (kZ 114 (kZ 50 (kZ 32 (kZ 53 0))))))))))))) 0))) 100000) (Pn (numZ (kZ 3 (kZ (kZ 45 (kZ 49 (kZ 50 0))) 0))) (-999999999) 999999999 fun y1 => Pn (numK (kZ 3 (kZ (kZ 45 (kZ 49 (kZ 50 0))) 0))) 0 1 fun y2 => (Pb (seqZ (texZ 34 1 (kZ 0 (kZ 0 (kZ 40 0)))) (kZ 11 (kZ (kZ 108 (kZ 119 (kZ 32 (kZ 114 (kZ 49 (kZ 32 (kZ 114 (kZ 48 (kZ 32 (kZ 52 (kZ 48 0))))))))))) 0))) (Pb (Pe y0 0) (Pb (iteZ (Pe (parZ sq0 0) 31) (iteZ (Pe (parZ sq0 1) 1) (iteZ (Pe (parZ sq0 2) 2) (iteZ (Pe (parZ sq0 3) 0) (Pe (parZ sq0 4) (-5)) 0) 0) 0) 0) (Pb (Pe (parE sq0) 0) (Pb (Pe (parE (kZ 13 (kZ (kZ 97 (kZ 100 (kZ 100 (kZ 105 (kZ 32 (kZ 114 (kZ 48 (kZ
 49 (kZ 32 (kZ 114 (kZ 50 (kZ 32 (kZ 53 0))))))))))))) 0))) 3) (Pb (Pe y1 (-12)) (((y2 : Int) ≠ 0 ↔ (1 : Int) ≠ 0) ∧ True) Pf) Pf) Pf) Pf) Pf) Pf))))
set_option maxHeartbeats 4000000 in
theorem holds : P := by
 delta P sq0 Pb Pm Pn Pf PL Pe kZ
 obtain ⟨a0, a1, a2, a3, a4, a5⟩ := exA_par
 have b0 := exB_par
 obtain ⟨c0, c1⟩ := exC_num
 have d0 := exD_tex
 obtain ⟨e0, e1⟩ := ex_len
 have k0 : cckI 34 1 0 0 40 = 0 := by decide
 unfold exA at a0 a1 a2 a3 a4 a5 e0
 unfold exB at b0 e1
 unfold exC at c0 c1
 unfold exD at d0
 simp only [chS] at a0 a1 a2 a3 a4 a5 b0 c0 c1 d0 e0 e1
 simp only [nrm, Int.reduceEq, Int.reduceNeg, reduceIte, qYc, texZ_I, a0, a1, a2, a3, a4, a5, b0, c0, c1, e0, e1, k0]
 clear a0 a1 a2 a3 a4 a5 b0 c0 c1 e0 e1
 repeat' (first | (constructor <;> intro _) | (intro _ hy _; subst hy))
 all_goals first
  | trivial
  | omega
  | contradiction
theorem plain (i v ro p) : statR 2 rc tree ⟨i, fN, v, ro, p⟩ = P  := by kernel_rfl
theorem ran : ranR us (fun _ _ => .auto) rc 2 tree = true := by kernel_rfl
theorem fineT : fineR 2 rc tree = true := by kernel_rfl
theorem ok : RcOk (cxOf 2) rc := okR us_ok ran fineT okb fun i v ro p hρ hcap hpre => by rw [plain]; have q := hρ.hi; exact holds
end CAwake14
namespace CRShape06
def rc : Rc := ⟨22, [none], [.int .i64], [], .one, [.str (.f 11 (.ite (.b .le .i64 (.c 1) (.v 0)) (.ite (.b .le .i64 (.v 0) (.c 43)) (.c 4) (.c 0)) (.c 0)) (.f 11 (.f 11 (.ite (.b .le .i64 (.v 0) (.c 38)) (.c 100) (.ite (.b .eq .i64 (.v 0) (.c 40)) (.c 100) (.c 45))) (.f 11 (.ite (.b .le .i64 (.v 0) (.c 32)) (.c 97) (.ite (.b .eq .i64 (.v 0) (.c 33)) (.c 45) (.ite (.b .le .i64 (.v 0) (.c 38)) (.c 97) (.ite (.b .eq .i64 (.v 0) (.c 41)) (.c 97) (.c 45))))) (.f 11 (.ite (.b .le .i64 (.v 0) (.c 23)) (.c 98) (.c 45)) (.f 11 (.ite (.b .eq .i64 (.v 0) (.c 31)) (.c 115) (.ite (.b .le .i64 (.v 0) (.c 31)) (.c 45) (.ite (.b .le .i64 (.v 0) (.c 40)) (.c 117) (.c 45)))) (.c 0) (.c 0)) (.c 0)) (.c 0)) (.c 0)) (.c 0) (.c 0)) (.c 0))]⟩
theorem okb : rc.ok = true := by kernel_rfl
noncomputable def us : SMs := fun Γ ins n => smH (cxG n Γ ins) [] (smR (cxG n Γ ins) [])
theorem us_ok : SMsOk us := fun Γ ins n => qZb (tabsG n Γ ins) (qQs _) (qZw (tabsG n Γ ins) (qQt _))
def Q0 : E := (tC (.c 45) (.c 0))
def Q1 : E := (tC (.c 45) Q0)
def Q2 : E := (tC (.c 97) Q1)
def Q3 : E := (tC (.c 100) Q2)
def Q4 : E := (tC Q3 (.c 0))
def Q5 : E := (tC (.c 4) Q4)
def Q6 : E := (te (.v 0) (.c 31))
def Q7 : E := (tC (.c 115) (.c 0))
def Q8 : E := (tC (.c 45) Q7)
def Q9 : E := (tC (.c 97) Q8)
def Q10 : E := (tC (.c 100) Q9)
def Q11 : E := (tC Q10 (.c 0))
def Q12 : E := (tC (.c 4) Q11)
def Q13 : E := (te (.v 0) (.c 32))
def Q14 : E := (tC (.c 117) (.c 0))
def Q15 : E := (tC (.c 45) Q14)
def Q16 : E := (tC (.c 97) Q15)
def Q17 : E := (tC (.c 100) Q16)
def Q18 : E := (tC Q17 (.c 0))
def Q19 : E := (tC (.c 4) Q18)
def Q20 : E := (te (.v 0) (.c 34))
def Q21 : E := (te (.v 0) (.c 35))
def Q22 : E := (te (.v 0) (.c 36))
def Q23 : E := (te (.v 0) (.c 37))
def Q24 : E := (te (.v 0) (.c 38))
def Q25 : E := (te (.v 0) (.c 33))
def Q26 : E := (tC (.c 45) Q15)
def Q27 : E := (tC (.c 100) Q26)
def Q28 : E := (tC Q27 (.c 0))
def Q29 : E := (tC (.c 4) Q28)
def Q30 : E := (te (.v 0) (.c 40))
def Q31 : E := (te (.v 0) (.c 39))
def Q32 : E := (tC (.c 45) Q26)
def Q33 : E := (tC Q32 (.c 0))
def Q34 : E := (tC (.c 4) Q33)
def Q35 : E := (te (.v 0) (.c 41))
def Q36 : E := (tC (.c 45) Q2)
def Q37 : E := (tC Q36 (.c 0))
def Q38 : E := (tC (.c 4) Q37)
def Q39 : E := (te (.v 0) (.c 42))
def Q40 : E := (tC (.c 45) Q1)
def Q41 : E := (tC (.c 45) Q40)
def Q42 : E := (tC Q41 (.c 0))
def Q43 : E := (tC (.c 4) Q42)
def Q44 : E := (te (.v 0) (.c 43))
def Q45 : E := (tC (.c 0) (.c 0))
def Q46 : E := (tC (.c 0) Q45)
def tree : TT (List E) :=
 (.br (tl (.c 1) (.v 0)) (.br (tl (.v 0) (.c 23)) (.leaf [(tC (.c 4) (tC (tC (.c 100) (tC (.c 97) (tC (.c 98) Q0))) (.c 0)))]) (.br (tk (.c 23) (.v 0)) (.br (tl (.v 0) (.c 30)) (.leaf [Q5]) (.br Q6 (.leaf [Q12]) (.br Q13 (.leaf [Q19]) (.br Q20 (.leaf [Q19]) (.br Q21 (.leaf [Q19]) (.br Q22 (.leaf [Q19]) (.br Q23 (.leaf [Q19]) (.br Q24 (.leaf [Q19]) (.br Q25 (.leaf [Q29]) (.br Q30 (.leaf [Q29]) (.br Q31 (.leaf [Q34]) (.br Q35 (.leaf [Q38]) (.br Q39 (.leaf [Q43]) (.br Q44 (.leaf [Q43]) (.leaf [Q46]))))))))))))))) (.br Q6 (.leaf [Q12]) (.br Q13 (.leaf [Q19]) (.br Q20 (.leaf [Q19]) (.br Q21 (.leaf [Q19]) (.br Q22 (.leaf [Q19]) (.br Q23 (.leaf [Q19]) (.br Q24 (.leaf [Q19]) (.br Q25 (.leaf [Q29]) (.br Q30 (.leaf [Q29]) (.br Q31 (.leaf [Q34]) (.br Q35 (.leaf [Q38]) (.br Q39 (.leaf [Q43]) (.br Q44
 (.leaf [Q43]) (.leaf [Q46])))))))))))))))) (.br (tk (.c 23) (.v 0)) (.br (tl (.v 0) (.c 30)) (.leaf [Q5]) (.br Q6 (.leaf [Q12]) (.br Q13 (.leaf [Q19]) (.br Q20 (.leaf [Q19]) (.br Q21 (.leaf [Q19]) (.br Q22 (.leaf [Q19]) (.br Q23 (.leaf [Q19]) (.br Q24 (.leaf [Q19]) (.br Q25 (.leaf [Q29]) (.br Q30 (.leaf [Q29]) (.br Q31 (.leaf [Q34]) (.br Q35 (.leaf [Q38]) (.br Q39 (.leaf [Q43]) (.br Q44 (.leaf [Q43]) (.leaf [Q46]))))))))))))))) (.br Q6 (.leaf [Q12]) (.br Q13 (.leaf [Q19]) (.br Q20 (.leaf [Q19]) (.br Q21 (.leaf [Q19]) (.br Q22 (.leaf [Q19]) (.br Q23 (.leaf [Q19]) (.br Q24 (.leaf [Q19]) (.br Q25 (.leaf [Q29]) (.br Q30 (.leaf [Q29]) (.br Q31 (.leaf [Q34]) (.br Q35 (.leaf [Q38]) (.br Q39 (.leaf [Q43]) (.br Q44 (.leaf [Q43]) (.leaf [Q46]))))))))))))))))
noncomputable def sq0 : Int := (kZ 4 (kZ (kZ 100 (kZ 97 (kZ 45 (kZ 117 0)))) 0))
noncomputable def sq1 : Int := (kZ 4 (kZ (kZ 100 (kZ 45 (kZ 45 (kZ 117 0)))) 0))
noncomputable def sq2 : Int := (kZ 4 (kZ (kZ 45 (kZ 45 (kZ 45 (kZ 45 0)))) 0))
def sL0 (a z0 : Int) : Prop := qQj z0 = qQj (kZ (iteZ (PL 1 a) (iteZ (PL a 43) 4 0) 0) (kZ (kZ (iteZ (PL a 38) 100 (iteZ (Pe a 40) 100 45)) (kZ (iteZ (PL a 32) 97 (iteZ (Pe a 33) 45 (iteZ (PL a 38) 97 (iteZ (Pe a 41) 97 45)))) (kZ (iteZ (PL a 23) 98 45) (kZ (iteZ (Pe a 31) 115 (iteZ (PL a 31) 45 (iteZ (PL a 40) 117 45))) 0)))) 0)) ∧ True
def sq3 (a : Int) : Prop := (Pb (Pe a 31) (sL0 a (kZ 4 (kZ (kZ 100 (kZ 97 (kZ 45 (kZ 115 0)))) 0))) (Pb (Pe a 32) (sL0 a sq0) (Pb (Pe a 34) (sL0 a sq0) (Pb (Pe a 35) (sL0 a sq0) (Pb (Pe a 36) (sL0 a sq0) (Pb (Pe a 37) (sL0 a sq0) (Pb (Pe a 38) (sL0 a sq0) (Pb (Pe a 33) (sL0 a sq1) (Pb (Pe a 40) (sL0 a sq1) (Pb (Pe a 39) (sL0 a (kZ 4 (kZ (kZ 45 (kZ 45 (kZ 45 (kZ 117 0)))) 0))) (Pb (Pe a 41) (sL0 a (kZ 4 (kZ (kZ 45 (kZ 97 (kZ 45 (kZ 45 0)))) 0))) (Pb (Pe a 42) (sL0 a sq2) (Pb (Pe a 43) (sL0 a sq2) (sL0 a (kZ 0 (kZ 0 0))))))))))))))))
def P (a : Int) : Prop :=
 (Pb (PL 1 a) (Pb (PL a 23) (sL0 a (kZ 4 (kZ (kZ 100 (kZ 97 (kZ 98 (kZ 45 0)))) 0))) (Pb (Pl 23 a) (Pb (PL a 30) (sL0 a (kZ 4 (kZ (kZ 100 (kZ 97 (kZ 45 (kZ 45 0)))) 0))) (sq3 a)) (sq3 a))) (Pb (Pl 23 a) (Pb (PL a 30) (sL0 a (kZ 4 (kZ (kZ 100 (kZ 97 (kZ 45 (kZ 45 0)))) 0))) (sq3 a)) (sq3 a)))
theorem str4 {L b0 b1 b2 b3 L' c0 c1 c2 c3 : Int} (h : L = L') (h0 : b0 = c0) (h1 : b1 = c1) (h2 : b2 = c2) (h3 : b3 = c3) : qQj (qQq L (qQq (qQq b0 (qQq b1 (qQq b2 (qQq b3 0)))) 0)) = qQj (qQq L' (qQq (qQq c0 (qQq c1 (qQq c2 (qQq c3 0)))) 0)) := by
 rw [h, h0, h1, h2, h3]
theorem str0 {L q q' : Int} (h : 0 = L) : qQj (qQq 0 q') = qQj (qQq L q) := by
 subst h
 have e : ∀ q, qQz (qQq 0 q) = 0 := fun q => by unfold qQz; rw [qQa]; simp [qQf]
 unfold qQj
 rw [e, e]
 simp
set_option maxHeartbeats 4000000 in
theorem holds (p0 : Int) (l_p0 : -9223372036854775808 ≤ p0) (u_p0 : p0 ≤ 9223372036854775807) : P p0 := by
 delta P sq0 sq1 sq2 sq3 sL0 Pb PL Pl Pe kZ
 simp only [nrm, Int.reduceEq, Int.reduceNeg, reduceIte]
 repeat' (refine And.intro (fun _ => ?_) (fun _ => ?_))
 all_goals first
  | (exfalso; omega)
  | (have : 1 ≤ p0 ∧ p0 ≤ 43 := by omega
     exact str4 (by omega) (by omega) (by omega) (by omega) (by omega))
  | exact str0 (by omega)
theorem plain (i v ro p) : statR 2 rc tree ⟨i, fN, v, ro, p⟩ = P (i 0) := by kernel_rfl
theorem ran : ranR us (fun f _ => if [22].contains f then .unroll 400 else .auto) rc 2 tree = true := by kernel_rfl
theorem fineT : fineR 2 rc tree = true := by kernel_rfl
theorem ok : RcOk (cxOf 2) rc := okR us_ok ran fineT okb fun i v ro p hρ hcap hpre => by rw [plain]; have q := hρ.hi; exact holds _ (q 0 _ rfl).1 (q 0 _ rfl).2
end CRShape06
namespace CRFie13
def rc : Rc := ⟨38, [none, none], [.int .u8, .int .i64], [], .one, [.int .i64 (.ite (.b .eq .i64 (.v 0) (.c 45)) (.ite (.b .eq .i64 (.v 1) (.c 0)) (.c 0) (.c 3)) (.ite (.b .eq .i64 (.v 0) (.c 115)) (.ite (.b .le .i64 (.b .psub .i64 (.c 0) (.c 32768)) (.v 1)) (.ite (.b .le .i64 (.v 1) (.c 32767)) (.c 0) (.c 6)) (.c 6)) (.ite (.b .eq .i64 (.v 0) (.c 117)) (.ite (.b .le .i64 (.c 0) (.v 1)) (.ite (.b .le .i64 (.v 1) (.c 65535)) (.c 0) (.c 6)) (.c 6)) (.ite (.b .le .i64 (.c 0) (.v 1)) (.ite (.b .le .i64 (.v 1) (.c 31)) (.c 0) (.c 6)) (.c 6)))))]⟩
theorem okb : rc.ok = true := by kernel_rfl
noncomputable def us : SMs := fun Γ ins n => smH (cxG n Γ ins) [] (smR (cxG n Γ ins) [])
theorem us_ok : SMsOk us := fun Γ ins n => qZb (tabsG n Γ ins) (qQs _) (qZw (tabsG n Γ ins) (qQt _))
def tree : TT (List E) :=
 (.br (te (.v 0) (.c 45)) (.br (tn (.v 1) (.c 0)) (.leaf [(.c 3)]) (.leaf [(.c 0)])) (.br (te (.v 0) (.c 115)) (.br (tk (.v 1) (.c (-32768))) (.leaf [(.c 6)]) (.br (tk (.c 32767) (.v 1)) (.leaf [(.c 6)]) (.leaf [(.c 0)]))) (.br (te (.v 0) (.c 117)) (.br (tk (.v 1) (.c 0)) (.leaf [(.c 6)]) (.br (tk (.c 65535) (.v 1)) (.leaf [(.c 6)]) (.leaf [(.c 0)]))) (.br (tk (.v 1) (.c 0)) (.leaf [(.c 6)]) (.br (tk (.c 31) (.v 1)) (.leaf [(.c 6)]) (.leaf [(.c 0)]))))))
def sL0 (a b z0 : Int) : Prop := (z0 : Int) = (iteZ (Pe a 45) (iteZ (Pe b 0) 0 3) (iteZ (Pe a 115) (iteZ (PL (0 - 32768) b) (iteZ (PL b 32767) 0 6) 6) (iteZ (Pe a 117) (iteZ (PL 0 b) (iteZ (PL b 65535) 0 6) 6) (iteZ (PL 0 b) (iteZ (PL b 31) 0 6) 6)))) ∧ True
def P (a b : Int) : Prop :=
 (Pb (Pe a 45) (Pb (Pd b 0) (sL0 a b 3) (sL0 a b 0)) (Pb (Pe a 115) (Pb (Pl b (-32768)) (sL0 a b 6) (Pb (Pl 32767 b) (sL0 a b 6) (sL0 a b 0))) (Pb (Pe a 117) (Pb (Pl b 0) (sL0 a b 6) (Pb (Pl 65535 b) (sL0 a b 6) (sL0 a b 0))) (Pb (Pl b 0) (sL0 a b 6) (Pb (Pl 31 b) (sL0 a b 6) (sL0 a b 0))))))
theorem holds (p0 p1 : Int) (l_p0 : 0 ≤ p0) (u_p0 : p0 ≤ 255) (l_p1 : -9223372036854775808 ≤ p1) (u_p1 : p1 ≤ 9223372036854775807) : P p0 p1 := by
 delta P sL0 Pb PL Pl Pe Pd
 simp only [nrm, Int.reduceEq, Int.reduceNeg, reduceIte]
 repeat' (refine And.intro (fun _ => ?_) (fun _ => ?_))
 all_goals (repeat' split)
 all_goals omega
theorem plain (i v ro p) : statR 2 rc tree ⟨i, fN, v, ro, p⟩ = P (i 0) (i 1) := by kernel_rfl
theorem ran : ranR us (fun f _ => if [38].contains f then .unroll 400 else .auto) rc 2 tree = true := by kernel_rfl
theorem fineT : fineR 2 rc tree = true := by kernel_rfl
theorem ok : RcOk (cxOf 2) rc := okR us_ok ran fineT okb fun i v ro p hρ hcap hpre => by rw [plain]; have q := hρ.hi; exact holds _ _ (q 0 _ rfl).1 (q 0 _ rfl).2 (q 1 _ rfl).1 (q 1 _ rfl).2
end CRFie13
namespace CRChk13
def rc : Rc := ⟨20, [some 5], [.int .i64, .int .i64, .int .i64, .int .i64, .int .i64], [], .one, [.int .i64 (.f 141 (.v 0) (.v 1) (qZi [(.v 2), (.v 3), (.v 4)]))]⟩
theorem okb : rc.ok = true := by kernel_rfl
noncomputable def us : SMs := fun Γ ins n => smH (cxG n Γ ins) [] (smR (cxG n Γ ins) [CRShape06.rc, CRFie13.rc])
theorem us_ok : SMsOk us := fun Γ ins n => qZb (tabsG n Γ ins) (qQs _) (qZw (tabsG n Γ ins) (qQw CRShape06.okb (rc_n CRShape06.ok) (qQw CRFie13.okb (rc_n CRFie13.ok) (qQt _))))
def Q0 : E := (tl (.c 1) (.v 0))
def Q1 : E := (tl (.v 0) (.c 43))
def Q2 : E := (.ite Q1 (.c 4) (.c 0))
def Q3 : E := (.ite Q0 Q2 (.c 0))
def Q4 : E := (tl (.v 0) (.c 38))
def Q5 : E := (te (.v 0) (.c 40))
def Q6 : E := (.ite Q5 (.c 100) (.c 45))
def Q7 : E := (.ite Q4 (.c 100) Q6)
def Q8 : E := (tl (.v 0) (.c 32))
def Q9 : E := (te (.v 0) (.c 33))
def Q10 : E := (te (.v 0) (.c 41))
def Q11 : E := (.ite Q10 (.c 97) (.c 45))
def Q12 : E := (.ite Q4 (.c 97) Q11)
def Q13 : E := (.ite Q9 (.c 45) Q12)
def Q14 : E := (.ite Q8 (.c 97) Q13)
def Q15 : E := (tl (.v 0) (.c 23))
def Q16 : E := (.ite Q15 (.c 98) (.c 45))
def Q17 : E := (te (.v 0) (.c 31))
def Q18 : E := (tl (.v 0) (.c 31))
def Q19 : E := (tl (.v 0) (.c 40))
def Q20 : E := (.ite Q19 (.c 117) (.c 45))
def Q21 : E := (.ite Q18 (.c 45) Q20)
def Q22 : E := (.ite Q17 (.c 115) Q21)
def Q23 : E := (tC Q22 (.c 0))
def Q24 : E := (tC Q16 Q23)
def Q25 : E := (tC Q14 Q24)
def Q26 : E := (tC Q7 Q25)
def Q27 : E := (tC Q26 (.c 0))
def Q28 : E := (tC Q3 Q27)
def Q29 : E := (.f 21 Q28 (.c 0) (.c 0))
def tree : TT (List E) :=
 (.br (.f 20 Q28 (tC (.c 0) (tC (.c 0) (.c 0))) (.c 0)) (.leaf [(.c 2)]) (.br (tk (.c 0) Q29) (.new 1000 (.f 22 Q28 (.c 0) (.c 0)) (.new 1001 (.ite (te (.cl 1000 0 255) (.c 45)) (.ite (te (.v 1) (.c 0)) (.c 0) (.c 3)) (.ite (te (.cl 1000 0 255) (.c 115)) (.ite (tl (.c (-32768)) (.v 1)) (.ite (tl (.v 1) (.c 32767)) (.c 0) (.c 6)) (.c 6)) (.ite (te (.cl 1000 0 255) (.c 117)) (.ite (tl (.c 0) (.v 1)) (.ite (tl (.v 1) (.c 65535)) (.c 0) (.c 6)) (.c 6)) (.ite (tl (.c 0) (.v 1)) (.ite (tl (.v 1) (.c 31)) (.c 0) (.c 6)) (.c 6))))) (.br (tn (.cl 1001 0 6) (.c 0)) (.leaf [(.cl 1001 0 6)]) (.br (tk (.c 1) Q29) (.new 1002 (.f 22 Q28 (.c 1) (.c 0)) (.new 1003 (.ite (te (.cl 1002 0 255) (.c 45)) (.ite (te (.v 2) (.c 0)) (.c 0) (.c 3)) (.ite (te (.cl 1002 0 255) (.c 115)) (.ite (tl (.c (-32768)) (.v
 2)) (.ite (tl (.v 2) (.c 32767)) (.c 0) (.c 6)) (.c 6)) (.ite (te (.cl 1002 0 255) (.c 117)) (.ite (tl (.c 0) (.v 2)) (.ite (tl (.v 2) (.c 65535)) (.c 0) (.c 6)) (.c 6)) (.ite (tl (.c 0) (.v 2)) (.ite (tl (.v 2) (.c 31)) (.c 0) (.c 6)) (.c 6))))) (.br (tn (.cl 1003 0 6) (.c 0)) (.leaf [(.cl 1003 0 6)]) (.br (tk (.c 2) Q29) (.new 1004 (.f 22 Q28 (.c 2) (.c 0)) (.new 1005 (.ite (te (.cl 1004 0 255) (.c 45)) (.ite (te (.v 3) (.c 0)) (.c 0) (.c 3)) (.ite (te (.cl 1004 0 255) (.c 115)) (.ite (tl (.c (-32768)) (.v 3)) (.ite (tl (.v 3) (.c 32767)) (.c 0) (.c 6)) (.c 6)) (.ite (te (.cl 1004 0 255) (.c 117)) (.ite (tl (.c 0) (.v 3)) (.ite (tl (.v 3) (.c 65535)) (.c 0) (.c 6)) (.c 6)) (.ite (tl (.c 0) (.v 3)) (.ite (tl (.v 3) (.c 31)) (.c 0) (.c 6)) (.c 6))))) (.br (tn (.cl 1005 0 6) (.c 0))
 (.leaf [(.cl 1005 0 6)]) (.br (tk (.c 3) Q29) (.new 1006 (.f 22 Q28 (.c 3) (.c 0)) (.new 1007 (.ite (te (.cl 1006 0 255) (.c 45)) (.ite (te (.v 4) (.c 0)) (.c 0) (.c 3)) (.ite (te (.cl 1006 0 255) (.c 115)) (.ite (tl (.c (-32768)) (.v 4)) (.ite (tl (.v 4) (.c 32767)) (.c 0) (.c 6)) (.c 6)) (.ite (te (.cl 1006 0 255) (.c 117)) (.ite (tl (.c 0) (.v 4)) (.ite (tl (.v 4) (.c 65535)) (.c 0) (.c 6)) (.c 6)) (.ite (tl (.c 0) (.v 4)) (.ite (tl (.v 4) (.c 31)) (.c 0) (.c 6)) (.c 6))))) (.br (tn (.cl 1007 0 6) (.c 0)) (.leaf [(.cl 1007 0 6)]) (.leaf [(.c 0)])))) (.bad 200))))) (.bad 200))))) (.bad 200))))) (.bad 200)))
noncomputable def sq0 (a : Int) : Int := (kZ (iteZ (PL 1 a) (iteZ (PL a 43) 4 0) 0) (kZ (kZ (iteZ (PL a 38) 100 (iteZ (Pe a 40) 100 45)) (kZ (iteZ (PL a 32) 97 (iteZ (Pe a 33) 45 (iteZ (PL a 38) 97 (iteZ (Pe a 41) 97 45)))) (kZ (iteZ (PL a 23) 98 45) (kZ (iteZ (Pe a 31) 115 (iteZ (PL a 31) 45 (iteZ (PL a 40) 117 45))) 0)))) 0))
def P (a b c d e : Int) : Prop :=
 (Pb (seqZ (sq0 a) (kZ 0 (kZ 0 0))) ((2 : Int) = (cckZ a b (kZ c (kZ d (kZ e 0)))) ∧ True) (Pm (Pl 0 (qQz (sq0 a))) (Pn (qQy (sq0 a) 0) 0 255 fun y0 => Pn (iteZ (Pe y0 45) (iteZ (Pe b 0) 0 3) (iteZ (Pe y0 115) (iteZ (PL (-32768) b) (iteZ (PL b 32767) 0 6) 6) (iteZ (Pe y0 117) (iteZ (PL 0 b) (iteZ (PL b 65535) 0 6) 6) (iteZ (PL 0 b) (iteZ (PL b 31) 0 6) 6)))) 0 6 fun y1 => (Pb (Pd y1 0) ((y1 : Int) = (cckZ a b (kZ c (kZ d (kZ e 0)))) ∧ True) (Pm (Pl 1 (qQz (sq0 a))) (Pn (qQy (sq0 a) 1) 0 255 fun y2 => Pn (iteZ (Pe y2 45) (iteZ (Pe c 0) 0 3) (iteZ (Pe y2 115) (iteZ (PL (-32768) c) (iteZ (PL c 32767) 0 6) 6) (iteZ (Pe y2 117) (iteZ (PL 0 c) (iteZ (PL c 65535) 0 6) 6) (iteZ (PL 0 c) (iteZ (PL c 31) 0 6) 6)))) 0 6 fun y3 => (Pb (Pd y3 0) ((y3 : Int) = (cckZ a b (kZ c (kZ d (kZ e
 0)))) ∧ True) (Pm (Pl 2 (qQz (sq0 a))) (Pn (qQy (sq0 a) 2) 0 255 fun y4 => Pn (iteZ (Pe y4 45) (iteZ (Pe d 0) 0 3) (iteZ (Pe y4 115) (iteZ (PL (-32768) d) (iteZ (PL d 32767) 0 6) 6) (iteZ (Pe y4 117) (iteZ (PL 0 d) (iteZ (PL d 65535) 0 6) 6) (iteZ (PL 0 d) (iteZ (PL d 31) 0 6) 6)))) 0 6 fun y5 => (Pb (Pd y5 0) ((y5 : Int) = (cckZ a b (kZ c (kZ d (kZ e 0)))) ∧ True) (Pm (Pl 3 (qQz (sq0 a))) (Pn (qQy (sq0 a) 3) 0 255 fun y6 => Pn (iteZ (Pe y6 45) (iteZ (Pe e 0) 0 3) (iteZ (Pe y6 115) (iteZ (PL (-32768) e) (iteZ (PL e 32767) 0 6) 6) (iteZ (Pe y6 117) (iteZ (PL 0 e) (iteZ (PL e 65535) 0 6) 6) (iteZ (PL 0 e) (iteZ (PL e 31) 0 6) 6)))) 0 6 fun y7 => (Pb (Pd y7 0) ((y7 : Int) = (cckZ a b (kZ c (kZ d (kZ e 0)))) ∧ True) ((0 : Int) = (cckZ a b (kZ c (kZ d (kZ e 0)))) ∧ True))))))))))))))
theorem sb4 (L b0 b1 b2 b3 : Int) : qQy (qQq L (qQq (qQq b0 (qQq b1 (qQq b2 (qQq b3 0)))) 0)) 0 = b0 % 256 ∧ qQy (qQq L (qQq (qQq b0 (qQq b1 (qQq b2 (qQq b3 0)))) 0)) 1 = b1 % 256 ∧ qQy (qQq L (qQq (qQq b0 (qQq b1 (qQq b2 (qQq b3 0)))) 0)) 2 = b2 % 256 ∧
  qQy (qQq L (qQq (qQq b0 (qQq b1 (qQq b2 (qQq b3 0)))) 0)) 3 = b3 % 256 := by
 have e : rdZ (qQq L (qQq (qQq b0 (qQq b1 (qQq b2 (qQq b3 0)))) 0)) 1 = qQq b0 (qQq b1 (qQq b2 (qQq b3 0))) := by rw [qQd _ _ (by decide)]; exact qQa _ _
 unfold qQy
 rw [e]
 refine ⟨by rw [qQa], ?_, ?_, ?_⟩
 ·rw [qQd _ _ (by decide)]; exact congrArg (· % 256) (qQa _ _)
 ·rw [qQd _ _ (by decide), qQd _ _ (by decide)]; exact congrArg (· % 256) (qQa _ _)
 ·rw [qQd _ _ (by decide), qQd _ _ (by decide), qQd _ _ (by decide)]; exact congrArg (· % 256) (qQa _ _)
theorem fl {y v t : Int} (h : (y = 45 ∧ t = 0) ∨ (y = 115 ∧ t = 2) ∨ (y = 117 ∧ t = 3) ∨ (y ≠ 45 ∧ y ≠ 115 ∧ y ≠ 117 ∧ t = 1)) :
  (if y = 45 then if v = 0 then 0 else 3 else if y = 115 then if -32768 ≤ v then if v ≤ 32767 then 0 else 6 else 6 else if y = 117 then if 0 ≤ v then if v ≤ 65535 then 0 else 6 else 6 else if 0 ≤ v then if v ≤ 31 then 0 else 6 else 6) = fieE t v := by
 unfold fieE
 rcases h with ⟨rfl, rfl⟩ | ⟨rfl, rfl⟩ | ⟨rfl, rfl⟩ | ⟨h1, h2, h3, rfl⟩
 ·simp
 ·repeat' split <;> omega
 ·repeat' split <;> omega
 ·rw [if_neg h1, if_neg h2, if_neg h3]
  repeat' split <;> omega
theorem sqA {L q : Int} (h : L = 4) : seqZ (qQq L q) (qQq 0 (qQq 0 0)) = 0 := by
 subst h
 unfold seqZ
 rw [if_neg]
 intro e
 have h1 := qQu (qQq 4 q)
 have h2 := qQu (qQq 0 (qQq 0 0))
 rw [e, h2] at h1
 unfold qQz at h1
 rw [qQa, qQa] at h1
 unfold qQf at h1
 simp at h1
theorem sl4 {L q : Int} (h : L = 4) : qQz (qQq L q) = 4 := by
 subst h; unfold qQz; rw [qQa]; unfold qQf; simp
theorem sqB {L q : Int} (h : L = 0) : seqZ (qQq L q) (qQq 0 (qQq 0 0)) ≠ 0 := by
 subst h
 have e : ∀ q, qQz (qQq 0 q) = 0 := fun q => by unfold qQz; rw [qQa]; simp [qQf]
 unfold seqZ
 rw [if_pos]
 ·decide
 ·unfold qQj
  rw [e, e]
  simp
set_option maxHeartbeats 4000000 in
theorem holds (p0_0 p0_1 p0_2 p0_3 p0_4 : Int) (l_p0_0 : -9223372036854775808 ≤ p0_0) (u_p0_0 : p0_0 ≤ 9223372036854775807) (l_p0_1 : -9223372036854775808 ≤ p0_1) (u_p0_1 : p0_1 ≤ 9223372036854775807) (l_p0_2 : -9223372036854775808 ≤ p0_2) (u_p0_2 : p0_2 ≤ 9223372036854775807) (l_p0_3 : -9223372036854775808 ≤ p0_3) (u_p0_3 : p0_3 ≤ 9223372036854775807) (l_p0_4 : -9223372036854775808 ≤ p0_4) (u_p0_4 : p0_4 ≤ 9223372036854775807) : P p0_0 p0_1 p0_2 p0_3 p0_4 := by
 delta P sq0 Pb Pm Pn PL Pl Pe Pd kZ
 simp only [nrm, Int.reduceEq, Int.reduceNeg, reduceIte, qYc]
 rcases Decidable.em (1 ≤ p0_0 ∧ p0_0 ≤ 43) with ⟨g1, g2⟩ | g
 ·have hL : (if 1 ≤ p0_0 then if p0_0 ≤ 43 then (4 : Int) else 0 else 0) = 4 := by rw [if_pos g1, if_pos g2]
  refine ⟨fun h => absurd (sqA hL) h, fun _ => ?_⟩
  rw [sl4 hL]
  obtain ⟨s0, s1, s2, s3⟩ := sb4 (if 1 ≤ p0_0 then if p0_0 ≤ 43 then (4 : Int) else 0 else 0) (if p0_0 ≤ 38 then 100 else if p0_0 = 40 then 100 else 45) (if p0_0 ≤ 32 then 97 else if p0_0 = 33 then 45 else if p0_0 ≤ 38 then 97 else if p0_0 = 41 then 97 else 45) (if p0_0 ≤ 23 then 98 else 45) (if p0_0 = 31 then 115 else if p0_0 ≤ 31 then 45 else if p0_0 ≤ 40 then 117 else 45)
  rw [s0, s1, s2, s3]
  have e : ∀ d a b n : Int, cckI p0_0 d a b n = if fieE (shpZ p0_0 0) d ≠ 0 then fieE (shpZ p0_0 0) d else if fieE (shpZ p0_0 1) a ≠ 0 then fieE (shpZ p0_0 1) a else if fieE (shpZ p0_0 2) b ≠ 0 then fieE (shpZ p0_0 2) b else fieE (shpZ p0_0 3) n := fun d a b n => by
   unfold cckI; rw [if_neg (by omega)]
  refine ⟨fun _ y0 hy0 _ z0 hz0 _ => ?_, fun h => by omega⟩
  rw [fl (t := shpZ p0_0 0) (by subst hy0; unfold shpZ; repeat' split; all_goals omega)] at hz0
  refine ⟨fun h => by rw [e, ← hz0, if_pos h], fun h => ?_⟩
  refine ⟨fun _ y1 hy1 _ z1 hz1 _ => ?_, fun h => by omega⟩
  rw [fl (t := shpZ p0_0 1) (by subst hy1; unfold shpZ; repeat' split; all_goals omega)] at hz1
  refine ⟨fun h1 => by rw [e, ← hz0, ← hz1, if_neg (fun k => k h), if_pos h1], fun h1 => ?_⟩
  refine ⟨fun _ y2 hy2 _ z2 hz2 _ => ?_, fun h => by omega⟩
  rw [fl (t := shpZ p0_0 2) (by subst hy2; unfold shpZ; repeat' split; all_goals omega)] at hz2
  refine ⟨fun h2 => by rw [e, ← hz0, ← hz1, ← hz2, if_neg (fun k => k h), if_neg (fun k => k h1), if_pos h2], fun h2 => ?_⟩
  refine ⟨fun _ y3 hy3 _ z3 hz3 _ => ?_, fun h => by omega⟩
  rw [fl (t := shpZ p0_0 3) (by subst hy3; unfold shpZ; repeat' split; all_goals omega)] at hz3
  have e2 : cckI p0_0 p0_1 p0_2 p0_3 p0_4 = z3 := by rw [e, ← hz0, ← hz1, ← hz2, ← hz3, if_neg (fun k => k h), if_neg (fun k => k h1), if_neg (fun k => k h2)]
  exact ⟨fun _ => e2.symm, fun h => by rw [e2, h]⟩
 ·have hL : (if 1 ≤ p0_0 then if p0_0 ≤ 43 then (4 : Int) else 0 else 0) = 0 := by
   repeat' split
   all_goals omega
  refine ⟨fun _ => ?_, fun h => absurd h (sqB hL)⟩
  unfold cckI
  rw [if_pos (by omega)]
theorem plain (i v ro p) : statR 2 rc tree ⟨i, fN, v, ro, p⟩ = P (i 0) (i 1) (i 2) (i 3) (i 4) := by kernel_rfl
theorem ran : ranR us (fun f _ => if [20].contains f then .unroll 400 else .auto) rc 2 tree = true := by kernel_rfl
theorem fineT : fineR 2 rc tree = true := by kernel_rfl
theorem ok : RcOk (cxOf 2) rc := okR us_ok ran fineT okb fun i v ro p hρ hcap hpre => by rw [plain]; have q := hρ.hi; exact holds _ _ _ _ _ (q 0 _ rfl).1 (q 0 _ rfl).2 (q 1 _ rfl).1 (q 1 _ rfl).2 (q 2 _ rfl).1 (q 2 _ rfl).2 (q 3 _ rfl).1 (q 3 _ rfl).2 (q 4 _ rfl).1 (q 4 _ rfl).2
end CRChk13
namespace CRName06
def rc : Rc := ⟨21, [none], [.int .i64], [], .one, [.str (.f 140 (.v 0) (.c 0) (.c 0))]⟩
theorem okb : rc.ok = true := by kernel_rfl
noncomputable def us : SMs := fun Γ ins n => smH (cxG n Γ ins) [] (smR (cxG n Γ ins) [])
theorem us_ok : SMsOk us := fun Γ ins n => qZb (tabsG n Γ ins) (qQs _) (qZw (tabsG n Γ ins) (qQt _))
def Q0 : E := (tC (.c 0) (tC (.c 0) (.c 0)))
def Q1 : E := (.b .psub .i64 (.v 0) (.c 1))
def Q2 : E := (t6 Q1)
def Q3 : E := (tC (.c 100) (.c 0))
def Q4 : E := (tC (.c 115) (.c 0))
def Q5 : E := (tC (.c 98) Q4)
def Q6 : E := (tC (.c 114) (.c 0))
def Q7 : E := (tC (.c 111) Q6)
def Q8 : E := (tC (.c 108) (.c 0))
def Q9 : E := (tC (.c 116) (.c 0))
def Q10 : E := (tC (.c 108) Q9)
def Q11 : E := (tC (.c 113) (.c 0))
def Q12 : E := (tC (.c 101) Q11)
def Q13 : E := (tC (.c 110) (.c 0))
def Q14 : E := (tC (.c 104) (.c 0))
def Q15 : E := (tC (.c 105) (.c 0))
def Q16 : E := (tC (.c 119) (.c 0))
def Q17 : E := (tC (.c 112) (.c 0))
def tree : TT (List E) :=
 (.br (tk (.v 0) (.c 1)) (.leaf [Q0]) (.br (tk (.c 43) (.v 0)) (.leaf [Q0]) (.br (tl (.c 0) Q2) (.br (tk Q2 (.c 43)) (.leaf [(tR (tC (tC (.c 3) (tC (tC (.c 97) (tC (.c 100) Q3)) (.c 0))) (tC (tC (.c 3) (tC (tC (.c 115) (tC (.c 117) (tC (.c 98) (.c 0)))) (.c 0))) (tC (tC (.c 4) (tC (tC (.c 97) (tC (.c 100) (tC (.c 100) Q4))) (.c 0))) (tC (tC (.c 4) (tC (tC (.c 115) (tC (.c 117) Q5)) (.c 0))) (tC (tC (.c 3) (tC (tC (.c 97) (tC (.c 110) Q3)) (.c 0))) (tC (tC (.c 2) (tC Q7 (.c 0))) (tC (tC (.c 3) (tC (tC (.c 120) Q7) (.c 0))) (tC (tC (.c 3) (tC (tC (.c 98) (tC (.c 105) (tC (.c 99) (.c 0)))) (.c 0))) (tC (tC (.c 3) (tC (tC (.c 115) (tC (.c 104) Q8)) (.c 0))) (tC (tC (.c 3) (tC (tC (.c 115) (tC (.c 104) Q6)) (.c 0))) (tC (tC (.c 3) (tC (tC (.c 115) (tC (.c 97) Q6)) (.c 0))) (tC (tC (.c 3) (tC
 (tC (.c 114) (tC (.c 111) Q8)) (.c 0))) (tC (tC (.c 3) (tC (tC (.c 115) Q10) (.c 0))) (tC (tC (.c 4) (tC (tC (.c 115) (tC (.c 108) (tC (.c 116) (tC (.c 117) (.c 0))))) (.c 0))) (tC (tC (.c 3) (tC (tC (.c 115) Q12) (.c 0))) (tC (tC (.c 3) (tC (tC (.c 109) (tC (.c 105) Q13)) (.c 0))) (tC (tC (.c 3) (tC (tC (.c 109) (tC (.c 97) (tC (.c 120) (.c 0)))) (.c 0))) (tC (tC (.c 3) (tC (tC (.c 109) (tC (.c 117) Q8)) (.c 0))) (tC (tC (.c 4) (tC (tC (.c 109) (tC (.c 117) (tC (.c 108) Q14))) (.c 0))) (tC (tC (.c 4) (tC (tC (.c 109) (tC (.c 117) (tC (.c 108) Q11))) (.c 0))) (tC (tC (.c 4) (tC (tC (.c 109) (tC (.c 117) (tC (.c 108) Q6))) (.c 0))) (tC (tC (.c 3) (tC (tC (.c 100) (tC (.c 105) (tC (.c 118) (.c 0)))) (.c 0))) (tC (tC (.c 3) (tC (tC (.c 114) (tC (.c 101) (tC (.c 109) (.c 0)))) (.c 0))) (tC
 (tC (.c 3) (tC (tC (.c 99) (tC (.c 108) (tC (.c 122) (.c 0)))) (.c 0))) (tC (tC (.c 3) (tC (tC (.c 110) (tC (.c 101) (tC (.c 103) (.c 0)))) (.c 0))) (tC (tC (.c 3) (tC (tC (.c 97) Q5) (.c 0))) (tC (tC (.c 4) (tC (tC (.c 109) (tC (.c 97) (tC (.c 115) (tC (.c 107) (.c 0))))) (.c 0))) (tC (tC (.c 4) (tC (tC (.c 115) (tC (.c 105) (tC (.c 103) Q13))) (.c 0))) (tC (tC (.c 4) (tC (tC (.c 104) (tC (.c 97) (tC (.c 108) (tC (.c 102) (.c 0))))) (.c 0))) (tC (tC (.c 4) (tC (tC (.c 104) (tC (.c 105) (tC (.c 103) Q14))) (.c 0))) (tC (tC (.c 4) (tC (tC (.c 97) (tC (.c 100) (tC (.c 100) Q15))) (.c 0))) (tC (tC (.c 3) (tC (tC (.c 111) (tC (.c 114) Q15)) (.c 0))) (tC (tC (.c 3) (tC (tC (.c 108) (tC (.c 117) Q15)) (.c 0))) (tC (tC (.c 2) (tC (tC (.c 108) Q16) (.c 0))) (tC (tC (.c 2) (tC (tC (.c 115) Q16)
 (.c 0))) (tC (tC (.c 3) (tC (tC (.c 98) Q12) (.c 0))) (tC (tC (.c 3) (tC (tC (.c 98) (tC (.c 110) (tC (.c 101) (.c 0)))) (.c 0))) (tC (tC (.c 3) (tC (tC (.c 98) Q10) (.c 0))) (tC (tC (.c 4) (tC (tC (.c 106) (tC (.c 117) (tC (.c 109) Q17))) (.c 0))) (tC (tC (.c 3) (tC (tC (.c 106) (tC (.c 97) Q8)) (.c 0))) (tC (tC (.c 2) (tC (tC (.c 106) Q6) (.c 0))) (tC (tC (.c 3) (tC (tC (.c 110) (tC (.c 111) Q17)) (.c 0))) (tC (tC (.c 4) (tC (tC (.c 104) (tC (.c 97) Q10)) (.c 0))) (.c 0)))))))))))))))))))))))))))))))))))))))))))) Q2)]) (.bad 200)) (.bad 200))))
def P (a : Int) : Prop :=
 (Pb (Pl a 1) (qQj (kZ 0 (kZ 0 0)) = qQj (onmZ a) ∧ True) (Pb (Pl 43 a) (qQj (kZ 0 (kZ 0 0)) = qQj (onmZ a) ∧ True) (Pm (PL 0 (W6 (a - 1))) (Pm (Pl (W6 (a - 1)) 43) (qQj (rdZ (kZ (kZ 3 (kZ (kZ 97 (kZ 100 (kZ 100 0))) 0)) (kZ (kZ 3 (kZ (kZ 115 (kZ 117 (kZ 98 0))) 0)) (kZ (kZ 4 (kZ (kZ 97 (kZ 100 (kZ 100 (kZ 115 0)))) 0)) (kZ (kZ 4 (kZ (kZ 115 (kZ 117 (kZ 98 (kZ 115 0)))) 0)) (kZ (kZ 3 (kZ (kZ 97 (kZ 110 (kZ 100 0))) 0)) (kZ (kZ 2 (kZ (kZ 111 (kZ 114 0)) 0)) (kZ (kZ 3 (kZ (kZ 120 (kZ 111 (kZ 114 0))) 0)) (kZ (kZ 3 (kZ (kZ 98 (kZ 105 (kZ 99 0))) 0)) (kZ (kZ 3 (kZ (kZ 115 (kZ 104 (kZ 108 0))) 0)) (kZ (kZ 3 (kZ (kZ 115 (kZ 104 (kZ 114 0))) 0)) (kZ (kZ 3 (kZ (kZ 115 (kZ 97 (kZ 114 0))) 0)) (kZ (kZ 3 (kZ (kZ 114 (kZ 111 (kZ 108 0))) 0)) (kZ (kZ 3 (kZ (kZ 115 (kZ 108 (kZ 116 0))) 0))
 (kZ (kZ 4 (kZ (kZ 115 (kZ 108 (kZ 116 (kZ 117 0)))) 0)) (kZ (kZ 3 (kZ (kZ 115 (kZ 101 (kZ 113 0))) 0)) (kZ (kZ 3 (kZ (kZ 109 (kZ 105 (kZ 110 0))) 0)) (kZ (kZ 3 (kZ (kZ 109 (kZ 97 (kZ 120 0))) 0)) (kZ (kZ 3 (kZ (kZ 109 (kZ 117 (kZ 108 0))) 0)) (kZ (kZ 4 (kZ (kZ 109 (kZ 117 (kZ 108 (kZ 104 0)))) 0)) (kZ (kZ 4 (kZ (kZ 109 (kZ 117 (kZ 108 (kZ 113 0)))) 0)) (kZ (kZ 4 (kZ (kZ 109 (kZ 117 (kZ 108 (kZ 114 0)))) 0)) (kZ (kZ 3 (kZ (kZ 100 (kZ 105 (kZ 118 0))) 0)) (kZ (kZ 3 (kZ (kZ 114 (kZ 101 (kZ 109 0))) 0)) (kZ (kZ 3 (kZ (kZ 99 (kZ 108 (kZ 122 0))) 0)) (kZ (kZ 3 (kZ (kZ 110 (kZ 101 (kZ 103 0))) 0)) (kZ (kZ 3 (kZ (kZ 97 (kZ 98 (kZ 115 0))) 0)) (kZ (kZ 4 (kZ (kZ 109 (kZ 97 (kZ 115 (kZ 107 0)))) 0)) (kZ (kZ 4 (kZ (kZ 115 (kZ 105 (kZ 103 (kZ 110 0)))) 0)) (kZ (kZ 4 (kZ (kZ 104 (kZ 97 (kZ 108 (kZ 102
 0)))) 0)) (kZ (kZ 4 (kZ (kZ 104 (kZ 105 (kZ 103 (kZ 104 0)))) 0)) (kZ (kZ 4 (kZ (kZ 97 (kZ 100 (kZ 100 (kZ 105 0)))) 0)) (kZ (kZ 3 (kZ (kZ 111 (kZ 114 (kZ 105 0))) 0)) (kZ (kZ 3 (kZ (kZ 108 (kZ 117 (kZ 105 0))) 0)) (kZ (kZ 2 (kZ (kZ 108 (kZ 119 0)) 0)) (kZ (kZ 2 (kZ (kZ 115 (kZ 119 0)) 0)) (kZ (kZ 3 (kZ (kZ 98 (kZ 101 (kZ 113 0))) 0)) (kZ (kZ 3 (kZ (kZ 98 (kZ 110 (kZ 101 0))) 0)) (kZ (kZ 3 (kZ (kZ 98 (kZ 108 (kZ 116 0))) 0)) (kZ (kZ 4 (kZ (kZ 106 (kZ 117 (kZ 109 (kZ 112 0)))) 0)) (kZ (kZ 3 (kZ (kZ 106 (kZ 97 (kZ 108 0))) 0)) (kZ (kZ 2 (kZ (kZ 106 (kZ 114 0)) 0)) (kZ (kZ 3 (kZ (kZ 110 (kZ 111 (kZ 112 0))) 0)) (kZ (kZ 4 (kZ (kZ 104 (kZ 97 (kZ 108 (kZ 116 0)))) 0)) 0))))))))))))))))))))))))))))))))))))))))))) (W6 (a - 1))) = qQj (onmZ a) ∧ True)))))
theorem holds (p0 : Int) (l_p0 : -9223372036854775808 ≤ p0) (u_p0 : p0 ≤ 9223372036854775807) : P p0 := by
 delta P Pb Pm PL Pl W6 kZ
 simp only [nrm, Int.reduceEq, Int.reduceNeg, reduceIte]
 refine And.intro (fun h => onm_none (by omega)) (fun h => And.intro (fun h2 => onm_none (by omega)) (fun h2 => ?_))
 have e : IntKind.wrap .i64 (p0 - 1) = p0 - 1 := w64 (by omega) (by omega)
 refine And.intro (fun _ => And.intro (fun _ => onm_row rfl (by omega) (by omega)) (fun h => ?_)) (fun h => ?_) <;> omega
theorem plain (i v ro p) : statR 2 rc tree ⟨i, fN, v, ro, p⟩ = P (i 0) := by kernel_rfl
theorem ran : ranR us (fun _ _ => .auto) rc 2 tree = true := by kernel_rfl
theorem fineT : fineR 2 rc tree = true := by kernel_rfl
theorem ok : RcOk (cxOf 2) rc := okR us_ok ran fineT okb fun i v ro p hρ hcap hpre => by rw [plain]; have q := hρ.hi; exact holds _ (q 0 _ rfl).1 (q 0 _ rfl).2
end CRName06
namespace CRDg1
def rc : Rc := ⟨23, [none], [.num .i64 0 9], [], .one, [.str (.f 129 (.v 0) (.c 0) (.c 0))]⟩
theorem okb : rc.ok = true := by kernel_rfl
noncomputable def us : SMs := fun Γ ins n => smH (cxG n Γ ins) [] (smR (cxG n Γ ins) [])
theorem us_ok : SMsOk us := fun Γ ins n => qZb (tabsG n Γ ins) (qQs _) (qZw (tabsG n Γ ins) (qQt _))
def tree : TT (List E) :=
(.br (.b .le .i64 (.v 0) (.b .padd .i64 (.v 0) (.c 1)))
 (.br (.b .le .i64 (.b .padd .i64 (.v 0) (.c 1)) (.f 21 (.f 11 (.c 10) (.f 11 (.f 11 (.c 48) (.f 11 (.c 49) (.f 11 (.c 50) (.f 11 (.c 51) (.f 11 (.c 52) (.f 11 (.c 53) (.f 11 (.c 54) (.f 11 (.c 55) (.f 11 (.c 56) (.f 11 (.c 57) (.c 0) (.c 0)) (.c 0)) (.c 0)) (.c 0)) (.c 0)) (.c 0)) (.c 0)) (.c 0)) (.c 0)) (.c 0)) (.c 0) (.c 0)) (.c 0)) (.c 0) (.c 0)))
 (.leaf [(.f 11 (.b .psub .i64 (.b .padd .i64 (.v 0) (.c 1)) (.v 0)) (.f 11 (.f 18 (.f 11 (.c 48) (.f 11 (.c 49) (.f 11 (.c 50) (.f 11 (.c 51) (.f 11 (.c 52) (.f 11 (.c 53) (.f 11 (.c 54) (.f 11 (.c 55) (.f 11 (.c 56) (.f 11 (.c 57) (.c 0) (.c 0)) (.c 0)) (.c 0)) (.c 0)) (.c 0)) (.c 0)) (.c 0)) (.c 0)) (.c 0)) (.c 0)) (.v 0) (.c 0)) (.c 0) (.c 0)) (.c 0))])
 (.bad 200))
 (.bad 200))
def P (p0 : Int) : Prop :=
 (((qQx (decide (p0 ≤ (p0 + 1)))) ≠ 0 →
  (((qQx (decide ((p0 + 1) ≤ (qQz (qQq 10 (qQq (qQq 48 (qQq 49 (qQq 50 (qQq 51 (qQq 52 (qQq 53 (qQq 54 (qQq 55 (qQq 56 (qQq 57 0)))))))))) 0)))))) ≠ 0 →
   qQj (qQq ((p0 + 1) - p0) (qQq (qQv (qQq 48 (qQq 49 (qQq 50 (qQq 51 (qQq 52 (qQq 53 (qQq 54 (qQq 55 (qQq 56 (qQq 57 0)))))))))) p0) 0)) = qQj (itoZ p0) ∧ True) ∧ ((qQx (decide ((p0 + 1) ≤ (qQz (qQq 10 (qQq (qQq 48 (qQq 49 (qQq 50 (qQq 51 (qQq 52 (qQq 53 (qQq 54 (qQq 55 (qQq 56 (qQq 57 0)))))))))) 0)))))) = 0 →
   False))) ∧ ((qQx (decide (p0 ≤ (p0 + 1)))) = 0 →
  False))
theorem holds (p0 : Int) (l_p0 : 0 ≤ p0) (u_p0 : p0 ≤ 9) : P p0 := by
 unfold P
 simp only [nrm, Int.reduceEq, Int.reduceNeg, reduceIte, qKr]
 refine ⟨fun _ => ⟨fun _ => qXy (by omega) (by omega), fun h => ?_⟩, fun h => ?_⟩ <;> omega
theorem plain (i v ro p) : statR 2 rc tree ⟨i, fN, v, ro, p⟩ = P (i 0) := by kernel_rfl
theorem ran : ranR us (fun _ _ => .auto) rc 2 tree = true := by kernel_rfl
theorem fineT : fineR 2 rc tree = true := by kernel_rfl
theorem ok : RcOk (cxOf 2) rc := okR us_ok ran fineT okb fun i v ro p hρ hcap hpre => by rw [plain]; have q := hρ.hi; exact holds _ (q 0 _ rfl).1 (q 0 _ rfl).2
end CRDg1
end Go.Proofs.YtppiabilakeadaaGreatDoor
