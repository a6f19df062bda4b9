/-
  What functions of the program answer, as numbers of what they are handed: their runs by the engine, the plain statements behind them. No condition.
-/
import Derived.Test.YtppiabilakeadacDoorKa
import Derived.Test.YtppiabilakeadacDoorGab
import Derived.Test.YtppiabilakeadacDoorGp1
import Derived.Test.YtppiabilakeadacDoorGp3
set_option linter.unusedVariables false
set_option linter.unusedSimpArgs false
set_option maxRecDepth 100000
namespace Go.Proofs.YtppiabilakeadacDoor
open Go.Eng Go.RowKit
namespace CLCut
def rc : Rc := ⟨32, [none, none], [.str, .str], [], .tup [none, none], [.str (.f 147 (.v 0) (.v 1) (.c 0)), .bool (.f 148 (.v 0) (.v 1) (.c 0))]⟩
theorem okb : rc.ok = true := by kernel_rfl
noncomputable def us : SMs := fun Γ ins n => smH (cxG n Γ ins) [] (smR (cxG n Γ ins) [])
theorem us_ok : SMsOk us := fun Γ ins n => qJs (tabsG n Γ ins) (qZs _) (qJm (tabsG n Γ ins) (qZt _))
def tree : TT (List E) :=
(.br (.b .le .i64 (.f 21 (.v 1) (.c 0) (.c 0)) (.f 21 (.v 0) (.c 0) (.c 0)))
 (.br (.nt (.f 20 (.f 11 (.f 21 (.v 1) (.c 0) (.c 0)) (.f 11 (.f 18 (.f 13 (.v 0) (.c 1) (.c 0)) (.c 0) (.c 0)) (.c 0) (.c 0)) (.c 0)) (.v 1) (.c 0)))
 (.leaf [(.v 0), (.c 0)])
 (.leaf [(.f 11 (.b .psub .i64 (.f 21 (.v 0) (.c 0) (.c 0)) (.f 21 (.v 1) (.c 0) (.c 0))) (.f 11 (.f 18 (.f 13 (.v 0) (.c 1) (.c 0)) (.f 21 (.v 1) (.c 0) (.c 0)) (.c 0)) (.c 0) (.c 0)) (.c 0)), (.c 1)]))
 (.leaf [(.v 0), (.c 0)]))
def P (s0 s1 : Int) : Prop :=
 (((qQk (decide ((qQj s1) ≤ (qQj s0)))) ≠ 0 →
  (((qQk ((seqZ (qQq (qQj s1) (qQq (qQy (rdZ s0 1) 0) 0)) s1) == 0)) ≠ 0 →
   qQz s0 = qQz (cupZ s0 s1) ∧ ((0 : Int) ≠ 0 ↔ ((cupK s0 s1) : Int) ≠ 0) ∧ True) ∧ ((qQk ((seqZ (qQq (qQj s1) (qQq (qQy (rdZ s0 1) 0) 0)) s1) == 0)) = 0 →
   qQz (qQq ((qQj s0) - (qQj s1)) (qQq (qQy (rdZ s0 1) (qQj s1)) 0)) = qQz (cupZ s0 s1) ∧ ((1 : Int) ≠ 0 ↔ ((cupK s0 s1) : Int) ≠ 0) ∧ True))) ∧ ((qQk (decide ((qQj s1) ≤ (qQj s0)))) = 0 →
  qQz s0 = qQz (cupZ s0 s1) ∧ ((0 : Int) ≠ 0 ↔ ((cupK s0 s1) : Int) ≠ 0) ∧ True))
theorem holds (s0 s1 : Int) : P s0 s1 := by
 unfold P
 simp only [nrm, Int.reduceEq, Int.reduceNeg, reduceIte]
 refine ⟨fun h1 => ⟨fun h2 => ?_, fun h2 => ?_⟩, fun h1 => ?_⟩
 ·have hk : cupK s0 s1 = 0 := by unfold cupK; exact if_neg fun h => h.2 h2
  refine ⟨?_, ?_⟩
  ·unfold cupZ; rw [hk]; rfl
  ·rw [hk]; try trivial
 ·have hk : cupK s0 s1 = 1 := by unfold cupK; exact if_pos ⟨h1, h2⟩
  refine ⟨?_, ?_⟩
  ·unfold cupZ; rw [hk]; rfl
  ·rw [hk]; decide
 ·have hk : cupK s0 s1 = 0 := by unfold cupK; exact if_neg fun h => by omega
  refine ⟨?_, ?_⟩
  ·unfold cupZ; rw [hk]; rfl
  ·rw [hk]; try trivial
theorem plain (i v ro p) : statR 2 rc tree ⟨i, fN, v, ro, p⟩ = P (i 0) (i 1) := by kernel_rfl
theorem ran : ranR us (fun _ _ => .auto) rc 2 tree = true := by kernel_rfl
theorem fineT : fineR 2 rc tree = true := by kernel_rfl
theorem ok : RcOk (cxOf 2) rc := okR us_ok ran fineT okb fun i v ro p hρ hcap hpre => by rw [plain]; have q := hρ.hi; exact holds _ _
end CLCut
namespace CLParse
def rc : Rc := ⟨8, [none], [.str], [(.b .le .i64 (.f 21 (.v 0) (.c 0) (.c 0)) (.c 100000))], .tup [some 5, none], [.int .i64 (.f 143 (.v 0) (.c 0) (.c 0)), .int .i64 (.f 143 (.v 0) (.c 1) (.c 0)), .int .i64 (.f 143 (.v 0) (.c 2) (.c 0)), .int .i64 (.f 143 (.v 0) (.c 3) (.c 0)), .int .i64 (.f 143 (.v 0) (.c 4) (.c 0)), .int .i64 (.f 144 (.v 0) (.c 0) (.c 0))]⟩
theorem okb : rc.ok = true := by kernel_rfl
noncomputable def us : SMs := fun Γ ins n => smH (cxG n Γ ins) [] (smR (cxG n Γ ins) [CCChk.rc, CLWords.rc, CLNumber.rc, COFind.rc, CLCut.rc])
theorem us_ok : SMsOk us := fun Γ ins n => qJs (tabsG n Γ ins) (qZs _) (qJm (tabsG n Γ ins) (qZw CCChk.okb (rc_n CCChk.ok) (qZw CLWords.okb (rc_n CLWords.ok) (qZw CLNumber.okb (rc_n CLNumber.ok) (qZw COFind.okb (rc_n COFind.ok) (qZw CLCut.okb (rc_n CLCut.ok) (qZt _)))))))
def Q0 : E := (.f 136 (.v 0) (.c 0) (.c 0))
def Q1 : E := (tC (.c 0) (.c 0))
def Q2 : E := (tC (.c 0) Q1)
def Q3 : E := (tl (.c 1) (.cl 1000 0 44))
def Q4 : E := (tl (.cl 1000 0 44) (.c 43))
def Q5 : E := (.nt Q4)
def Q6 : E := (tl (.cl 1000 0 44) (.c 23))
def Q7 : E := (tC (.c 114) (.c 0))
def Q8 : E := (tC Q7 (.c 0))
def Q9 : E := (tC (.c 1) Q8)
def Q10 : E := (.f 148 Q2 Q9 (.c 0))
def Q11 : E := (.f 147 Q2 Q9 (.c 0))
def Q12 : E := (.f 139 Q11 (.c 0) (.c 0))
def Q13 : E := (.f 138 Q11 (.c 0) (.c 0))
def Q14 : E := (tl (.cl 1000 0 44) (.c 30))
def Q15 : E := (te (.cl 1000 0 44) (.c 31))
def Q16 : E := (.f 139 Q2 (.c 0) (.c 0))
def Q17 : E := (.f 138 Q2 (.c 0) (.c 0))
def Q18 : E := (te (.cl 1000 0 44) (.c 33))
def Q19 : E := (te (.cl 1000 0 44) (.c 40))
def Q20 : E := (tk (.cl 1000 0 44) (.c 39))
def Q21 : E := (te (.cl 1000 0 44) (.c 39))
def Q22 : E := (te (.cl 1000 0 44) (.c 41))
def Q23 : E := (.f 137 (.v 0) (.c 0) (.c 0))
def Q24 : E := (.b .psub .i64 Q0 (.c 1))
def Q25 : E := (tl (.c 0) Q24)
def Q26 : E := (te Q24 (.c 0))
def Q27 : E := (tk (.c 0) Q24)
def Q28 : E := (tk (.c 1) Q0)
def Q29 : E := (tl (.c 1) Q24)
def Q30 : E := (tp (.c 1) Q24)
def Q31 : E := (tl Q30 Q0)
def Q32 : E := (tR Q23 (.c 1))
def Q33 : E := (.f 148 Q32 Q9 (.c 0))
def Q34 : E := (.f 147 Q32 Q9 (.c 0))
def Q35 : E := (.f 139 Q34 (.c 0) (.c 0))
def Q36 : E := (.f 138 Q34 (.c 0) (.c 0))
def Q37 : E := (.nt (.cl 1001 0 1))
def Q38 : E := (.b .psub .i64 Q24 (.c 1))
def Q39 : E := (tl (.c 0) Q38)
def Q40 : E := (te Q38 (.c 0))
def Q41 : E := (tk (.c 0) Q38)
def Q42 : E := (tp (.c 1) (.c 1))
def Q43 : E := (tk Q42 Q0)
def Q44 : E := (tl (.c 1) Q38)
def Q45 : E := (tp Q42 Q38)
def Q46 : E := (tl Q45 Q0)
def Q47 : E := (tR Q23 Q42)
def Q48 : E := (.f 148 Q47 Q9 (.c 0))
def Q49 : E := (.f 147 Q47 Q9 (.c 0))
def Q50 : E := (.f 139 Q49 (.c 0) (.c 0))
def Q51 : E := (.f 138 Q49 (.c 0) (.c 0))
def Q52 : E := (.b .psub .i64 Q38 (.c 1))
def Q53 : E := (tl (.c 0) Q52)
def Q54 : E := (te Q52 (.c 0))
def Q55 : E := (tk (.c 0) Q52)
def Q56 : E := (tp Q42 (.c 1))
def Q57 : E := (tk Q56 Q0)
def Q58 : E := (tl (.c 1) Q52)
def Q59 : E := (tp Q56 Q52)
def Q60 : E := (tl Q59 Q0)
def Q61 : E := (tR Q23 Q56)
def Q62 : E := (.f 148 Q61 Q9 (.c 0))
def Q63 : E := (.f 147 Q61 Q9 (.c 0))
def Q64 : E := (.f 139 Q63 (.c 0) (.c 0))
def Q65 : E := (.f 138 Q63 (.c 0) (.c 0))
def Q66 : E := (.nt (.cl 1003 0 1))
def Q67 : E := (.nt (.cl 1004 0 1))
def Q68 : E := (.nt (.cl 1006 0 1))
def Q69 : E := (.b .psub .i64 Q52 (.c 1))
def Q70 : E := (tl (.c 0) Q69)
def Q71 : E := (tk (.c 0) Q69)
def Q72 : E := (.cl 1002 (-999999999) 999999999)
def Q73 : E := (.cl 1005 (-999999999) 999999999)
def Q74 : E := (.cl 1008 (-999999999) 999999999)
def Q75 : E := (.f 139 Q61 (.c 0) (.c 0))
def Q76 : E := (.f 138 Q61 (.c 0) (.c 0))
def Q77 : E := (.cl 1007 (-999999999) 999999999)
def Q78 : E := (tC Q77 (.c 0))
def Q79 : E := (tC (.c 0) Q78)
def Q80 : E := (tC Q73 Q79)
def Q81 : E := (.f 141 (.cl 1000 0 44) Q72 Q80)
def Q82 : E := (tn (.cl 1009 0 6) (.c 0))
def Q83 : E := (.f 139 Q47 (.c 0) (.c 0))
def Q84 : E := (.f 138 Q47 (.c 0) (.c 0))
def Q85 : E := (.cl 1004 (-999999999) 999999999)
def Q86 : E := (tC Q85 (.c 0))
def Q87 : E := (tC (.c 0) Q86)
def Q88 : E := (tC (.c 0) Q87)
def Q89 : E := (.f 141 (.cl 1000 0 44) Q72 Q88)
def Q90 : E := (tn (.cl 1006 0 6) (.c 0))
def Q91 : E := (.cl 1001 (-999999999) 999999999)
def tree : TT (List E) :=
 (.br (tl (.f 21 (.v 0) (.c 0) (.c 0)) (.c 100000)) (.br (te Q0 (.c 0)) (.new 1000 (.f 90 Q2 (.c 0) (.c 0)) (.br Q3 (.br Q5 (.leaf [(.c 0), (.c 0), (.c 0), (.c 0), (.c 0), (.c 3)]) (.br Q6 (.new 1001 Q10 (.new 1002 Q12 (.new 1003 Q13 (.leaf [(.c 0), (.c 0), (.c 0), (.c 0), (.c 0), (.c 3)])))) (.br Q14 (.new 1001 Q10 (.new 1002 Q12 (.new 1003 Q13 (.leaf [(.c 0), (.c 0), (.c 0), (.c 0), (.c 0), (.c 3)])))) (.br Q15 (.new 1001 Q10 (.new 1002 Q12 (.new 1003 Q13 (.new 1004 Q16 (.new 1005 Q17 (.leaf [(.c 0), (.c 0), (.c 0), (.c 0), (.c 0), (.c 3)])))))) (.br Q18 (.new 1001 Q10 (.new 1002 Q12 (.new 1003 Q13 (.new 1004 Q16 (.new 1005 Q17 (.leaf [(.c 0), (.c 0), (.c 0), (.c 0), (.c 0), (.c 3)])))))) (.br Q19 (.new 1001 Q10 (.new 1002 Q12 (.new 1003 Q13 (.new 1004 Q16 (.new 1005 Q17 (.leaf [(.c 0),
 (.c 0), (.c 0), (.c 0), (.c 0), (.c 3)])))))) (.br Q20 (.new 1001 Q10 (.new 1002 Q12 (.new 1003 Q13 (.new 1004 Q16 (.new 1005 Q17 (.leaf [(.c 0), (.c 0), (.c 0), (.c 0), (.c 0), (.c 3)])))))) (.br Q21 (.new 1001 Q16 (.new 1002 Q17 (.leaf [(.c 0), (.c 0), (.c 0), (.c 0), (.c 0), (.c 3)]))) (.br Q22 (.new 1001 Q10 (.new 1002 Q12 (.new 1003 Q13 (.leaf [(.c 0), (.c 0), (.c 0), (.c 0), (.c 0), (.c 3)])))) (.leaf [(.c 0), (.c 0), (.c 0), (.c 0), (.c 0), (.c 3)])))))))))) (.leaf [(.c 0), (.c 0), (.c 0), (.c 0), (.c 0), (.c 3)]))) (.br (tk (.c 0) Q0) (.br (tl (.c 1) Q0) (.new 1000 (.f 90 (tR Q23 (.c 0)) (.c 0) (.c 0)) (.br Q3 (.br Q5 (.leaf [(.c 0), (.c 0), (.c 0), (.c 0), (.c 0), (.c 3)]) (.br Q6 (.br Q25 (.br Q26 (.new 1001 Q10 (.new 1002 Q12 (.new 1003 Q13 (.leaf [(.c 0), (.c 0), (.c 0), (.c
 0), (.c 0), (.c 3)])))) (.br Q27 (.br Q28 (.br Q29 (.br Q31 (.new 1001 Q33 (.new 1002 Q35 (.new 1003 Q36 (.br Q37 (.br Q39 (.br Q40 (.new 1004 Q10 (.new 1005 Q12 (.new 1006 Q13 (.leaf [(.c 0), (.c 0), (.c 0), (.c 0), (.c 0), (.c 3)])))) (.br Q41 (.br Q43 (.br Q44 (.br Q46 (.new 1004 Q48 (.new 1005 Q50 (.new 1006 Q51 (.br Q53 (.br Q54 (.new 1007 Q10 (.new 1008 Q12 (.new 1009 Q13 (.leaf [(.c 0), (.c 0), (.c 0), (.c 0), (.c 0), (.c 3)])))) (.br Q55 (.br Q57 (.br Q58 (.br Q60 (.new 1007 Q62 (.new 1008 Q64 (.new 1009 Q65 (.leaf [(.c 0), (.c 0), (.c 0), (.c 0), (.c 0), (.c 3)])))) (.bad 200)) (.bad 200)) (.bad 200)) (.bad 200))) (.bad 200))))) (.bad 200)) (.bad 200)) (.bad 200)) (.bad 200))) (.bad 200)) (.br Q39 (.br Q40 (.new 1004 Q10 (.new 1005 Q12 (.new 1006 Q13 (.leaf [(.c 0), (.c 0), (.c
 0), (.c 0), (.c 0), (.c 3)])))) (.br Q41 (.br Q43 (.br Q44 (.br Q46 (.new 1004 Q48 (.br Q66 (.new 1005 Q50 (.new 1006 Q51 (.br Q53 (.br Q54 (.new 1007 Q10 (.new 1008 Q12 (.new 1009 Q13 (.leaf [(.c 0), (.c 0), (.c 0), (.c 0), (.c 0), (.c 3)])))) (.br Q55 (.br Q57 (.br Q58 (.br Q60 (.new 1007 Q62 (.new 1008 Q64 (.new 1009 Q65 (.leaf [(.c 0), (.c 0), (.c 0), (.c 0), (.c 0), (.c 3)])))) (.bad 200)) (.bad 200)) (.bad 200)) (.bad 200))) (.bad 200)))) (.new 1005 Q50 (.new 1006 Q51 (.br Q67 (.br Q53 (.br Q54 (.new 1007 Q10 (.new 1008 Q12 (.new 1009 Q13 (.leaf [(.c 0), (.c 0), (.c 0), (.c 0), (.c 0), (.c 3)])))) (.br Q55 (.br Q57 (.br Q58 (.br Q60 (.new 1007 Q62 (.new 1008 Q64 (.new 1009 Q65 (.leaf [(.c 0), (.c 0), (.c 0), (.c 0), (.c 0), (.c 3)])))) (.bad 200)) (.bad 200)) (.bad 200)) (.bad
 200))) (.bad 200)) (.br Q53 (.br Q54 (.new 1007 Q10 (.new 1008 Q12 (.new 1009 Q13 (.leaf [(.c 0), (.c 0), (.c 0), (.c 0), (.c 0), (.c 3)])))) (.br Q55 (.br Q57 (.br Q58 (.br Q60 (.new 1007 Q62 (.br Q68 (.new 1008 Q64 (.new 1009 Q65 (.leaf [(.c 0), (.c 0), (.c 0), (.c 0), (.c 0), (.c 3)]))) (.new 1008 Q64 (.new 1009 Q65 (.br (.nt (.cl 1007 0 1)) (.leaf [(.c 0), (.c 0), (.c 0), (.c 0), (.c 0), (.c 3)]) (.br (.nt (.cl 1009 0 1)) (.leaf [(.c 0), (.c 0), (.c 0), (.c 0), (.c 0), (.c 3)]) (.br Q70 (.br Q71 (.leaf [(.c 0), (.c 0), (.c 0), (.c 0), (.c 0), (.c 3)]) (.new 1010 (.f 141 (.cl 1000 0 44) Q72 (tC Q73 (tC Q74 Q1))) (.br (tn (.cl 1010 0 6) (.c 0)) (.leaf [(.c 0), (.c 0), (.c 0), (.c 0), (.c 0), (.cl 1010 0 6)]) (.leaf [(.cl 1000 0 44), Q72, Q73, Q74, (.c 0), (.c 0)])))) (.bad 200))))))))
 (.bad 200)) (.bad 200)) (.bad 200)) (.bad 200))) (.bad 200))))))) (.bad 200)) (.bad 200)) (.bad 200)) (.bad 200))) (.bad 200)))))) (.bad 200)) (.bad 200)) (.bad 200)) (.bad 200))) (.bad 200)) (.br Q14 (.br Q25 (.br Q26 (.new 1001 Q10 (.new 1002 Q12 (.new 1003 Q13 (.leaf [(.c 0), (.c 0), (.c 0), (.c 0), (.c 0), (.c 3)])))) (.br Q27 (.br Q28 (.br Q29 (.br Q31 (.new 1001 Q33 (.new 1002 Q35 (.new 1003 Q36 (.br Q37 (.br Q39 (.br Q40 (.new 1004 Q10 (.new 1005 Q12 (.new 1006 Q13 (.leaf [(.c 0), (.c 0), (.c 0), (.c 0), (.c 0), (.c 3)])))) (.br Q41 (.br Q43 (.br Q44 (.br Q46 (.new 1004 Q48 (.new 1005 Q50 (.new 1006 Q51 (.leaf [(.c 0), (.c 0), (.c 0), (.c 0), (.c 0), (.c 3)])))) (.bad 200)) (.bad 200)) (.bad 200)) (.bad 200))) (.bad 200)) (.br Q39 (.br Q40 (.new 1004 Q10 (.new 1005 Q12 (.new 1006
 Q13 (.leaf [(.c 0), (.c 0), (.c 0), (.c 0), (.c 0), (.c 3)])))) (.br Q41 (.br Q43 (.br Q44 (.br Q46 (.new 1004 Q48 (.br Q66 (.new 1005 Q50 (.new 1006 Q51 (.leaf [(.c 0), (.c 0), (.c 0), (.c 0), (.c 0), (.c 3)]))) (.new 1005 Q50 (.new 1006 Q51 (.br Q67 (.leaf [(.c 0), (.c 0), (.c 0), (.c 0), (.c 0), (.c 3)]) (.br Q68 (.leaf [(.c 0), (.c 0), (.c 0), (.c 0), (.c 0), (.c 3)]) (.br Q53 (.br Q55 (.leaf [(.c 0), (.c 0), (.c 0), (.c 0), (.c 0), (.c 3)]) (.new 1007 (.f 141 (.cl 1000 0 44) Q72 (tC Q73 Q2)) (.br (tn (.cl 1007 0 6) (.c 0)) (.leaf [(.c 0), (.c 0), (.c 0), (.c 0), (.c 0), (.cl 1007 0 6)]) (.leaf [(.cl 1000 0 44), Q72, Q73, (.c 0), (.c 0), (.c 0)])))) (.bad 200)))))))) (.bad 200)) (.bad 200)) (.bad 200)) (.bad 200))) (.bad 200)))))) (.bad 200)) (.bad 200)) (.bad 200)) (.bad 200)))
 (.bad 200)) (.br Q15 (.br Q25 (.br Q26 (.new 1001 Q10 (.new 1002 Q12 (.new 1003 Q13 (.new 1004 Q16 (.new 1005 Q17 (.leaf [(.c 0), (.c 0), (.c 0), (.c 0), (.c 0), (.c 3)])))))) (.br Q27 (.br Q28 (.br Q29 (.br Q31 (.new 1001 Q33 (.new 1002 Q35 (.new 1003 Q36 (.br Q37 (.br Q39 (.br Q40 (.new 1004 Q10 (.new 1005 Q12 (.new 1006 Q13 (.new 1007 Q16 (.new 1008 Q17 (.leaf [(.c 0), (.c 0), (.c 0), (.c 0), (.c 0), (.c 3)])))))) (.br Q41 (.br Q43 (.br Q44 (.br Q46 (.new 1004 Q48 (.new 1005 Q50 (.new 1006 Q51 (.br Q53 (.br Q54 (.new 1007 Q16 (.new 1008 Q17 (.leaf [(.c 0), (.c 0), (.c 0), (.c 0), (.c 0), (.c 3)]))) (.br Q55 (.br Q57 (.br Q58 (.br Q60 (.new 1007 Q75 (.new 1008 Q76 (.leaf [(.c 0), (.c 0), (.c 0), (.c 0), (.c 0), (.c 3)]))) (.bad 200)) (.bad 200)) (.bad 200)) (.bad 200))) (.bad 200)))))
 (.bad 200)) (.bad 200)) (.bad 200)) (.bad 200))) (.bad 200)) (.br Q39 (.br Q40 (.new 1004 Q10 (.new 1005 Q12 (.new 1006 Q13 (.new 1007 Q16 (.new 1008 Q17 (.leaf [(.c 0), (.c 0), (.c 0), (.c 0), (.c 0), (.c 3)])))))) (.br Q41 (.br Q43 (.br Q44 (.br Q46 (.new 1004 Q48 (.br Q66 (.new 1005 Q50 (.new 1006 Q51 (.br Q53 (.br Q54 (.new 1007 Q16 (.new 1008 Q17 (.leaf [(.c 0), (.c 0), (.c 0), (.c 0), (.c 0), (.c 3)]))) (.br Q55 (.br Q57 (.br Q58 (.br Q60 (.new 1007 Q75 (.new 1008 Q76 (.leaf [(.c 0), (.c 0), (.c 0), (.c 0), (.c 0), (.c 3)]))) (.bad 200)) (.bad 200)) (.bad 200)) (.bad 200))) (.bad 200)))) (.new 1005 Q50 (.new 1006 Q51 (.br Q67 (.br Q53 (.br Q54 (.new 1007 Q16 (.new 1008 Q17 (.leaf [(.c 0), (.c 0), (.c 0), (.c 0), (.c 0), (.c 3)]))) (.br Q55 (.br Q57 (.br Q58 (.br Q60 (.new 1007 Q75
 (.new 1008 Q76 (.leaf [(.c 0), (.c 0), (.c 0), (.c 0), (.c 0), (.c 3)]))) (.bad 200)) (.bad 200)) (.bad 200)) (.bad 200))) (.bad 200)) (.br Q53 (.br Q54 (.new 1007 Q16 (.new 1008 Q17 (.leaf [(.c 0), (.c 0), (.c 0), (.c 0), (.c 0), (.c 3)]))) (.br Q55 (.br Q57 (.br Q58 (.br Q60 (.new 1007 Q75 (.new 1008 Q76 (.br Q68 (.leaf [(.c 0), (.c 0), (.c 0), (.c 0), (.c 0), (.c 3)]) (.br (.nt (.cl 1008 0 1)) (.leaf [(.c 0), (.c 0), (.c 0), (.c 0), (.c 0), (.c 3)]) (.br Q70 (.br Q71 (.leaf [(.c 0), (.c 0), (.c 0), (.c 0), (.c 0), (.c 3)]) (.new 1009 Q81 (.br Q82 (.leaf [(.c 0), (.c 0), (.c 0), (.c 0), (.c 0), (.cl 1009 0 6)]) (.leaf [(.cl 1000 0 44), Q72, Q73, (.c 0), Q77, (.c 0)])))) (.bad 200)))))) (.bad 200)) (.bad 200)) (.bad 200)) (.bad 200))) (.bad 200))))))) (.bad 200)) (.bad 200)) (.bad 200))
 (.bad 200))) (.bad 200)))))) (.bad 200)) (.bad 200)) (.bad 200)) (.bad 200))) (.bad 200)) (.br Q18 (.br Q25 (.br Q26 (.new 1001 Q10 (.new 1002 Q12 (.new 1003 Q13 (.new 1004 Q16 (.new 1005 Q17 (.leaf [(.c 0), (.c 0), (.c 0), (.c 0), (.c 0), (.c 3)])))))) (.br Q27 (.br Q28 (.br Q29 (.br Q31 (.new 1001 Q33 (.new 1002 Q35 (.new 1003 Q36 (.br Q37 (.br Q39 (.br Q40 (.new 1004 Q16 (.new 1005 Q17 (.leaf [(.c 0), (.c 0), (.c 0), (.c 0), (.c 0), (.c 3)]))) (.br Q41 (.br Q43 (.br Q44 (.br Q46 (.new 1004 Q83 (.new 1005 Q84 (.leaf [(.c 0), (.c 0), (.c 0), (.c 0), (.c 0), (.c 3)]))) (.bad 200)) (.bad 200)) (.bad 200)) (.bad 200))) (.bad 200)) (.br Q39 (.br Q40 (.new 1004 Q16 (.new 1005 Q17 (.leaf [(.c 0), (.c 0), (.c 0), (.c 0), (.c 0), (.c 3)]))) (.br Q41 (.br Q43 (.br Q44 (.br Q46 (.new 1004 Q83
 (.new 1005 Q84 (.br Q66 (.leaf [(.c 0), (.c 0), (.c 0), (.c 0), (.c 0), (.c 3)]) (.br (.nt (.cl 1005 0 1)) (.leaf [(.c 0), (.c 0), (.c 0), (.c 0), (.c 0), (.c 3)]) (.br Q53 (.br Q55 (.leaf [(.c 0), (.c 0), (.c 0), (.c 0), (.c 0), (.c 3)]) (.new 1006 Q89 (.br Q90 (.leaf [(.c 0), (.c 0), (.c 0), (.c 0), (.c 0), (.cl 1006 0 6)]) (.leaf [(.cl 1000 0 44), Q72, (.c 0), (.c 0), Q85, (.c 0)])))) (.bad 200)))))) (.bad 200)) (.bad 200)) (.bad 200)) (.bad 200))) (.bad 200)))))) (.bad 200)) (.bad 200)) (.bad 200)) (.bad 200))) (.bad 200)) (.br Q19 (.br Q25 (.br Q26 (.new 1001 Q10 (.new 1002 Q12 (.new 1003 Q13 (.new 1004 Q16 (.new 1005 Q17 (.leaf [(.c 0), (.c 0), (.c 0), (.c 0), (.c 0), (.c 3)])))))) (.br Q27 (.br Q28 (.br Q29 (.br Q31 (.new 1001 Q33 (.new 1002 Q35 (.new 1003 Q36 (.br Q37 (.br Q39
 (.br Q40 (.new 1004 Q16 (.new 1005 Q17 (.leaf [(.c 0), (.c 0), (.c 0), (.c 0), (.c 0), (.c 3)]))) (.br Q41 (.br Q43 (.br Q44 (.br Q46 (.new 1004 Q83 (.new 1005 Q84 (.leaf [(.c 0), (.c 0), (.c 0), (.c 0), (.c 0), (.c 3)]))) (.bad 200)) (.bad 200)) (.bad 200)) (.bad 200))) (.bad 200)) (.br Q39 (.br Q40 (.new 1004 Q16 (.new 1005 Q17 (.leaf [(.c 0), (.c 0), (.c 0), (.c 0), (.c 0), (.c 3)]))) (.br Q41 (.br Q43 (.br Q44 (.br Q46 (.new 1004 Q83 (.new 1005 Q84 (.br Q66 (.leaf [(.c 0), (.c 0), (.c 0), (.c 0), (.c 0), (.c 3)]) (.br (.nt (.cl 1005 0 1)) (.leaf [(.c 0), (.c 0), (.c 0), (.c 0), (.c 0), (.c 3)]) (.br Q53 (.br Q55 (.leaf [(.c 0), (.c 0), (.c 0), (.c 0), (.c 0), (.c 3)]) (.new 1006 Q89 (.br Q90 (.leaf [(.c 0), (.c 0), (.c 0), (.c 0), (.c 0), (.cl 1006 0 6)]) (.leaf [(.cl 1000 0 44),
 Q72, (.c 0), (.c 0), Q85, (.c 0)])))) (.bad 200)))))) (.bad 200)) (.bad 200)) (.bad 200)) (.bad 200))) (.bad 200)))))) (.bad 200)) (.bad 200)) (.bad 200)) (.bad 200))) (.bad 200)) (.br Q20 (.br Q25 (.br Q26 (.new 1001 Q10 (.new 1002 Q12 (.new 1003 Q13 (.new 1004 Q16 (.new 1005 Q17 (.leaf [(.c 0), (.c 0), (.c 0), (.c 0), (.c 0), (.c 3)])))))) (.br Q27 (.br Q28 (.br Q29 (.br Q31 (.new 1001 Q33 (.new 1002 Q35 (.new 1003 Q36 (.br Q37 (.br Q39 (.br Q40 (.new 1004 Q10 (.new 1005 Q12 (.new 1006 Q13 (.new 1007 Q16 (.new 1008 Q17 (.leaf [(.c 0), (.c 0), (.c 0), (.c 0), (.c 0), (.c 3)])))))) (.br Q41 (.br Q43 (.br Q44 (.br Q46 (.new 1004 Q48 (.new 1005 Q50 (.new 1006 Q51 (.br Q53 (.br Q54 (.new 1007 Q16 (.new 1008 Q17 (.leaf [(.c 0), (.c 0), (.c 0), (.c 0), (.c 0), (.c 3)]))) (.br Q55 (.br Q57
 (.br Q58 (.br Q60 (.new 1007 Q75 (.new 1008 Q76 (.leaf [(.c 0), (.c 0), (.c 0), (.c 0), (.c 0), (.c 3)]))) (.bad 200)) (.bad 200)) (.bad 200)) (.bad 200))) (.bad 200))))) (.bad 200)) (.bad 200)) (.bad 200)) (.bad 200))) (.bad 200)) (.br Q39 (.br Q40 (.new 1004 Q10 (.new 1005 Q12 (.new 1006 Q13 (.new 1007 Q16 (.new 1008 Q17 (.leaf [(.c 0), (.c 0), (.c 0), (.c 0), (.c 0), (.c 3)])))))) (.br Q41 (.br Q43 (.br Q44 (.br Q46 (.new 1004 Q48 (.br Q66 (.new 1005 Q50 (.new 1006 Q51 (.br Q53 (.br Q54 (.new 1007 Q16 (.new 1008 Q17 (.leaf [(.c 0), (.c 0), (.c 0), (.c 0), (.c 0), (.c 3)]))) (.br Q55 (.br Q57 (.br Q58 (.br Q60 (.new 1007 Q75 (.new 1008 Q76 (.leaf [(.c 0), (.c 0), (.c 0), (.c 0), (.c 0), (.c 3)]))) (.bad 200)) (.bad 200)) (.bad 200)) (.bad 200))) (.bad 200)))) (.new 1005 Q50 (.new 1006
 Q51 (.br Q67 (.br Q53 (.br Q54 (.new 1007 Q16 (.new 1008 Q17 (.leaf [(.c 0), (.c 0), (.c 0), (.c 0), (.c 0), (.c 3)]))) (.br Q55 (.br Q57 (.br Q58 (.br Q60 (.new 1007 Q75 (.new 1008 Q76 (.leaf [(.c 0), (.c 0), (.c 0), (.c 0), (.c 0), (.c 3)]))) (.bad 200)) (.bad 200)) (.bad 200)) (.bad 200))) (.bad 200)) (.br Q53 (.br Q54 (.new 1007 Q16 (.new 1008 Q17 (.leaf [(.c 0), (.c 0), (.c 0), (.c 0), (.c 0), (.c 3)]))) (.br Q55 (.br Q57 (.br Q58 (.br Q60 (.new 1007 Q75 (.new 1008 Q76 (.br Q68 (.leaf [(.c 0), (.c 0), (.c 0), (.c 0), (.c 0), (.c 3)]) (.br (.nt (.cl 1008 0 1)) (.leaf [(.c 0), (.c 0), (.c 0), (.c 0), (.c 0), (.c 3)]) (.br Q70 (.br Q71 (.leaf [(.c 0), (.c 0), (.c 0), (.c 0), (.c 0), (.c 3)]) (.new 1009 Q81 (.br Q82 (.leaf [(.c 0), (.c 0), (.c 0), (.c 0), (.c 0), (.cl 1009 0 6)]) (.leaf
 [(.cl 1000 0 44), Q72, Q73, (.c 0), Q77, (.c 0)])))) (.bad 200)))))) (.bad 200)) (.bad 200)) (.bad 200)) (.bad 200))) (.bad 200))))))) (.bad 200)) (.bad 200)) (.bad 200)) (.bad 200))) (.bad 200)))))) (.bad 200)) (.bad 200)) (.bad 200)) (.bad 200))) (.bad 200)) (.br Q21 (.br Q25 (.br Q26 (.new 1001 Q16 (.new 1002 Q17 (.leaf [(.c 0), (.c 0), (.c 0), (.c 0), (.c 0), (.c 3)]))) (.br Q27 (.br Q28 (.br Q29 (.br Q31 (.new 1001 (.f 139 Q32 (.c 0) (.c 0)) (.new 1002 (.f 138 Q32 (.c 0) (.c 0)) (.br (.nt (.cl 1002 0 1)) (.leaf [(.c 0), (.c 0), (.c 0), (.c 0), (.c 0), (.c 3)]) (.br Q39 (.br Q41 (.leaf [(.c 0), (.c 0), (.c 0), (.c 0), (.c 0), (.c 3)]) (.new 1003 (.f 141 (.cl 1000 0 44) (.c 0) (tC (.c 0) (tC (.c 0) (tC Q91 (.c 0))))) (.br (tn (.cl 1003 0 6) (.c 0)) (.leaf [(.c 0), (.c 0), (.c 0), (.c
 0), (.c 0), (.cl 1003 0 6)]) (.leaf [(.cl 1000 0 44), (.c 0), (.c 0), (.c 0), Q91, (.c 0)])))) (.bad 200))))) (.bad 200)) (.bad 200)) (.bad 200)) (.bad 200))) (.bad 200)) (.br Q22 (.br Q25 (.br Q26 (.new 1001 Q10 (.new 1002 Q12 (.new 1003 Q13 (.leaf [(.c 0), (.c 0), (.c 0), (.c 0), (.c 0), (.c 3)])))) (.br Q27 (.br Q28 (.br Q29 (.br Q31 (.new 1001 Q33 (.new 1002 Q35 (.new 1003 Q36 (.br Q37 (.leaf [(.c 0), (.c 0), (.c 0), (.c 0), (.c 0), (.c 3)]) (.br Q66 (.leaf [(.c 0), (.c 0), (.c 0), (.c 0), (.c 0), (.c 3)]) (.br Q39 (.br Q41 (.leaf [(.c 0), (.c 0), (.c 0), (.c 0), (.c 0), (.c 3)]) (.new 1004 (.f 141 (.cl 1000 0 44) (.c 0) (tC Q72 Q2)) (.br (tn (.cl 1004 0 6) (.c 0)) (.leaf [(.c 0), (.c 0), (.c 0), (.c 0), (.c 0), (.cl 1004 0 6)]) (.leaf [(.cl 1000 0 44), (.c 0), Q72, (.c 0), (.c 0),
 (.c 0)])))) (.bad 200))))))) (.bad 200)) (.bad 200)) (.bad 200)) (.bad 200))) (.bad 200)) (.br Q25 (.br Q27 (.leaf [(.c 0), (.c 0), (.c 0), (.c 0), (.c 0), (.c 3)]) (.new 1001 (.f 141 (.cl 1000 0 44) (.c 0) (tC (.c 0) Q2)) (.br (tn (.cl 1001 0 6) (.c 0)) (.leaf [(.c 0), (.c 0), (.c 0), (.c 0), (.c 0), (.cl 1001 0 6)]) (.leaf [(.cl 1000 0 44), (.c 0), (.c 0), (.c 0), (.c 0), (.c 0)])))) (.bad 200))))))))))) (.leaf [(.c 0), (.c 0), (.c 0), (.c 0), (.c 0), (.c 3)]))) (.bad 200)) (.bad 200))) (.bad 200))
noncomputable def sq0 : Int := (cupZ (kZ 0 (kZ 0 0)) (kZ 1 (kZ (kZ 114 0) 0)))
noncomputable def sq1 : Int := (cupK (kZ 0 (kZ 0 0)) (kZ 1 (kZ (kZ 114 0) 0)))
noncomputable def sq2 (a : Int) : Int := (cupZ (rdZ (wrdC a) (1 + 1)) (kZ 1 (kZ (kZ 114 0) 0)))
noncomputable def sq3 (a : Int) : Int := (cupZ (rdZ (wrdC a) 1) (kZ 1 (kZ (kZ 114 0) 0)))
noncomputable def sq4 (a : Int) : Int := (PL (((1 + 1) + 1) + ((((wrdN a) - 1) - 1) - 1)) (wrdN a))
noncomputable def sq5 (a : Int) : Int := (cupZ (rdZ (wrdC a) ((1 + 1) + 1)) (kZ 1 (kZ (kZ 114 0) 0)))
noncomputable def sq6 (a : Int) : Int := (cupK (rdZ (wrdC a) (1 + 1)) (kZ 1 (kZ (kZ 114 0) 0)))
noncomputable def sq7 (a : Int) : Int := (cupK (rdZ (wrdC a) 1) (kZ 1 (kZ (kZ 114 0) 0)))
def sL0 (a z0 z2 z4 z6 z8 z10 : Int) : Prop := (z0 : Int) = (parZ a 0) ∧ (z2 : Int) = (parZ a 1) ∧ (z4 : Int) = (parZ a 2) ∧ (z6 : Int) = (parZ a 3) ∧ (z8 : Int) = (parZ a 4) ∧ (z10 : Int) = (parE a) ∧ True
def sq8 (a y0 : Int) : Prop := (Pm (PL 0 ((wrdN a) - 1)) (Pb (Pe ((wrdN a) - 1) 0) (Pn sq1 0 1 fun y1 => Pn (numZ sq0) (-999999999) 999999999 fun y2 => Pn (numK sq0) 0 1 fun y3 => Pn (numZ (kZ 0 (kZ 0 0))) (-999999999) 999999999 fun y4 => Pn (numK (kZ 0 (kZ 0 0))) 0 1 fun y5 => (sL0 a 0 0 0 0 0 3)) (Pm (Pl 0 ((wrdN a) - 1)) (Pm (Pl 1 (wrdN a)) (Pm (PL 1 ((wrdN a) - 1)) (Pm (PL (1 + ((wrdN a) - 1)) (wrdN a)) (Pn (sq7 a) 0 1 fun y1 => Pn (numZ (sq3 a)) (-999999999) 999999999 fun y2 => Pn (numK (sq3 a)) 0 1 fun y3 => (Pb (Pe y1 0) (Pm (PL 0 (((wrdN a) - 1) - 1)) (Pb (Pe (((wrdN a) - 1) - 1) 0) (Pn sq1 0 1 fun y4 => Pn (numZ sq0) (-999999999) 999999999 fun y5 => Pn (numK sq0) 0 1 fun y6 => Pn (numZ (kZ 0 (kZ 0 0))) (-999999999) 999999999 fun y7 => Pn (numK (kZ 0 (kZ 0 0))) 0 1 fun y8 => (sL0
 a 0 0 0 0 0 3)) (Pm (Pl 0 (((wrdN a) - 1) - 1)) (Pm (Pl (1 + 1) (wrdN a)) (Pm (PL 1 (((wrdN a) - 1) - 1)) (Pm (PL ((1 + 1) + (((wrdN a) - 1) - 1)) (wrdN a)) (Pn (sq6 a) 0 1 fun y4 => Pn (numZ (sq2 a)) (-999999999) 999999999 fun y5 => Pn (numK (sq2 a)) 0 1 fun y6 => (Pm (PL 0 ((((wrdN a) - 1) - 1) - 1)) (Pb (Pe ((((wrdN a) - 1) - 1) - 1) 0) (Pn (numZ (kZ 0 (kZ 0 0))) (-999999999) 999999999 fun y7 => Pn (numK (kZ 0 (kZ 0 0))) 0 1 fun y8 => (sL0 a 0 0 0 0 0 3)) (Pm (Pl 0 ((((wrdN a) - 1) - 1) - 1)) (Pm (Pl ((1 + 1) + 1) (wrdN a)) (Pm (PL 1 ((((wrdN a) - 1) - 1) - 1)) (Pm (sq4 a) (Pn (numZ (rdZ (wrdC a) ((1 + 1) + 1))) (-999999999) 999999999 fun y7 => Pn (numK (rdZ (wrdC a) ((1 + 1) + 1))) 0 1 fun y8 => (sL0 a 0 0 0 0 0 3))))))))))))))) (Pm (PL 0 (((wrdN a) - 1) - 1)) (Pb (Pe (((wrdN a) - 1)
 - 1) 0) (Pn sq1 0 1 fun y4 => Pn (numZ sq0) (-999999999) 999999999 fun y5 => Pn (numK sq0) 0 1 fun y6 => Pn (numZ (kZ 0 (kZ 0 0))) (-999999999) 999999999 fun y7 => Pn (numK (kZ 0 (kZ 0 0))) 0 1 fun y8 => (sL0 a 0 0 0 0 0 3)) (Pm (Pl 0 (((wrdN a) - 1) - 1)) (Pm (Pl (1 + 1) (wrdN a)) (Pm (PL 1 (((wrdN a) - 1) - 1)) (Pm (PL ((1 + 1) + (((wrdN a) - 1) - 1)) (wrdN a)) (Pn (sq6 a) 0 1 fun y4 => (Pb (Pe y3 0) (Pn (numZ (sq2 a)) (-999999999) 999999999 fun y5 => Pn (numK (sq2 a)) 0 1 fun y6 => (Pm (PL 0 ((((wrdN a) - 1) - 1) - 1)) (Pb (Pe ((((wrdN a) - 1) - 1) - 1) 0) (Pn (numZ (kZ 0 (kZ 0 0))) (-999999999) 999999999 fun y7 => Pn (numK (kZ 0 (kZ 0 0))) 0 1 fun y8 => (sL0 a 0 0 0 0 0 3)) (Pm (Pl 0 ((((wrdN a) - 1) - 1) - 1)) (Pm (Pl ((1 + 1) + 1) (wrdN a)) (Pm (PL 1 ((((wrdN a) - 1) - 1) - 1)) (Pm
 (sq4 a) (Pn (numZ (rdZ (wrdC a) ((1 + 1) + 1))) (-999999999) 999999999 fun y7 => Pn (numK (rdZ (wrdC a) ((1 + 1) + 1))) 0 1 fun y8 => (sL0 a 0 0 0 0 0 3))))))))) (Pn (numZ (sq2 a)) (-999999999) 999999999 fun y5 => Pn (numK (sq2 a)) 0 1 fun y6 => (Pb (Pe y4 0) (Pm (PL 0 ((((wrdN a) - 1) - 1) - 1)) (Pb (Pe ((((wrdN a) - 1) - 1) - 1) 0) (Pn (numZ (kZ 0 (kZ 0 0))) (-999999999) 999999999 fun y7 => Pn (numK (kZ 0 (kZ 0 0))) 0 1 fun y8 => (sL0 a 0 0 0 0 0 3)) (Pm (Pl 0 ((((wrdN a) - 1) - 1) - 1)) (Pm (Pl ((1 + 1) + 1) (wrdN a)) (Pm (PL 1 ((((wrdN a) - 1) - 1) - 1)) (Pm (sq4 a) (Pn (numZ (rdZ (wrdC a) ((1 + 1) + 1))) (-999999999) 999999999 fun y7 => Pn (numK (rdZ (wrdC a) ((1 + 1) + 1))) 0 1 fun y8 => (sL0 a 0 0 0 0 0 3)))))))) (Pm (PL 0 ((((wrdN a) - 1) - 1) - 1)) (Pb (Pe ((((wrdN a) - 1) - 1)
 - 1) 0) (Pn (numZ (kZ 0 (kZ 0 0))) (-999999999) 999999999 fun y7 => Pn (numK (kZ 0 (kZ 0 0))) 0 1 fun y8 => (sL0 a 0 0 0 0 0 3)) (Pm (Pl 0 ((((wrdN a) - 1) - 1) - 1)) (Pm (Pl ((1 + 1) + 1) (wrdN a)) (Pm (PL 1 ((((wrdN a) - 1) - 1) - 1)) (Pm (sq4 a) (Pn (numZ (rdZ (wrdC a) ((1 + 1) + 1))) (-999999999) 999999999 fun y7 => Pn (numK (rdZ (wrdC a) ((1 + 1) + 1))) 0 1 fun y8 => (Pb (Pe y6 0) (sL0 a 0 0 0 0 0 3) (Pb (Pe y8 0) (sL0 a 0 0 0 0 0 3) (Pm (PL 0 (((((wrdN a) - 1) - 1) - 1) - 1)) (Pb (Pl 0 (((((wrdN a) - 1) - 1) - 1) - 1)) (sL0 a 0 0 0 0 0 3) (Pn (cckZ y0 y2 (kZ y5 (kZ 0 (kZ y7 0)))) 0 6 fun y9 => (Pb (Pd y9 0) (sL0 a 0 0 0 0 0 y9) (sL0 a y0 y2 y5 0 y7 0))))))))))))))))))))))))))))))))
def sq9 (a y0 : Int) : Prop := (Pm (PL 0 ((wrdN a) - 1)) (Pb (Pe ((wrdN a) - 1) 0) (Pn sq1 0 1 fun y1 => Pn (numZ sq0) (-999999999) 999999999 fun y2 => Pn (numK sq0) 0 1 fun y3 => Pn (numZ (kZ 0 (kZ 0 0))) (-999999999) 999999999 fun y4 => Pn (numK (kZ 0 (kZ 0 0))) 0 1 fun y5 => (sL0 a 0 0 0 0 0 3)) (Pm (Pl 0 ((wrdN a) - 1)) (Pm (Pl 1 (wrdN a)) (Pm (PL 1 ((wrdN a) - 1)) (Pm (PL (1 + ((wrdN a) - 1)) (wrdN a)) (Pn (sq7 a) 0 1 fun y1 => Pn (numZ (sq3 a)) (-999999999) 999999999 fun y2 => Pn (numK (sq3 a)) 0 1 fun y3 => (Pb (Pe y1 0) (Pm (PL 0 (((wrdN a) - 1) - 1)) (Pb (Pe (((wrdN a) - 1) - 1) 0) (Pn (numZ (kZ 0 (kZ 0 0))) (-999999999) 999999999 fun y4 => Pn (numK (kZ 0 (kZ 0 0))) 0 1 fun y5 => (sL0 a 0 0 0 0 0 3)) (Pm (Pl 0 (((wrdN a) - 1) - 1)) (Pm (Pl (1 + 1) (wrdN a)) (Pm (PL 1 (((wrdN a) -
 1) - 1)) (Pm (PL ((1 + 1) + (((wrdN a) - 1) - 1)) (wrdN a)) (Pn (numZ (rdZ (wrdC a) (1 + 1))) (-999999999) 999999999 fun y4 => Pn (numK (rdZ (wrdC a) (1 + 1))) 0 1 fun y5 => (sL0 a 0 0 0 0 0 3)))))))) (Pm (PL 0 (((wrdN a) - 1) - 1)) (Pb (Pe (((wrdN a) - 1) - 1) 0) (Pn (numZ (kZ 0 (kZ 0 0))) (-999999999) 999999999 fun y4 => Pn (numK (kZ 0 (kZ 0 0))) 0 1 fun y5 => (sL0 a 0 0 0 0 0 3)) (Pm (Pl 0 (((wrdN a) - 1) - 1)) (Pm (Pl (1 + 1) (wrdN a)) (Pm (PL 1 (((wrdN a) - 1) - 1)) (Pm (PL ((1 + 1) + (((wrdN a) - 1) - 1)) (wrdN a)) (Pn (numZ (rdZ (wrdC a) (1 + 1))) (-999999999) 999999999 fun y4 => Pn (numK (rdZ (wrdC a) (1 + 1))) 0 1 fun y5 => (Pb (Pe y3 0) (sL0 a 0 0 0 0 0 3) (Pb (Pe y5 0) (sL0 a 0 0 0 0 0 3) (Pm (PL 0 ((((wrdN a) - 1) - 1) - 1)) (Pb (Pl 0 ((((wrdN a) - 1) - 1) - 1)) (sL0 a 0 0 0
 0 0 3) (Pn (cckZ y0 y2 (kZ 0 (kZ 0 (kZ y4 0)))) 0 6 fun y6 => (Pb (Pd y6 0) (sL0 a 0 0 0 0 0 y6) (sL0 a y0 y2 0 0 y4 0))))))))))))))))))))))
def sq10 (a : Int) : Prop := (Pm (PL 0 ((((wrdN a) - 1) - 1) - 1)) (Pb (Pe ((((wrdN a) - 1) - 1) - 1) 0) (Pn sq1 0 1 fun y7 => Pn (numZ sq0) (-999999999) 999999999 fun y8 => Pn (numK sq0) 0 1 fun y9 => (sL0 a 0 0 0 0 0 3)) (Pm (Pl 0 ((((wrdN a) - 1) - 1) - 1)) (Pm (Pl ((1 + 1) + 1) (wrdN a)) (Pm (PL 1 ((((wrdN a) - 1) - 1) - 1)) (Pm (sq4 a) (Pn (cupK (rdZ (wrdC a) ((1 + 1) + 1)) (kZ 1 (kZ (kZ 114 0) 0))) 0 1 fun y7 => Pn (numZ (sq5 a)) (-999999999) 999999999 fun y8 => Pn (numK (sq5 a)) 0 1 fun y9 => (sL0 a 0 0 0 0 0 3))))))))
def sq11 (a : Int) : Prop := (Pn sq1 0 1 fun y1 => Pn (numZ sq0) (-999999999) 999999999 fun y2 => Pn (numK sq0) 0 1 fun y3 => Pn (numZ (kZ 0 (kZ 0 0))) (-999999999) 999999999 fun y4 => Pn (numK (kZ 0 (kZ 0 0))) 0 1 fun y5 => (sL0 a 0 0 0 0 0 3))
def sq12 (a : Int) : Prop := (Pn sq1 0 1 fun y1 => Pn (numZ sq0) (-999999999) 999999999 fun y2 => Pn (numK sq0) 0 1 fun y3 => (sL0 a 0 0 0 0 0 3))
def sq13 (a : Int) : Prop := (Pn sq1 0 1 fun y4 => Pn (numZ sq0) (-999999999) 999999999 fun y5 => Pn (numK sq0) 0 1 fun y6 => (sL0 a 0 0 0 0 0 3))
def P (a : Int) : Prop :=
 (Pm (PL (qQj a) 100000) (Pb (Pe (wrdN a) 0) (Pn (opfZ (kZ 0 (kZ 0 0))) 0 44 fun y0 => (Pb (PL 1 y0) (Pb (Pe (PL y0 43) 0) (sL0 a 0 0 0 0 0 3) (Pb (PL y0 23) (sq12 a) (Pb (PL y0 30) (sq12 a) (Pb (Pe y0 31) (sq11 a) (Pb (Pe y0 33) (sq11 a) (Pb (Pe y0 40) (sq11 a) (Pb (Pl y0 39) (sq11 a) (Pb (Pe y0 39) (Pn (numZ (kZ 0 (kZ 0 0))) (-999999999) 999999999 fun y1 => Pn (numK (kZ 0 (kZ 0 0))) 0 1 fun y2 => (sL0 a 0 0 0 0 0 3)) (Pb (Pe y0 41) (sq12 a) (sL0 a 0 0 0 0 0 3)))))))))) (sL0 a 0 0 0 0 0 3))) (Pm (Pl 0 (wrdN a)) (Pm (PL 1 (wrdN a)) (Pn (opfZ (rdZ (wrdC a) 0)) 0 44 fun y0 => (Pb (PL 1 y0) (Pb (Pe (PL y0 43) 0) (sL0 a 0 0 0 0 0 3) (Pb (PL y0 23) (Pm (PL 0 ((wrdN a) - 1)) (Pb (Pe ((wrdN a) - 1) 0) (sq12 a) (Pm (Pl 0 ((wrdN a) - 1)) (Pm (Pl 1 (wrdN a)) (Pm (PL 1 ((wrdN a) - 1)) (Pm (PL (1 +
 ((wrdN a) - 1)) (wrdN a)) (Pn (sq7 a) 0 1 fun y1 => Pn (numZ (sq3 a)) (-999999999) 999999999 fun y2 => Pn (numK (sq3 a)) 0 1 fun y3 => (Pb (Pe y1 0) (Pm (PL 0 (((wrdN a) - 1) - 1)) (Pb (Pe (((wrdN a) - 1) - 1) 0) (sq13 a) (Pm (Pl 0 (((wrdN a) - 1) - 1)) (Pm (Pl (1 + 1) (wrdN a)) (Pm (PL 1 (((wrdN a) - 1) - 1)) (Pm (PL ((1 + 1) + (((wrdN a) - 1) - 1)) (wrdN a)) (Pn (sq6 a) 0 1 fun y4 => Pn (numZ (sq2 a)) (-999999999) 999999999 fun y5 => Pn (numK (sq2 a)) 0 1 fun y6 => (sq10 a)))))))) (Pm (PL 0 (((wrdN a) - 1) - 1)) (Pb (Pe (((wrdN a) - 1) - 1) 0) (sq13 a) (Pm (Pl 0 (((wrdN a) - 1) - 1)) (Pm (Pl (1 + 1) (wrdN a)) (Pm (PL 1 (((wrdN a) - 1) - 1)) (Pm (PL ((1 + 1) + (((wrdN a) - 1) - 1)) (wrdN a)) (Pn (sq6 a) 0 1 fun y4 => (Pb (Pe y3 0) (Pn (numZ (sq2 a)) (-999999999) 999999999 fun y5 => Pn
 (numK (sq2 a)) 0 1 fun y6 => (sq10 a)) (Pn (numZ (sq2 a)) (-999999999) 999999999 fun y5 => Pn (numK (sq2 a)) 0 1 fun y6 => (Pb (Pe y4 0) (sq10 a) (Pm (PL 0 ((((wrdN a) - 1) - 1) - 1)) (Pb (Pe ((((wrdN a) - 1) - 1) - 1) 0) (Pn sq1 0 1 fun y7 => Pn (numZ sq0) (-999999999) 999999999 fun y8 => Pn (numK sq0) 0 1 fun y9 => (sL0 a 0 0 0 0 0 3)) (Pm (Pl 0 ((((wrdN a) - 1) - 1) - 1)) (Pm (Pl ((1 + 1) + 1) (wrdN a)) (Pm (PL 1 ((((wrdN a) - 1) - 1) - 1)) (Pm (sq4 a) (Pn (cupK (rdZ (wrdC a) ((1 + 1) + 1)) (kZ 1 (kZ (kZ 114 0) 0))) 0 1 fun y7 => (Pb (Pe y6 0) (Pn (numZ (sq5 a)) (-999999999) 999999999 fun y8 => Pn (numK (sq5 a)) 0 1 fun y9 => (sL0 a 0 0 0 0 0 3)) (Pn (numZ (sq5 a)) (-999999999) 999999999 fun y8 => Pn (numK (sq5 a)) 0 1 fun y9 => (Pb (Pe y7 0) (sL0 a 0 0 0 0 0 3) (Pb (Pe y9 0) (sL0 a 0
 0 0 0 0 3) (Pm (PL 0 (((((wrdN a) - 1) - 1) - 1) - 1)) (Pb (Pl 0 (((((wrdN a) - 1) - 1) - 1) - 1)) (sL0 a 0 0 0 0 0 3) (Pn (cckZ y0 y2 (kZ y5 (kZ y8 (kZ 0 0)))) 0 6 fun y10 => (Pb (Pd y10 0) (sL0 a 0 0 0 0 0 y10) (sL0 a y0 y2 y5 y8 0 0)))))))))))))))))))))))))))))))))) (Pb (PL y0 30) (Pm (PL 0 ((wrdN a) - 1)) (Pb (Pe ((wrdN a) - 1) 0) (sq12 a) (Pm (Pl 0 ((wrdN a) - 1)) (Pm (Pl 1 (wrdN a)) (Pm (PL 1 ((wrdN a) - 1)) (Pm (PL (1 + ((wrdN a) - 1)) (wrdN a)) (Pn (sq7 a) 0 1 fun y1 => Pn (numZ (sq3 a)) (-999999999) 999999999 fun y2 => Pn (numK (sq3 a)) 0 1 fun y3 => (Pb (Pe y1 0) (Pm (PL 0 (((wrdN a) - 1) - 1)) (Pb (Pe (((wrdN a) - 1) - 1) 0) (sq13 a) (Pm (Pl 0 (((wrdN a) - 1) - 1)) (Pm (Pl (1 + 1) (wrdN a)) (Pm (PL 1 (((wrdN a) - 1) - 1)) (Pm (PL ((1 + 1) + (((wrdN a) - 1) - 1)) (wrdN a)) (Pn
 (sq6 a) 0 1 fun y4 => Pn (numZ (sq2 a)) (-999999999) 999999999 fun y5 => Pn (numK (sq2 a)) 0 1 fun y6 => (sL0 a 0 0 0 0 0 3)))))))) (Pm (PL 0 (((wrdN a) - 1) - 1)) (Pb (Pe (((wrdN a) - 1) - 1) 0) (sq13 a) (Pm (Pl 0 (((wrdN a) - 1) - 1)) (Pm (Pl (1 + 1) (wrdN a)) (Pm (PL 1 (((wrdN a) - 1) - 1)) (Pm (PL ((1 + 1) + (((wrdN a) - 1) - 1)) (wrdN a)) (Pn (sq6 a) 0 1 fun y4 => (Pb (Pe y3 0) (Pn (numZ (sq2 a)) (-999999999) 999999999 fun y5 => Pn (numK (sq2 a)) 0 1 fun y6 => (sL0 a 0 0 0 0 0 3)) (Pn (numZ (sq2 a)) (-999999999) 999999999 fun y5 => Pn (numK (sq2 a)) 0 1 fun y6 => (Pb (Pe y4 0) (sL0 a 0 0 0 0 0 3) (Pb (Pe y6 0) (sL0 a 0 0 0 0 0 3) (Pm (PL 0 ((((wrdN a) - 1) - 1) - 1)) (Pb (Pl 0 ((((wrdN a) - 1) - 1) - 1)) (sL0 a 0 0 0 0 0 3) (Pn (cckZ y0 y2 (kZ y5 (kZ 0 (kZ 0 0)))) 0 6 fun y7 => (Pb
 (Pd y7 0) (sL0 a 0 0 0 0 0 y7) (sL0 a y0 y2 y5 0 0 0)))))))))))))))))))))))) (Pb (Pe y0 31) (sq8 a y0) (Pb (Pe y0 33) (sq9 a y0) (Pb (Pe y0 40) (sq9 a y0) (Pb (Pl y0 39) (sq8 a y0) (Pb (Pe y0 39) (Pm (PL 0 ((wrdN a) - 1)) (Pb (Pe ((wrdN a) - 1) 0) (Pn (numZ (kZ 0 (kZ 0 0))) (-999999999) 999999999 fun y1 => Pn (numK (kZ 0 (kZ 0 0))) 0 1 fun y2 => (sL0 a 0 0 0 0 0 3)) (Pm (Pl 0 ((wrdN a) - 1)) (Pm (Pl 1 (wrdN a)) (Pm (PL 1 ((wrdN a) - 1)) (Pm (PL (1 + ((wrdN a) - 1)) (wrdN a)) (Pn (numZ (rdZ (wrdC a) 1)) (-999999999) 999999999 fun y1 => Pn (numK (rdZ (wrdC a) 1)) 0 1 fun y2 => (Pb (Pe y2 0) (sL0 a 0 0 0 0 0 3) (Pm (PL 0 (((wrdN a) - 1) - 1)) (Pb (Pl 0 (((wrdN a) - 1) - 1)) (sL0 a 0 0 0 0 0 3) (Pn (cckZ y0 0 (kZ 0 (kZ 0 (kZ y1 0)))) 0 6 fun y3 => (Pb (Pd y3 0) (sL0 a 0 0 0 0 0 y3) (sL0 a y0
 0 0 0 y1 0))))))))))))) (Pb (Pe y0 41) (Pm (PL 0 ((wrdN a) - 1)) (Pb (Pe ((wrdN a) - 1) 0) (sq12 a) (Pm (Pl 0 ((wrdN a) - 1)) (Pm (Pl 1 (wrdN a)) (Pm (PL 1 ((wrdN a) - 1)) (Pm (PL (1 + ((wrdN a) - 1)) (wrdN a)) (Pn (sq7 a) 0 1 fun y1 => Pn (numZ (sq3 a)) (-999999999) 999999999 fun y2 => Pn (numK (sq3 a)) 0 1 fun y3 => (Pb (Pe y1 0) (sL0 a 0 0 0 0 0 3) (Pb (Pe y3 0) (sL0 a 0 0 0 0 0 3) (Pm (PL 0 (((wrdN a) - 1) - 1)) (Pb (Pl 0 (((wrdN a) - 1) - 1)) (sL0 a 0 0 0 0 0 3) (Pn (cckZ y0 0 (kZ y2 (kZ 0 (kZ 0 0)))) 0 6 fun y4 => (Pb (Pd y4 0) (sL0 a 0 0 0 0 0 y4) (sL0 a y0 0 y2 0 0 0)))))))))))))) (Pm (PL 0 ((wrdN a) - 1)) (Pb (Pl 0 ((wrdN a) - 1)) (sL0 a 0 0 0 0 0 3) (Pn (cckZ y0 0 (kZ 0 (kZ 0 (kZ 0 0)))) 0 6 fun y1 => (Pb (Pd y1 0) (sL0 a 0 0 0 0 0 y1) (sL0 a y0 0 0 0 0 0)))))))))))))) (sL0 a 0
 0 0 0 0 3)))))))
theorem cup_r (x : Int) : (cupK x (qQq 1 (qQq (qQq 114 0) 0)) = 0 ∧ ¬ (1 ≤ qQj x ∧ ¬ seqZ (qQq 1 (qQq (qQy (rdZ x 1) 0) 0)) (qQq 1 (qQq (qQq 114 0) 0)) = 0)) ∨
  (cupK x (qQq 1 (qQq (qQq 114 0) 0)) = 1 ∧ 1 ≤ qQj x ∧ ¬ seqZ (qQq 1 (qQq (qQy (rdZ x 1) 0) 0)) (qQq 1 (qQq (qQq 114 0) 0)) = 0 ∧
   numK (cupZ x (qQq 1 (qQq (qQq 114 0) 0))) = numK (qQq (qQj x - 1) (qQq (qQy (rdZ x 1) 1) 0)) ∧ numZ (cupZ x (qQq 1 (qQq (qQq 114 0) 0))) = numZ (qQq (qQj x - 1) (qQq (qQy (rdZ x 1) 1) 0))) := by
 have h1 := slen_1 (qQq (qQq 114 0) 0)
 by_cases h : 1 ≤ qQj x ∧ ¬ seqZ (qQq 1 (qQq (qQy (rdZ x 1) 0) 0)) (qQq 1 (qQq (qQq 114 0) 0)) = 0
 ·have hk : cupK x (qQq 1 (qQq (qQq 114 0) 0)) = 1 := by unfold cupK; rw [h1]; exact if_pos h
  have hz : cupZ x (qQq 1 (qQq (qQq 114 0) 0)) = qQq (qQj x - 1) (qQq (qQy (rdZ x 1) 1) 0) := by unfold cupZ; rw [hk, h1]; rfl
  exact .inr ⟨hk, h.1, h.2, by rw [hz], by rw [hz]⟩
 ·have hk : cupK x (qQq 1 (qQq (qQq 114 0) 0)) = 0 := by unfold cupK; rw [h1]; exact if_neg h
  exact .inl ⟨hk, h⟩
theorem cup_y {x : Int} (h : cupK x (qQq 1 (qQq (qQq 114 0) 0)) = 1) : cupZ x (qQq 1 (qQq (qQq 114 0) 0)) = qQq (qQj x - 1) (qQq (qQy (rdZ x 1) 1) 0) ∧ True := by
 refine ⟨?_, trivial⟩
 unfold cupZ; rw [h, slen_1]; rfl
set_option maxHeartbeats 40000000 in
theorem holds (s0 : Int) (h_pre0 : qQk (decide ((qQj s0)  ≤  100000)) ≠ 0) : P s0 := by
 delta P sq0 sq1 sq2 sq3 sq4 sq5 sq6 sq7 sq8 sq9 sq10 sq11 sq12 sq13 sL0 Pb Pm Pn PL Pl Pe Pd kZ
 have hE := opfZ_e
 have hop := opfZ_bd (rdZ (wrdC s0) 0)
 have hle := opfZ_le (rdZ (wrdC s0) 0)
 have hw0 := (wrdN_bd s0).1
 have hbad := fun h => par_no (par_bad (s := s0) h)
 simp only [nrm, Int.reduceEq, Int.reduceNeg, reduceIte, cckZ_I, Int.reduceAdd, slen_0, slen_1, hE] at h_pre0 ⊢
 unfold parF at hbad
 simp only [if_false, Int.reduceEq] at hbad
 obtain ⟨op, ho⟩ : ∃ op, op = opfZ (rdZ (wrdC s0) 0) := ⟨_, rfl⟩
 rw [← ho] at hop hle hbad ⊢
 refine ⟨fun _ => ?_, fun h => by omega⟩
 by_cases hn : wrdN s0 = 0
 ·refine ⟨fun _ y hy hyb => ?_, fun h => absurd hn h⟩
  subst hy
  refine ⟨fun h => by omega, fun _ => ?_⟩
  obtain ⟨g1, g2, g3, g4, g5, g6⟩ := hbad (.inl hn)
  omega
 refine ⟨fun h => absurd h hn, fun _ => ?_⟩
 have hs : op = 0 ∨ (1 ≤ op ∧ op ≤ 23) ∨ (24 ≤ op ∧ op ≤ 30) ∨ (op = 31) ∨ (op = 32 ∨ (34 ≤ op ∧ op ≤ 38)) ∨ (op = 33 ∨ op = 40) ∨ (op = 39) ∨ (op = 41) ∨ (op = 42 ∨ op = 43) := by omega
 rcases hs with hr | hr | hr | hr | hr | hr | hr | hr | hr
 ·have hbad := hbad (.inr hr)
  repeat' (first | (constructor <;> intro _) | (intro _ hy _; subst hy))
  all_goals omega
 ·obtain ⟨hY, hN⟩ := parF_0 ho.symm hr (by omega)
  clear hbad hE
  have q1 := cup_r (rdZ (wrdC s0) 1)
  have q2 := cup_r (rdZ (wrdC s0) 2)
  have q3 := cup_r (rdZ (wrdC s0) 3)
  rcases Classical.em _ with hC | hC
  rotate_left
  ·have hG := hN hC
   clear hY hN
   unfold parF at hG
   simp only [Int.reduceEq, if_false] at hG
   obtain ⟨g1, g2, g3, g4, g5, g6⟩ := hG
   rw [g1, g2, g3, g4, g5, g6]
   clear g1 g2 g3 g4 g5 g6
   repeat' (first | (constructor <;> intro _) | (intro _ hy _; subst hy))
   all_goals first
    | (exact ⟨rfl, rfl, rfl, rfl, rfl, rfl⟩)
    | (exfalso; omega)
  ·have hG := hY hC
   clear hY hN
   unfold parF at hG
   obtain ⟨g1, g2, g3, g4, g5, g6⟩ := hG
   rw [g1, g2, g3, g4, g5, g6]
   clear g1 g2 g3 g4 g5 g6
   have c1 : cupK (rdZ (wrdC s0) 1) (qQq 1 (qQq (qQq 114 0) 0)) = 1 := by omega
   obtain ⟨v1, w1⟩ := cup_y c1
   have c2 : cupK (rdZ (wrdC s0) 2) (qQq 1 (qQq (qQq 114 0) 0)) = 1 := by omega
   obtain ⟨v2, w2⟩ := cup_y c2
   have c3 : cupK (rdZ (wrdC s0) 3) (qQq 1 (qQq (qQq 114 0) 0)) = 1 := by omega
   obtain ⟨v3, w3⟩ := cup_y c3
   simp only [v1, v2, v3]
   clear v1 w1 q1 v2 w2 q2 v3 w3 q3
   repeat' (first | (constructor <;> intro _) | (intro _ hy _; subst hy))
   all_goals first
    | (exfalso; omega)
    | omega
 ·obtain ⟨hY, hN⟩ := parF_1 ho.symm hr (by omega)
  clear hbad hE
  have q1 := cup_r (rdZ (wrdC s0) 1)
  have q2 := cup_r (rdZ (wrdC s0) 2)
  rcases Classical.em _ with hC | hC
  rotate_left
  ·have hG := hN hC
   clear hY hN
   unfold parF at hG
   simp only [Int.reduceEq, if_false] at hG
   obtain ⟨g1, g2, g3, g4, g5, g6⟩ := hG
   rw [g1, g2, g3, g4, g5, g6]
   clear g1 g2 g3 g4 g5 g6
   repeat' (first | (constructor <;> intro _) | (intro _ hy _; subst hy))
   all_goals first
    | (exact ⟨rfl, rfl, rfl, rfl, rfl, rfl⟩)
    | (exfalso; omega)
  ·have hG := hY hC
   clear hY hN
   unfold parF at hG
   obtain ⟨g1, g2, g3, g4, g5, g6⟩ := hG
   rw [g1, g2, g3, g4, g5, g6]
   clear g1 g2 g3 g4 g5 g6
   have c1 : cupK (rdZ (wrdC s0) 1) (qQq 1 (qQq (qQq 114 0) 0)) = 1 := by omega
   obtain ⟨v1, w1⟩ := cup_y c1
   have c2 : cupK (rdZ (wrdC s0) 2) (qQq 1 (qQq (qQq 114 0) 0)) = 1 := by omega
   obtain ⟨v2, w2⟩ := cup_y c2
   simp only [v1, v2]
   clear v1 w1 q1 v2 w2 q2
   repeat' (first | (constructor <;> intro _) | (intro _ hy _; subst hy))
   all_goals first
    | (exfalso; omega)
    | omega
 ·obtain ⟨hY, hN⟩ := parF_2 ho.symm hr (by omega)
  clear hbad hE
  have q1 := cup_r (rdZ (wrdC s0) 1)
  have q2 := cup_r (rdZ (wrdC s0) 2)
  rcases Classical.em _ with hC | hC
  rotate_left
  ·have hG := hN hC
   clear hY hN
   unfold parF at hG
   simp only [Int.reduceEq, if_false] at hG
   obtain ⟨g1, g2, g3, g4, g5, g6⟩ := hG
   rw [g1, g2, g3, g4, g5, g6]
   clear g1 g2 g3 g4 g5 g6
   repeat' (first | (constructor <;> intro _) | (intro _ hy _; subst hy))
   all_goals first
    | (exact ⟨rfl, rfl, rfl, rfl, rfl, rfl⟩)
    | (exfalso; omega)
  ·have hG := hY hC
   clear hY hN
   unfold parF at hG
   obtain ⟨g1, g2, g3, g4, g5, g6⟩ := hG
   rw [g1, g2, g3, g4, g5, g6]
   clear g1 g2 g3 g4 g5 g6
   have c1 : cupK (rdZ (wrdC s0) 1) (qQq 1 (qQq (qQq 114 0) 0)) = 1 := by omega
   obtain ⟨v1, w1⟩ := cup_y c1
   have c2 : cupK (rdZ (wrdC s0) 2) (qQq 1 (qQq (qQq 114 0) 0)) = 1 := by omega
   obtain ⟨v2, w2⟩ := cup_y c2
   simp only [v1, v2]
   clear v1 w1 q1 v2 w2 q2
   repeat' (first | (constructor <;> intro _) | (intro _ hy _; subst hy))
   all_goals first
    | (exfalso; omega)
    | omega
 ·obtain ⟨hY, hN⟩ := parF_3 ho.symm hr (by omega)
  clear hbad hE
  have q1 := cup_r (rdZ (wrdC s0) 1)
  have q2 := cup_r (rdZ (wrdC s0) 2)
  rcases Classical.em _ with hC | hC
  rotate_left
  ·have hG := hN hC
   clear hY hN
   unfold parF at hG
   simp only [Int.reduceEq, if_false] at hG
   obtain ⟨g1, g2, g3, g4, g5, g6⟩ := hG
   rw [g1, g2, g3, g4, g5, g6]
   clear g1 g2 g3 g4 g5 g6
   repeat' (first | (constructor <;> intro _) | (intro _ hy _; subst hy))
   all_goals first
    | (exact ⟨rfl, rfl, rfl, rfl, rfl, rfl⟩)
    | (exfalso; omega)
  ·have hG := hY hC
   clear hY hN
   unfold parF at hG
   obtain ⟨g1, g2, g3, g4, g5, g6⟩ := hG
   rw [g1, g2, g3, g4, g5, g6]
   clear g1 g2 g3 g4 g5 g6
   have c1 : cupK (rdZ (wrdC s0) 1) (qQq 1 (qQq (qQq 114 0) 0)) = 1 := by omega
   obtain ⟨v1, w1⟩ := cup_y c1
   have c2 : cupK (rdZ (wrdC s0) 2) (qQq 1 (qQq (qQq 114 0) 0)) = 1 := by omega
   obtain ⟨v2, w2⟩ := cup_y c2
   simp only [v1, v2]
   clear v1 w1 q1 v2 w2 q2
   repeat' (first | (constructor <;> intro _) | (intro _ hy _; subst hy))
   all_goals first
    | (exfalso; omega)
    | omega
 ·obtain ⟨hY, hN⟩ := parF_4 ho.symm hr (by omega)
  clear hbad hE
  have q1 := cup_r (rdZ (wrdC s0) 1)
  rcases Classical.em _ with hC | hC
  rotate_left
  ·have hG := hN hC
   clear hY hN
   unfold parF at hG
   simp only [Int.reduceEq, if_false] at hG
   obtain ⟨g1, g2, g3, g4, g5, g6⟩ := hG
   rw [g1, g2, g3, g4, g5, g6]
   clear g1 g2 g3 g4 g5 g6
   repeat' (first | (constructor <;> intro _) | (intro _ hy _; subst hy))
   all_goals first
    | (exact ⟨rfl, rfl, rfl, rfl, rfl, rfl⟩)
    | (exfalso; omega)
  ·have hG := hY hC
   clear hY hN
   unfold parF at hG
   obtain ⟨g1, g2, g3, g4, g5, g6⟩ := hG
   rw [g1, g2, g3, g4, g5, g6]
   clear g1 g2 g3 g4 g5 g6
   have c1 : cupK (rdZ (wrdC s0) 1) (qQq 1 (qQq (qQq 114 0) 0)) = 1 := by omega
   obtain ⟨v1, w1⟩ := cup_y c1
   simp only [v1]
   clear v1 w1 q1
   repeat' (first | (constructor <;> intro _) | (intro _ hy _; subst hy))
   all_goals first
    | (exfalso; omega)
    | omega
 ·obtain ⟨hY, hN⟩ := parF_5 ho.symm hr (by omega)
  clear hbad hE
  rcases Classical.em _ with hC | hC
  rotate_left
  ·have hG := hN hC
   clear hY hN
   unfold parF at hG
   simp only [Int.reduceEq, if_false] at hG
   obtain ⟨g1, g2, g3, g4, g5, g6⟩ := hG
   rw [g1, g2, g3, g4, g5, g6]
   clear g1 g2 g3 g4 g5 g6
   repeat' (first | (constructor <;> intro _) | (intro _ hy _; subst hy))
   all_goals first
    | (exact ⟨rfl, rfl, rfl, rfl, rfl, rfl⟩)
    | (exfalso; omega)
  ·have hG := hY hC
   clear hY hN
   unfold parF at hG
   obtain ⟨g1, g2, g3, g4, g5, g6⟩ := hG
   rw [g1, g2, g3, g4, g5, g6]
   clear g1 g2 g3 g4 g5 g6
   repeat' (first | (constructor <;> intro _) | (intro _ hy _; subst hy))
   all_goals first
    | (exfalso; omega)
    | omega
 ·obtain ⟨hY, hN⟩ := parF_6 ho.symm hr (by omega)
  clear hbad hE
  have q1 := cup_r (rdZ (wrdC s0) 1)
  rcases Classical.em _ with hC | hC
  rotate_left
  ·have hG := hN hC
   clear hY hN
   unfold parF at hG
   simp only [Int.reduceEq, if_false] at hG
   obtain ⟨g1, g2, g3, g4, g5, g6⟩ := hG
   rw [g1, g2, g3, g4, g5, g6]
   clear g1 g2 g3 g4 g5 g6
   repeat' (first | (constructor <;> intro _) | (intro _ hy _; subst hy))
   all_goals first
    | (exact ⟨rfl, rfl, rfl, rfl, rfl, rfl⟩)
    | (exfalso; omega)
  ·have hG := hY hC
   clear hY hN
   unfold parF at hG
   obtain ⟨g1, g2, g3, g4, g5, g6⟩ := hG
   rw [g1, g2, g3, g4, g5, g6]
   clear g1 g2 g3 g4 g5 g6
   have c1 : cupK (rdZ (wrdC s0) 1) (qQq 1 (qQq (qQq 114 0) 0)) = 1 := by omega
   obtain ⟨v1, w1⟩ := cup_y c1
   simp only [v1]
   clear v1 w1 q1
   repeat' (first | (constructor <;> intro _) | (intro _ hy _; subst hy))
   all_goals first
    | (exfalso; omega)
    | omega
 ·obtain ⟨hY, hN⟩ := parF_7 ho.symm hr (by omega)
  clear hbad hE
  rcases Classical.em _ with hC | hC
  rotate_left
  ·have hG := hN hC
   clear hY hN
   unfold parF at hG
   simp only [Int.reduceEq, if_false] at hG
   obtain ⟨g1, g2, g3, g4, g5, g6⟩ := hG
   rw [g1, g2, g3, g4, g5, g6]
   clear g1 g2 g3 g4 g5 g6
   repeat' (first | (constructor <;> intro _) | (intro _ hy _; subst hy))
   all_goals first
    | (exact ⟨rfl, rfl, rfl, rfl, rfl, rfl⟩)
    | (exfalso; omega)
  ·have hG := hY hC
   clear hY hN
   unfold parF at hG
   obtain ⟨g1, g2, g3, g4, g5, g6⟩ := hG
   rw [g1, g2, g3, g4, g5, g6]
   clear g1 g2 g3 g4 g5 g6
   repeat' (first | (constructor <;> intro _) | (intro _ hy _; subst hy))
   all_goals first
    | (exfalso; omega)
    | omega
theorem plain (i v ro p) : statR 2 rc tree ⟨i, fN, v, ro, p⟩ = P (i 0) := by kernel_rfl
theorem ran : ranR us (fun f _ => if [8].contains f then .unroll 400 else .auto) rc 2 tree = true := by kernel_rfl
theorem fineT : fineR 2 rc tree = true := by kernel_rfl
theorem ok : RcOk (cxOf 2) rc := okR us_ok ran fineT okb fun i v ro p hρ hcap hpre => by rw [plain]; have q := hρ.hi; exact holds _ (hpre _ (mg 0 rfl))
end CLParse
end Go.Proofs.YtppiabilakeadacDoor
