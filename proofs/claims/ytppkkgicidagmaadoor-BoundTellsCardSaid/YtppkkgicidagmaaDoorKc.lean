/-
  What functions of the program answer, as numbers of what they are handed: their runs by the engine, the plain statements behind them. No condition.
-/
import Derived.Test.YtppkkgicidagmaaDoorGab
import Derived.Test.YtppkkgicidagmaaDoorGp1
set_option linter.unusedVariables false
set_option linter.unusedSimpArgs false
set_option maxRecDepth 100000
namespace Go.Proofs.YtppkkgicidagmaaDoor
open Go.Eng Go.RowKit
namespace CRDec
def rc : Rc := ⟨23, [none], [.int .u32], [], .tup [some 5, none], [.int .i64 (.f 67 (.v 0) (.c 0) (.c 0)), .int .i64 (.f 67 (.v 0) (.c 1) (.c 0)), .int .i64 (.f 67 (.v 0) (.c 2) (.c 0)), .int .i64 (.f 67 (.v 0) (.c 3) (.c 0)), .int .i64 (.f 67 (.v 0) (.c 4) (.c 0)), .int .i64 (.f 67 (.v 0) (.c 5) (.c 0))]⟩
theorem okb : rc.ok = true := by kernel_rfl
noncomputable def us : SMs := fun Γ ins n => smH (cxG n Γ ins) [] (smR (cxG n Γ ins) [])
theorem us_ok : SMsOk us := fun Γ ins n => qXu (tabsG n Γ ins) (qJp _) (qXm (tabsG n Γ ins) (qJs _))
def Q0 : E := (.b .quo .i64 (.v 0) (.c 67108864))
def Q1 : E := (.b .rem .i64 (.v 0) (.c 65536))
def Q2 : E := (.b .quo .i64 (.v 0) (.c 2097152))
def Q3 : E := (.b .rem .i64 Q2 (.c 32))
def Q4 : E := (.b .quo .i64 (.v 0) (.c 65536))
def Q5 : E := (.b .rem .i64 Q4 (.c 32))
def Q6 : E := (tk (.c 23) Q0)
def Q7 : E := (tl Q0 (.c 30))
def Q8 : E := (tn Q1 (.c 0))
def Q9 : E := (te Q0 (.c 31))
def Q10 : E := (tl (.c 32768) Q1)
def Q11 : E := (.b .psub .i64 Q1 (.c 65536))
def Q12 : E := (te Q0 (.c 32))
def Q13 : E := (te Q0 (.c 34))
def Q14 : E := (te Q0 (.c 35))
def Q15 : E := (te Q0 (.c 36))
def Q16 : E := (te Q0 (.c 37))
def Q17 : E := (te Q0 (.c 38))
def Q18 : E := (te Q0 (.c 33))
def Q19 : E := (tn Q5 (.c 0))
def Q20 : E := (te Q0 (.c 40))
def Q21 : E := (te Q0 (.c 39))
def Q22 : E := (tn Q3 (.c 0))
def Q23 : E := (te Q0 (.c 41))
def Q24 : E := (te Q0 (.c 42))
def Q25 : E := (te Q0 (.c 43))
def tree : TT (List E) :=
 (.br (tl (.c 1) Q0) (.br (tl Q0 (.c 23)) (.br (tn (.b .rem .i64 Q1 (.c 2048)) (.c 0)) (.leaf [(.c 0), (.c 0), (.c 0), (.c 0), (.c 0), (.c 3)]) (.leaf [Q0, Q3, Q5, (.b .quo .i64 Q1 (.c 2048)), (.c 0), (.c 0)])) (.br Q6 (.br Q7 (.br Q8 (.leaf [(.c 0), (.c 0), (.c 0), (.c 0), (.c 0), (.c 3)]) (.leaf [Q0, Q3, Q5, (.c 0), (.c 0), (.c 0)])) (.br Q9 (.br Q10 (.leaf [Q0, Q3, Q5, (.c 0), Q11, (.c 0)]) (.leaf [Q0, Q3, Q5, (.c 0), Q1, (.c 0)])) (.br Q12 (.leaf [Q0, Q3, Q5, (.c 0), Q1, (.c 0)]) (.br Q13 (.leaf [Q0, Q3, Q5, (.c 0), Q1, (.c 0)]) (.br Q14 (.leaf [Q0, Q3, Q5, (.c 0), Q1, (.c 0)]) (.br Q15 (.leaf [Q0, Q3, Q5, (.c 0), Q1, (.c 0)]) (.br Q16 (.leaf [Q0, Q3, Q5, (.c 0), Q1, (.c 0)]) (.br Q17 (.leaf [Q0, Q3, Q5, (.c 0), Q1, (.c 0)]) (.br Q18 (.br Q19 (.leaf [(.c 0), (.c 0), (.c 0), (.c 0),
 (.c 0), (.c 3)]) (.leaf [Q0, Q3, Q5, (.c 0), Q1, (.c 0)])) (.br Q20 (.br Q19 (.leaf [(.c 0), (.c 0), (.c 0), (.c 0), (.c 0), (.c 3)]) (.leaf [Q0, Q3, Q5, (.c 0), Q1, (.c 0)])) (.br Q21 (.br Q22 (.leaf [(.c 0), (.c 0), (.c 0), (.c 0), (.c 0), (.c 3)]) (.br Q19 (.leaf [(.c 0), (.c 0), (.c 0), (.c 0), (.c 0), (.c 3)]) (.leaf [Q0, Q3, Q5, (.c 0), Q1, (.c 0)]))) (.br Q23 (.br Q8 (.leaf [(.c 0), (.c 0), (.c 0), (.c 0), (.c 0), (.c 3)]) (.br Q22 (.leaf [(.c 0), (.c 0), (.c 0), (.c 0), (.c 0), (.c 3)]) (.leaf [Q0, Q3, Q5, (.c 0), (.c 0), (.c 0)]))) (.br Q24 (.br Q8 (.leaf [(.c 0), (.c 0), (.c 0), (.c 0), (.c 0), (.c 3)]) (.br Q22 (.leaf [(.c 0), (.c 0), (.c 0), (.c 0), (.c 0), (.c 3)]) (.br Q19 (.leaf [(.c 0), (.c 0), (.c 0), (.c 0), (.c 0), (.c 3)]) (.leaf [Q0, Q3, Q5, (.c 0), (.c 0), (.c
 0)])))) (.br Q25 (.br Q8 (.leaf [(.c 0), (.c 0), (.c 0), (.c 0), (.c 0), (.c 3)]) (.br Q22 (.leaf [(.c 0), (.c 0), (.c 0), (.c 0), (.c 0), (.c 3)]) (.br Q19 (.leaf [(.c 0), (.c 0), (.c 0), (.c 0), (.c 0), (.c 3)]) (.leaf [Q0, Q3, Q5, (.c 0), (.c 0), (.c 0)])))) (.leaf [(.c 0), (.c 0), (.c 0), (.c 0), (.c 0), (.c 2)]))))))))))))))) (.br Q9 (.br Q10 (.leaf [Q0, Q3, Q5, (.c 0), Q11, (.c 0)]) (.leaf [Q0, Q3, Q5, (.c 0), Q1, (.c 0)])) (.br Q12 (.leaf [Q0, Q3, Q5, (.c 0), Q1, (.c 0)]) (.br Q13 (.leaf [Q0, Q3, Q5, (.c 0), Q1, (.c 0)]) (.br Q14 (.leaf [Q0, Q3, Q5, (.c 0), Q1, (.c 0)]) (.br Q15 (.leaf [Q0, Q3, Q5, (.c 0), Q1, (.c 0)]) (.br Q16 (.leaf [Q0, Q3, Q5, (.c 0), Q1, (.c 0)]) (.br Q17 (.leaf [Q0, Q3, Q5, (.c 0), Q1, (.c 0)]) (.br Q18 (.br Q19 (.leaf [(.c 0), (.c 0), (.c 0), (.c 0), (.c
 0), (.c 3)]) (.leaf [Q0, Q3, Q5, (.c 0), Q1, (.c 0)])) (.br Q20 (.br Q19 (.leaf [(.c 0), (.c 0), (.c 0), (.c 0), (.c 0), (.c 3)]) (.leaf [Q0, Q3, Q5, (.c 0), Q1, (.c 0)])) (.br Q21 (.br Q22 (.leaf [(.c 0), (.c 0), (.c 0), (.c 0), (.c 0), (.c 3)]) (.br Q19 (.leaf [(.c 0), (.c 0), (.c 0), (.c 0), (.c 0), (.c 3)]) (.leaf [Q0, Q3, Q5, (.c 0), Q1, (.c 0)]))) (.br Q23 (.br Q8 (.leaf [(.c 0), (.c 0), (.c 0), (.c 0), (.c 0), (.c 3)]) (.br Q22 (.leaf [(.c 0), (.c 0), (.c 0), (.c 0), (.c 0), (.c 3)]) (.leaf [Q0, Q3, Q5, (.c 0), (.c 0), (.c 0)]))) (.br Q24 (.br Q8 (.leaf [(.c 0), (.c 0), (.c 0), (.c 0), (.c 0), (.c 3)]) (.br Q22 (.leaf [(.c 0), (.c 0), (.c 0), (.c 0), (.c 0), (.c 3)]) (.br Q19 (.leaf [(.c 0), (.c 0), (.c 0), (.c 0), (.c 0), (.c 3)]) (.leaf [Q0, Q3, Q5, (.c 0), (.c 0), (.c 0)]))))
 (.br Q25 (.br Q8 (.leaf [(.c 0), (.c 0), (.c 0), (.c 0), (.c 0), (.c 3)]) (.br Q22 (.leaf [(.c 0), (.c 0), (.c 0), (.c 0), (.c 0), (.c 3)]) (.br Q19 (.leaf [(.c 0), (.c 0), (.c 0), (.c 0), (.c 0), (.c 3)]) (.leaf [Q0, Q3, Q5, (.c 0), (.c 0), (.c 0)])))) (.leaf [(.c 0), (.c 0), (.c 0), (.c 0), (.c 0), (.c 2)])))))))))))))))) (.br Q6 (.br Q7 (.br Q8 (.leaf [(.c 0), (.c 0), (.c 0), (.c 0), (.c 0), (.c 3)]) (.leaf [Q0, Q3, Q5, (.c 0), (.c 0), (.c 0)])) (.br Q9 (.br Q10 (.leaf [Q0, Q3, Q5, (.c 0), Q11, (.c 0)]) (.leaf [Q0, Q3, Q5, (.c 0), Q1, (.c 0)])) (.br Q12 (.leaf [Q0, Q3, Q5, (.c 0), Q1, (.c 0)]) (.br Q13 (.leaf [Q0, Q3, Q5, (.c 0), Q1, (.c 0)]) (.br Q14 (.leaf [Q0, Q3, Q5, (.c 0), Q1, (.c 0)]) (.br Q15 (.leaf [Q0, Q3, Q5, (.c 0), Q1, (.c 0)]) (.br Q16 (.leaf [Q0, Q3, Q5, (.c 0), Q1, (.c
 0)]) (.br Q17 (.leaf [Q0, Q3, Q5, (.c 0), Q1, (.c 0)]) (.br Q18 (.br Q19 (.leaf [(.c 0), (.c 0), (.c 0), (.c 0), (.c 0), (.c 3)]) (.leaf [Q0, Q3, Q5, (.c 0), Q1, (.c 0)])) (.br Q20 (.br Q19 (.leaf [(.c 0), (.c 0), (.c 0), (.c 0), (.c 0), (.c 3)]) (.leaf [Q0, Q3, Q5, (.c 0), Q1, (.c 0)])) (.br Q21 (.br Q22 (.leaf [(.c 0), (.c 0), (.c 0), (.c 0), (.c 0), (.c 3)]) (.br Q19 (.leaf [(.c 0), (.c 0), (.c 0), (.c 0), (.c 0), (.c 3)]) (.leaf [Q0, Q3, Q5, (.c 0), Q1, (.c 0)]))) (.br Q23 (.br Q8 (.leaf [(.c 0), (.c 0), (.c 0), (.c 0), (.c 0), (.c 3)]) (.br Q22 (.leaf [(.c 0), (.c 0), (.c 0), (.c 0), (.c 0), (.c 3)]) (.leaf [Q0, Q3, Q5, (.c 0), (.c 0), (.c 0)]))) (.br Q24 (.br Q8 (.leaf [(.c 0), (.c 0), (.c 0), (.c 0), (.c 0), (.c 3)]) (.br Q22 (.leaf [(.c 0), (.c 0), (.c 0), (.c 0), (.c 0), (.c
 3)]) (.br Q19 (.leaf [(.c 0), (.c 0), (.c 0), (.c 0), (.c 0), (.c 3)]) (.leaf [Q0, Q3, Q5, (.c 0), (.c 0), (.c 0)])))) (.br Q25 (.br Q8 (.leaf [(.c 0), (.c 0), (.c 0), (.c 0), (.c 0), (.c 3)]) (.br Q22 (.leaf [(.c 0), (.c 0), (.c 0), (.c 0), (.c 0), (.c 3)]) (.br Q19 (.leaf [(.c 0), (.c 0), (.c 0), (.c 0), (.c 0), (.c 3)]) (.leaf [Q0, Q3, Q5, (.c 0), (.c 0), (.c 0)])))) (.leaf [(.c 0), (.c 0), (.c 0), (.c 0), (.c 0), (.c 2)]))))))))))))))) (.br Q9 (.br Q10 (.leaf [Q0, Q3, Q5, (.c 0), Q11, (.c 0)]) (.leaf [Q0, Q3, Q5, (.c 0), Q1, (.c 0)])) (.br Q12 (.leaf [Q0, Q3, Q5, (.c 0), Q1, (.c 0)]) (.br Q13 (.leaf [Q0, Q3, Q5, (.c 0), Q1, (.c 0)]) (.br Q14 (.leaf [Q0, Q3, Q5, (.c 0), Q1, (.c 0)]) (.br Q15 (.leaf [Q0, Q3, Q5, (.c 0), Q1, (.c 0)]) (.br Q16 (.leaf [Q0, Q3, Q5, (.c 0), Q1, (.c 0)])
 (.br Q17 (.leaf [Q0, Q3, Q5, (.c 0), Q1, (.c 0)]) (.br Q18 (.br Q19 (.leaf [(.c 0), (.c 0), (.c 0), (.c 0), (.c 0), (.c 3)]) (.leaf [Q0, Q3, Q5, (.c 0), Q1, (.c 0)])) (.br Q20 (.br Q19 (.leaf [(.c 0), (.c 0), (.c 0), (.c 0), (.c 0), (.c 3)]) (.leaf [Q0, Q3, Q5, (.c 0), Q1, (.c 0)])) (.br Q21 (.br Q22 (.leaf [(.c 0), (.c 0), (.c 0), (.c 0), (.c 0), (.c 3)]) (.br Q19 (.leaf [(.c 0), (.c 0), (.c 0), (.c 0), (.c 0), (.c 3)]) (.leaf [Q0, Q3, Q5, (.c 0), Q1, (.c 0)]))) (.br Q23 (.br Q8 (.leaf [(.c 0), (.c 0), (.c 0), (.c 0), (.c 0), (.c 3)]) (.br Q22 (.leaf [(.c 0), (.c 0), (.c 0), (.c 0), (.c 0), (.c 3)]) (.leaf [Q0, Q3, Q5, (.c 0), (.c 0), (.c 0)]))) (.br Q24 (.br Q8 (.leaf [(.c 0), (.c 0), (.c 0), (.c 0), (.c 0), (.c 3)]) (.br Q22 (.leaf [(.c 0), (.c 0), (.c 0), (.c 0), (.c 0), (.c 3)])
 (.br Q19 (.leaf [(.c 0), (.c 0), (.c 0), (.c 0), (.c 0), (.c 3)]) (.leaf [Q0, Q3, Q5, (.c 0), (.c 0), (.c 0)])))) (.br Q25 (.br Q8 (.leaf [(.c 0), (.c 0), (.c 0), (.c 0), (.c 0), (.c 3)]) (.br Q22 (.leaf [(.c 0), (.c 0), (.c 0), (.c 0), (.c 0), (.c 3)]) (.br Q19 (.leaf [(.c 0), (.c 0), (.c 0), (.c 0), (.c 0), (.c 3)]) (.leaf [Q0, Q3, Q5, (.c 0), (.c 0), (.c 0)])))) (.leaf [(.c 0), (.c 0), (.c 0), (.c 0), (.c 0), (.c 2)]))))))))))))))))
noncomputable def sq0 (a : Int) : Int := (Pd (BO.ev .rem .i64 (BO.ev .quo .i64 a 65536) 32) 0)
noncomputable def sq1 (a : Int) : Int := (Pd (BO.ev .rem .i64 (BO.ev .quo .i64 a 2097152) 32) 0)
def sL0 (a z0 z2 z4 z6 z8 z10 : Int) : Prop := (z0 : Int) = (decZ a 0) ∧ (z2 : Int) = (decZ a 1) ∧ (z4 : Int) = (decZ a 2) ∧ (z6 : Int) = (decZ a 3) ∧ (z8 : Int) = (decZ a 4) ∧ (z10 : Int) = (decZ a 5) ∧ True
def sq2 (a : Int) : Prop := (Pb (Pe (BO.ev .quo .i64 a 67108864) 31) (Pb (PL 32768 (BO.ev .rem .i64 a 65536)) (sL0 a (BO.ev .quo .i64 a 67108864) (BO.ev .rem .i64 (BO.ev .quo .i64 a 2097152) 32) (BO.ev .rem .i64 (BO.ev .quo .i64 a 65536) 32) 0 ((BO.ev .rem .i64 a 65536) - 65536) 0) (sL0 a (BO.ev .quo .i64 a 67108864) (BO.ev .rem .i64 (BO.ev .quo .i64 a 2097152) 32) (BO.ev .rem .i64 (BO.ev .quo .i64 a 65536) 32) 0 (BO.ev .rem .i64 a 65536) 0)) (Pb (Pe (BO.ev .quo .i64 a 67108864) 32) (sL0 a (BO.ev .quo .i64 a 67108864) (BO.ev .rem .i64 (BO.ev .quo .i64 a 2097152) 32) (BO.ev .rem .i64 (BO.ev .quo .i64 a 65536) 32) 0 (BO.ev .rem .i64 a 65536) 0) (Pb (Pe (BO.ev .quo .i64 a 67108864) 34) (sL0 a (BO.ev .quo .i64 a 67108864) (BO.ev .rem .i64 (BO.ev .quo .i64 a 2097152) 32) (BO.ev .rem .i64
 (BO.ev .quo .i64 a 65536) 32) 0 (BO.ev .rem .i64 a 65536) 0) (Pb (Pe (BO.ev .quo .i64 a 67108864) 35) (sL0 a (BO.ev .quo .i64 a 67108864) (BO.ev .rem .i64 (BO.ev .quo .i64 a 2097152) 32) (BO.ev .rem .i64 (BO.ev .quo .i64 a 65536) 32) 0 (BO.ev .rem .i64 a 65536) 0) (Pb (Pe (BO.ev .quo .i64 a 67108864) 36) (sL0 a (BO.ev .quo .i64 a 67108864) (BO.ev .rem .i64 (BO.ev .quo .i64 a 2097152) 32) (BO.ev .rem .i64 (BO.ev .quo .i64 a 65536) 32) 0 (BO.ev .rem .i64 a 65536) 0) (Pb (Pe (BO.ev .quo .i64 a 67108864) 37) (sL0 a (BO.ev .quo .i64 a 67108864) (BO.ev .rem .i64 (BO.ev .quo .i64 a 2097152) 32) (BO.ev .rem .i64 (BO.ev .quo .i64 a 65536) 32) 0 (BO.ev .rem .i64 a 65536) 0) (Pb (Pe (BO.ev .quo .i64 a 67108864) 38) (sL0 a (BO.ev .quo .i64 a 67108864) (BO.ev .rem .i64 (BO.ev .quo .i64 a 2097152) 32)
 (BO.ev .rem .i64 (BO.ev .quo .i64 a 65536) 32) 0 (BO.ev .rem .i64 a 65536) 0) (Pb (Pe (BO.ev .quo .i64 a 67108864) 33) (Pb (sq0 a) (sL0 a 0 0 0 0 0 3) (sL0 a (BO.ev .quo .i64 a 67108864) (BO.ev .rem .i64 (BO.ev .quo .i64 a 2097152) 32) (BO.ev .rem .i64 (BO.ev .quo .i64 a 65536) 32) 0 (BO.ev .rem .i64 a 65536) 0)) (Pb (Pe (BO.ev .quo .i64 a 67108864) 40) (Pb (sq0 a) (sL0 a 0 0 0 0 0 3) (sL0 a (BO.ev .quo .i64 a 67108864) (BO.ev .rem .i64 (BO.ev .quo .i64 a 2097152) 32) (BO.ev .rem .i64 (BO.ev .quo .i64 a 65536) 32) 0 (BO.ev .rem .i64 a 65536) 0)) (Pb (Pe (BO.ev .quo .i64 a 67108864) 39) (Pb (sq1 a) (sL0 a 0 0 0 0 0 3) (Pb (sq0 a) (sL0 a 0 0 0 0 0 3) (sL0 a (BO.ev .quo .i64 a 67108864) (BO.ev .rem .i64 (BO.ev .quo .i64 a 2097152) 32) (BO.ev .rem .i64 (BO.ev .quo .i64 a 65536) 32) 0 (BO.ev
 .rem .i64 a 65536) 0))) (Pb (Pe (BO.ev .quo .i64 a 67108864) 41) (Pb (Pd (BO.ev .rem .i64 a 65536) 0) (sL0 a 0 0 0 0 0 3) (Pb (sq1 a) (sL0 a 0 0 0 0 0 3) (sL0 a (BO.ev .quo .i64 a 67108864) (BO.ev .rem .i64 (BO.ev .quo .i64 a 2097152) 32) (BO.ev .rem .i64 (BO.ev .quo .i64 a 65536) 32) 0 0 0))) (Pb (Pe (BO.ev .quo .i64 a 67108864) 42) (Pb (Pd (BO.ev .rem .i64 a 65536) 0) (sL0 a 0 0 0 0 0 3) (Pb (sq1 a) (sL0 a 0 0 0 0 0 3) (Pb (sq0 a) (sL0 a 0 0 0 0 0 3) (sL0 a (BO.ev .quo .i64 a 67108864) (BO.ev .rem .i64 (BO.ev .quo .i64 a 2097152) 32) (BO.ev .rem .i64 (BO.ev .quo .i64 a 65536) 32) 0 0 0)))) (Pb (Pe (BO.ev .quo .i64 a 67108864) 43) (Pb (Pd (BO.ev .rem .i64 a 65536) 0) (sL0 a 0 0 0 0 0 3) (Pb (sq1 a) (sL0 a 0 0 0 0 0 3) (Pb (sq0 a) (sL0 a 0 0 0 0 0 3) (sL0 a (BO.ev .quo .i64 a 67108864)
 (BO.ev .rem .i64 (BO.ev .quo .i64 a 2097152) 32) (BO.ev .rem .i64 (BO.ev .quo .i64 a 65536) 32) 0 0 0)))) (sL0 a 0 0 0 0 0 2))))))))))))))
def sq3 (a : Int) : Prop := (Pb (Pl 23 (BO.ev .quo .i64 a 67108864)) (Pb (PL (BO.ev .quo .i64 a 67108864) 30) (Pb (Pd (BO.ev .rem .i64 a 65536) 0) (sL0 a 0 0 0 0 0 3) (sL0 a (BO.ev .quo .i64 a 67108864) (BO.ev .rem .i64 (BO.ev .quo .i64 a 2097152) 32) (BO.ev .rem .i64 (BO.ev .quo .i64 a 65536) 32) 0 0 0)) (sq2 a)) (sq2 a))
def P (a : Int) : Prop :=
 (Pb (PL 1 (BO.ev .quo .i64 a 67108864)) (Pb (PL (BO.ev .quo .i64 a 67108864) 23) (Pb (Pd (BO.ev .rem .i64 (BO.ev .rem .i64 a 65536) 2048) 0) (sL0 a 0 0 0 0 0 3) (sL0 a (BO.ev .quo .i64 a 67108864) (BO.ev .rem .i64 (BO.ev .quo .i64 a 2097152) 32) (BO.ev .rem .i64 (BO.ev .quo .i64 a 65536) 32) (BO.ev .quo .i64 (BO.ev .rem .i64 a 65536) 2048) 0 0)) (sq3 a)) (sq3 a))
theorem q1 {w : Int} (h : 0 ≤ w) (h2 : w ≤ 4294967295) : BO.ev .quo .i64 w 67108864 = w / 67108864 := quo_pos h (by omega) (by decide)
theorem q2 {w : Int} (h : 0 ≤ w) (h2 : w ≤ 4294967295) : BO.ev .quo .i64 w 2097152 = w / 2097152 := quo_pos h (by omega) (by decide)
theorem q3 {w : Int} (h : 0 ≤ w) (h2 : w ≤ 4294967295) : BO.ev .quo .i64 w 65536 = w / 65536 := quo_pos h (by omega) (by decide)
theorem q4 {w : Int} (h : 0 ≤ w) (h2 : w ≤ 4294967295) : BO.ev .quo .i64 (w % 65536) 2048 = w % 65536 / 2048 := quo_pos (by omega) (by omega) (by decide)
set_option maxHeartbeats 8000000 in
theorem holds (p0 : Int) (l_p0 : 0 ≤ p0) (u_p0 : p0 ≤ 4294967295) : P p0 := by
 delta P sq0 sq1 sq2 sq3 sL0 Pb PL Pl Pe Pd
 have e1 := q1 l_p0 u_p0
 have e2 := q2 l_p0 u_p0
 have e3 := q3 l_p0 u_p0
 have e4 := q4 l_p0 u_p0
 have e5 : BO.ev .rem .i64 (p0 / 2097152) 32 = p0 / 2097152 % 32 := rem_pos (by omega)
 have e6 : BO.ev .rem .i64 (p0 / 65536) 32 = p0 / 65536 % 32 := rem_pos (by omega)
 have e7 : BO.ev .rem .i64 p0 65536 = p0 % 65536 := rem_pos (by omega)
 have e8 : BO.ev .rem .i64 (p0 % 65536) 2048 = p0 % 65536 % 2048 := rem_pos (by omega)
 simp only [e1, e2, e3, e7, e4, e5, e6, e8]
 simp only [nrm, Int.reduceEq, Int.reduceNeg, reduceIte]
 repeat' (first | refine ⟨fun _ => ?_, fun _ => ?_⟩ | exact dec_no2 l_p0 u_p0 (by omega) | exact qKf l_p0 u_p0 (by omega) (by unfold decP; simp only; omega) | exact qKg l_p0 u_p0 (by unfold decP; simp only; omega) (by omega) (by omega) (by omega) (by split <;> omega) (by unfold decN; simp only; split <;> (try split) <;> omega) | rintro _ rfl _)
theorem plain (i v ro p) : statR 2 rc tree ⟨i, fN, v, ro, p⟩ = P (i 0) := by kernel_rfl
theorem ran : ranR us (fun _ _ => .auto) rc 2 tree = true := by kernel_rfl
theorem fineT : fineR 2 rc tree = true := by kernel_rfl
theorem ok : RcOk (cxOf 2) rc := okR us_ok ran fineT okb fun i v ro p hρ hcap hpre => by rw [plain]; have q := hρ.hi; exact holds _ (q 0 _ rfl).1 (q 0 _ rfl).2
theorem decC (n : Nat) (Γ : List (Int × Int)) (ins : List InD) : DecC (cxG n Γ ins) 23 := decC_of (tabsG n Γ ins) (rc_n ok) (fun _ _ _ => rfl)
end CRDec
end Go.Proofs.YtppkkgicidagmaaDoor
