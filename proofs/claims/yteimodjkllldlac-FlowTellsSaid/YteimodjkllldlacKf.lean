/-
  What functions of the program answer, as numbers of what they are handed: their runs by the engine, the plain statements behind them. No condition.
-/
import Derived.Test.YteimodjkllldlacGab
import Derived.Test.YteimodjkllldlacGp1
import Derived.Test.YteimodjkllldlacGp2
set_option linter.unusedVariables false
set_option linter.unusedSimpArgs false
set_option maxRecDepth 100000
namespace Go.Proofs.Yteimodjkllldlac
open Go.Eng Go.RowKit
namespace CRDec
def rc : Rc := ⟨19, [none], [.int .u32], [], .tup [some 5, none], [.int .i64 (.f 67 (.v 0) (.c 0) (.c 0)), .int .i64 (.f 67 (.v 0) (.c 1) (.c 0)), .int .i64 (.f 67 (.v 0) (.c 2) (.c 0)), .int .i64 (.f 67 (.v 0) (.c 3) (.c 0)), .int .i64 (.f 67 (.v 0) (.c 4) (.c 0)), .int .i64 (.f 67 (.v 0) (.c 5) (.c 0))]⟩
theorem okb : rc.ok = true := by kernel_rfl
noncomputable def us : SMs := fun Γ ins n => smH (cxG n Γ ins) [] (smR (cxG n Γ ins) [])
theorem us_ok : SMsOk us := fun Γ ins n => qJx (tabsG n Γ ins) (qZc _) (qJj (tabsG n Γ ins) (qZe _))
def Q0 : E := (.b .quo .i64 (.v 0) (.c 67108864))
def Q1 : E := (.b .rem .i64 (.v 0) (.c 65536))
def Q2 : E := (.b .quo .i64 (.v 0) (.c 2097152))
def Q3 : E := (.b .rem .i64 Q2 (.c 32))
def Q4 : E := (.b .quo .i64 (.v 0) (.c 65536))
def Q5 : E := (.b .rem .i64 Q4 (.c 32))
def Q6 : E := (tk (.c 23) Q0)
def Q7 : E := (tl Q0 (.c 30))
def Q8 : E := (tn Q1 (.c 0))
def Q9 : E := (te Q0 (.c 31))
def Q10 : E := (tl (.c 32768) Q1)
def Q11 : E := (.b .psub .i64 Q1 (.c 65536))
def Q12 : E := (te Q0 (.c 32))
def Q13 : E := (te Q0 (.c 34))
def Q14 : E := (te Q0 (.c 35))
def Q15 : E := (te Q0 (.c 36))
def Q16 : E := (te Q0 (.c 37))
def Q17 : E := (te Q0 (.c 38))
def Q18 : E := (te Q0 (.c 33))
def Q19 : E := (tn Q5 (.c 0))
def Q20 : E := (te Q0 (.c 40))
def Q21 : E := (te Q0 (.c 39))
def Q22 : E := (tn Q3 (.c 0))
def Q23 : E := (te Q0 (.c 41))
def Q24 : E := (te Q0 (.c 42))
def Q25 : E := (te Q0 (.c 43))
def tree : TT (List E) :=
 (.br (tl (.c 1) Q0) (.br (tl Q0 (.c 23)) (.br (tn (.b .rem .i64 Q1 (.c 2048)) (.c 0)) (.leaf [(.c 0), (.c 0), (.c 0), (.c 0), (.c 0), (.c 3)]) (.leaf [Q0, Q3, Q5, (.b .quo .i64 Q1 (.c 2048)), (.c 0), (.c 0)])) (.br Q6 (.br Q7 (.br Q8 (.leaf [(.c 0), (.c 0), (.c 0), (.c 0), (.c 0), (.c 3)]) (.leaf [Q0, Q3, Q5, (.c 0), (.c 0), (.c 0)])) (.br Q9 (.br Q10 (.leaf [Q0, Q3, Q5, (.c 0), Q11, (.c 0)]) (.leaf [Q0, Q3, Q5, (.c 0), Q1, (.c 0)])) (.br Q12 (.leaf [Q0, Q3, Q5, (.c 0), Q1, (.c 0)]) (.br Q13 (.leaf [Q0, Q3, Q5, (.c 0), Q1, (.c 0)]) (.br Q14 (.leaf [Q0, Q3, Q5, (.c 0), Q1, (.c 0)]) (.br Q15 (.leaf [Q0, Q3, Q5, (.c 0), Q1, (.c 0)]) (.br Q16 (.leaf [Q0, Q3, Q5, (.c 0), Q1, (.c 0)]) (.br Q17 (.leaf [Q0, Q3, Q5, (.c 0), Q1, (.c 0)]) (.br Q18 (.br Q19 (.leaf [(.c 0), (.c 0), (.c 0), (.c 0),
 (.c 0), (.c 3)]) (.leaf [Q0, Q3, Q5, (.c 0), Q1, (.c 0)])) (.br Q20 (.br Q19 (.leaf [(.c 0), (.c 0), (.c 0), (.c 0), (.c 0), (.c 3)]) (.leaf [Q0, Q3, Q5, (.c 0), Q1, (.c 0)])) (.br Q21 (.br Q22 (.leaf [(.c 0), (.c 0), (.c 0), (.c 0), (.c 0), (.c 3)]) (.br Q19 (.leaf [(.c 0), (.c 0), (.c 0), (.c 0), (.c 0), (.c 3)]) (.leaf [Q0, Q3, Q5, (.c 0), Q1, (.c 0)]))) (.br Q23 (.br Q8 (.leaf [(.c 0), (.c 0), (.c 0), (.c 0), (.c 0), (.c 3)]) (.br Q22 (.leaf [(.c 0), (.c 0), (.c 0), (.c 0), (.c 0), (.c 3)]) (.leaf [Q0, Q3, Q5, (.c 0), (.c 0), (.c 0)]))) (.br Q24 (.br Q8 (.leaf [(.c 0), (.c 0), (.c 0), (.c 0), (.c 0), (.c 3)]) (.br Q22 (.leaf [(.c 0), (.c 0), (.c 0), (.c 0), (.c 0), (.c 3)]) (.br Q19 (.leaf [(.c 0), (.c 0), (.c 0), (.c 0), (.c 0), (.c 3)]) (.leaf [Q0, Q3, Q5, (.c 0), (.c 0), (.c
 0)])))) (.br Q25 (.br Q8 (.leaf [(.c 0), (.c 0), (.c 0), (.c 0), (.c 0), (.c 3)]) (.br Q22 (.leaf [(.c 0), (.c 0), (.c 0), (.c 0), (.c 0), (.c 3)]) (.br Q19 (.leaf [(.c 0), (.c 0), (.c 0), (.c 0), (.c 0), (.c 3)]) (.leaf [Q0, Q3, Q5, (.c 0), (.c 0), (.c 0)])))) (.leaf [(.c 0), (.c 0), (.c 0), (.c 0), (.c 0), (.c 2)]))))))))))))))) (.br Q9 (.br Q10 (.leaf [Q0, Q3, Q5, (.c 0), Q11, (.c 0)]) (.leaf [Q0, Q3, Q5, (.c 0), Q1, (.c 0)])) (.br Q12 (.leaf [Q0, Q3, Q5, (.c 0), Q1, (.c 0)]) (.br Q13 (.leaf [Q0, Q3, Q5, (.c 0), Q1, (.c 0)]) (.br Q14 (.leaf [Q0, Q3, Q5, (.c 0), Q1, (.c 0)]) (.br Q15 (.leaf [Q0, Q3, Q5, (.c 0), Q1, (.c 0)]) (.br Q16 (.leaf [Q0, Q3, Q5, (.c 0), Q1, (.c 0)]) (.br Q17 (.leaf [Q0, Q3, Q5, (.c 0), Q1, (.c 0)]) (.br Q18 (.br Q19 (.leaf [(.c 0), (.c 0), (.c 0), (.c 0), (.c
 0), (.c 3)]) (.leaf [Q0, Q3, Q5, (.c 0), Q1, (.c 0)])) (.br Q20 (.br Q19 (.leaf [(.c 0), (.c 0), (.c 0), (.c 0), (.c 0), (.c 3)]) (.leaf [Q0, Q3, Q5, (.c 0), Q1, (.c 0)])) (.br Q21 (.br Q22 (.leaf [(.c 0), (.c 0), (.c 0), (.c 0), (.c 0), (.c 3)]) (.br Q19 (.leaf [(.c 0), (.c 0), (.c 0), (.c 0), (.c 0), (.c 3)]) (.leaf [Q0, Q3, Q5, (.c 0), Q1, (.c 0)]))) (.br Q23 (.br Q8 (.leaf [(.c 0), (.c 0), (.c 0), (.c 0), (.c 0), (.c 3)]) (.br Q22 (.leaf [(.c 0), (.c 0), (.c 0), (.c 0), (.c 0), (.c 3)]) (.leaf [Q0, Q3, Q5, (.c 0), (.c 0), (.c 0)]))) (.br Q24 (.br Q8 (.leaf [(.c 0), (.c 0), (.c 0), (.c 0), (.c 0), (.c 3)]) (.br Q22 (.leaf [(.c 0), (.c 0), (.c 0), (.c 0), (.c 0), (.c 3)]) (.br Q19 (.leaf [(.c 0), (.c 0), (.c 0), (.c 0), (.c 0), (.c 3)]) (.leaf [Q0, Q3, Q5, (.c 0), (.c 0), (.c 0)]))))
 (.br Q25 (.br Q8 (.leaf [(.c 0), (.c 0), (.c 0), (.c 0), (.c 0), (.c 3)]) (.br Q22 (.leaf [(.c 0), (.c 0), (.c 0), (.c 0), (.c 0), (.c 3)]) (.br Q19 (.leaf [(.c 0), (.c 0), (.c 0), (.c 0), (.c 0), (.c 3)]) (.leaf [Q0, Q3, Q5, (.c 0), (.c 0), (.c 0)])))) (.leaf [(.c 0), (.c 0), (.c 0), (.c 0), (.c 0), (.c 2)])))))))))))))))) (.br Q6 (.br Q7 (.br Q8 (.leaf [(.c 0), (.c 0), (.c 0), (.c 0), (.c 0), (.c 3)]) (.leaf [Q0, Q3, Q5, (.c 0), (.c 0), (.c 0)])) (.br Q9 (.br Q10 (.leaf [Q0, Q3, Q5, (.c 0), Q11, (.c 0)]) (.leaf [Q0, Q3, Q5, (.c 0), Q1, (.c 0)])) (.br Q12 (.leaf [Q0, Q3, Q5, (.c 0), Q1, (.c 0)]) (.br Q13 (.leaf [Q0, Q3, Q5, (.c 0), Q1, (.c 0)]) (.br Q14 (.leaf [Q0, Q3, Q5, (.c 0), Q1, (.c 0)]) (.br Q15 (.leaf [Q0, Q3, Q5, (.c 0), Q1, (.c 0)]) (.br Q16 (.leaf [Q0, Q3, Q5, (.c 0), Q1, (.c
 0)]) (.br Q17 (.leaf [Q0, Q3, Q5, (.c 0), Q1, (.c 0)]) (.br Q18 (.br Q19 (.leaf [(.c 0), (.c 0), (.c 0), (.c 0), (.c 0), (.c 3)]) (.leaf [Q0, Q3, Q5, (.c 0), Q1, (.c 0)])) (.br Q20 (.br Q19 (.leaf [(.c 0), (.c 0), (.c 0), (.c 0), (.c 0), (.c 3)]) (.leaf [Q0, Q3, Q5, (.c 0), Q1, (.c 0)])) (.br Q21 (.br Q22 (.leaf [(.c 0), (.c 0), (.c 0), (.c 0), (.c 0), (.c 3)]) (.br Q19 (.leaf [(.c 0), (.c 0), (.c 0), (.c 0), (.c 0), (.c 3)]) (.leaf [Q0, Q3, Q5, (.c 0), Q1, (.c 0)]))) (.br Q23 (.br Q8 (.leaf [(.c 0), (.c 0), (.c 0), (.c 0), (.c 0), (.c 3)]) (.br Q22 (.leaf [(.c 0), (.c 0), (.c 0), (.c 0), (.c 0), (.c 3)]) (.leaf [Q0, Q3, Q5, (.c 0), (.c 0), (.c 0)]))) (.br Q24 (.br Q8 (.leaf [(.c 0), (.c 0), (.c 0), (.c 0), (.c 0), (.c 3)]) (.br Q22 (.leaf [(.c 0), (.c 0), (.c 0), (.c 0), (.c 0), (.c
 3)]) (.br Q19 (.leaf [(.c 0), (.c 0), (.c 0), (.c 0), (.c 0), (.c 3)]) (.leaf [Q0, Q3, Q5, (.c 0), (.c 0), (.c 0)])))) (.br Q25 (.br Q8 (.leaf [(.c 0), (.c 0), (.c 0), (.c 0), (.c 0), (.c 3)]) (.br Q22 (.leaf [(.c 0), (.c 0), (.c 0), (.c 0), (.c 0), (.c 3)]) (.br Q19 (.leaf [(.c 0), (.c 0), (.c 0), (.c 0), (.c 0), (.c 3)]) (.leaf [Q0, Q3, Q5, (.c 0), (.c 0), (.c 0)])))) (.leaf [(.c 0), (.c 0), (.c 0), (.c 0), (.c 0), (.c 2)]))))))))))))))) (.br Q9 (.br Q10 (.leaf [Q0, Q3, Q5, (.c 0), Q11, (.c 0)]) (.leaf [Q0, Q3, Q5, (.c 0), Q1, (.c 0)])) (.br Q12 (.leaf [Q0, Q3, Q5, (.c 0), Q1, (.c 0)]) (.br Q13 (.leaf [Q0, Q3, Q5, (.c 0), Q1, (.c 0)]) (.br Q14 (.leaf [Q0, Q3, Q5, (.c 0), Q1, (.c 0)]) (.br Q15 (.leaf [Q0, Q3, Q5, (.c 0), Q1, (.c 0)]) (.br Q16 (.leaf [Q0, Q3, Q5, (.c 0), Q1, (.c 0)])
 (.br Q17 (.leaf [Q0, Q3, Q5, (.c 0), Q1, (.c 0)]) (.br Q18 (.br Q19 (.leaf [(.c 0), (.c 0), (.c 0), (.c 0), (.c 0), (.c 3)]) (.leaf [Q0, Q3, Q5, (.c 0), Q1, (.c 0)])) (.br Q20 (.br Q19 (.leaf [(.c 0), (.c 0), (.c 0), (.c 0), (.c 0), (.c 3)]) (.leaf [Q0, Q3, Q5, (.c 0), Q1, (.c 0)])) (.br Q21 (.br Q22 (.leaf [(.c 0), (.c 0), (.c 0), (.c 0), (.c 0), (.c 3)]) (.br Q19 (.leaf [(.c 0), (.c 0), (.c 0), (.c 0), (.c 0), (.c 3)]) (.leaf [Q0, Q3, Q5, (.c 0), Q1, (.c 0)]))) (.br Q23 (.br Q8 (.leaf [(.c 0), (.c 0), (.c 0), (.c 0), (.c 0), (.c 3)]) (.br Q22 (.leaf [(.c 0), (.c 0), (.c 0), (.c 0), (.c 0), (.c 3)]) (.leaf [Q0, Q3, Q5, (.c 0), (.c 0), (.c 0)]))) (.br Q24 (.br Q8 (.leaf [(.c 0), (.c 0), (.c 0), (.c 0), (.c 0), (.c 3)]) (.br Q22 (.leaf [(.c 0), (.c 0), (.c 0), (.c 0), (.c 0), (.c 3)])
 (.br Q19 (.leaf [(.c 0), (.c 0), (.c 0), (.c 0), (.c 0), (.c 3)]) (.leaf [Q0, Q3, Q5, (.c 0), (.c 0), (.c 0)])))) (.br Q25 (.br Q8 (.leaf [(.c 0), (.c 0), (.c 0), (.c 0), (.c 0), (.c 3)]) (.br Q22 (.leaf [(.c 0), (.c 0), (.c 0), (.c 0), (.c 0), (.c 3)]) (.br Q19 (.leaf [(.c 0), (.c 0), (.c 0), (.c 0), (.c 0), (.c 3)]) (.leaf [Q0, Q3, Q5, (.c 0), (.c 0), (.c 0)])))) (.leaf [(.c 0), (.c 0), (.c 0), (.c 0), (.c 0), (.c 2)]))))))))))))))))
noncomputable def sq0 (a : Int) : Int := (Pd (BO.ev .rem .i64 (BO.ev .quo .i64 a 65536) 32) 0)
noncomputable def sq1 (a : Int) : Int := (Pd (BO.ev .rem .i64 (BO.ev .quo .i64 a 2097152) 32) 0)
def sL0 (a z0 z2 z4 z6 z8 z10 : Int) : Prop := (z0 : Int) = (decZ a 0) ∧ (z2 : Int) = (decZ a 1) ∧ (z4 : Int) = (decZ a 2) ∧ (z6 : Int) = (decZ a 3) ∧ (z8 : Int) = (decZ a 4) ∧ (z10 : Int) = (decZ a 5) ∧ True
def sq2 (a : Int) : Prop := (Pb (Pe (BO.ev .quo .i64 a 67108864) 31) (Pb (PL 32768 (BO.ev .rem .i64 a 65536)) (sL0 a (BO.ev .quo .i64 a 67108864) (BO.ev .rem .i64 (BO.ev .quo .i64 a 2097152) 32) (BO.ev .rem .i64 (BO.ev .quo .i64 a 65536) 32) 0 ((BO.ev .rem .i64 a 65536) - 65536) 0) (sL0 a (BO.ev .quo .i64 a 67108864) (BO.ev .rem .i64 (BO.ev .quo .i64 a 2097152) 32) (BO.ev .rem .i64 (BO.ev .quo .i64 a 65536) 32) 0 (BO.ev .rem .i64 a 65536) 0)) (Pb (Pe (BO.ev .quo .i64 a 67108864) 32) (sL0 a (BO.ev .quo .i64 a 67108864) (BO.ev .rem .i64 (BO.ev .quo .i64 a 2097152) 32) (BO.ev .rem .i64 (BO.ev .quo .i64 a 65536) 32) 0 (BO.ev .rem .i64 a 65536) 0) (Pb (Pe (BO.ev .quo .i64 a 67108864) 34) (sL0 a (BO.ev .quo .i64 a 67108864) (BO.ev .rem .i64 (BO.ev .quo .i64 a 2097152) 32) (BO.ev .rem .i64
 (BO.ev .quo .i64 a 65536) 32) 0 (BO.ev .rem .i64 a 65536) 0) (Pb (Pe (BO.ev .quo .i64 a 67108864) 35) (sL0 a (BO.ev .quo .i64 a 67108864) (BO.ev .rem .i64 (BO.ev .quo .i64 a 2097152) 32) (BO.ev .rem .i64 (BO.ev .quo .i64 a 65536) 32) 0 (BO.ev .rem .i64 a 65536) 0) (Pb (Pe (BO.ev .quo .i64 a 67108864) 36) (sL0 a (BO.ev .quo .i64 a 67108864) (BO.ev .rem .i64 (BO.ev .quo .i64 a 2097152) 32) (BO.ev .rem .i64 (BO.ev .quo .i64 a 65536) 32) 0 (BO.ev .rem .i64 a 65536) 0) (Pb (Pe (BO.ev .quo .i64 a 67108864) 37) (sL0 a (BO.ev .quo .i64 a 67108864) (BO.ev .rem .i64 (BO.ev .quo .i64 a 2097152) 32) (BO.ev .rem .i64 (BO.ev .quo .i64 a 65536) 32) 0 (BO.ev .rem .i64 a 65536) 0) (Pb (Pe (BO.ev .quo .i64 a 67108864) 38) (sL0 a (BO.ev .quo .i64 a 67108864) (BO.ev .rem .i64 (BO.ev .quo .i64 a 2097152) 32)
 (BO.ev .rem .i64 (BO.ev .quo .i64 a 65536) 32) 0 (BO.ev .rem .i64 a 65536) 0) (Pb (Pe (BO.ev .quo .i64 a 67108864) 33) (Pb (sq0 a) (sL0 a 0 0 0 0 0 3) (sL0 a (BO.ev .quo .i64 a 67108864) (BO.ev .rem .i64 (BO.ev .quo .i64 a 2097152) 32) (BO.ev .rem .i64 (BO.ev .quo .i64 a 65536) 32) 0 (BO.ev .rem .i64 a 65536) 0)) (Pb (Pe (BO.ev .quo .i64 a 67108864) 40) (Pb (sq0 a) (sL0 a 0 0 0 0 0 3) (sL0 a (BO.ev .quo .i64 a 67108864) (BO.ev .rem .i64 (BO.ev .quo .i64 a 2097152) 32) (BO.ev .rem .i64 (BO.ev .quo .i64 a 65536) 32) 0 (BO.ev .rem .i64 a 65536) 0)) (Pb (Pe (BO.ev .quo .i64 a 67108864) 39) (Pb (sq1 a) (sL0 a 0 0 0 0 0 3) (Pb (sq0 a) (sL0 a 0 0 0 0 0 3) (sL0 a (BO.ev .quo .i64 a 67108864) (BO.ev .rem .i64 (BO.ev .quo .i64 a 2097152) 32) (BO.ev .rem .i64 (BO.ev .quo .i64 a 65536) 32) 0 (BO.ev
 .rem .i64 a 65536) 0))) (Pb (Pe (BO.ev .quo .i64 a 67108864) 41) (Pb (Pd (BO.ev .rem .i64 a 65536) 0) (sL0 a 0 0 0 0 0 3) (Pb (sq1 a) (sL0 a 0 0 0 0 0 3) (sL0 a (BO.ev .quo .i64 a 67108864) (BO.ev .rem .i64 (BO.ev .quo .i64 a 2097152) 32) (BO.ev .rem .i64 (BO.ev .quo .i64 a 65536) 32) 0 0 0))) (Pb (Pe (BO.ev .quo .i64 a 67108864) 42) (Pb (Pd (BO.ev .rem .i64 a 65536) 0) (sL0 a 0 0 0 0 0 3) (Pb (sq1 a) (sL0 a 0 0 0 0 0 3) (Pb (sq0 a) (sL0 a 0 0 0 0 0 3) (sL0 a (BO.ev .quo .i64 a 67108864) (BO.ev .rem .i64 (BO.ev .quo .i64 a 2097152) 32) (BO.ev .rem .i64 (BO.ev .quo .i64 a 65536) 32) 0 0 0)))) (Pb (Pe (BO.ev .quo .i64 a 67108864) 43) (Pb (Pd (BO.ev .rem .i64 a 65536) 0) (sL0 a 0 0 0 0 0 3) (Pb (sq1 a) (sL0 a 0 0 0 0 0 3) (Pb (sq0 a) (sL0 a 0 0 0 0 0 3) (sL0 a (BO.ev .quo .i64 a 67108864)
 (BO.ev .rem .i64 (BO.ev .quo .i64 a 2097152) 32) (BO.ev .rem .i64 (BO.ev .quo .i64 a 65536) 32) 0 0 0)))) (sL0 a 0 0 0 0 0 2))))))))))))))
def sq3 (a : Int) : Prop := (Pb (Pl 23 (BO.ev .quo .i64 a 67108864)) (Pb (PL (BO.ev .quo .i64 a 67108864) 30) (Pb (Pd (BO.ev .rem .i64 a 65536) 0) (sL0 a 0 0 0 0 0 3) (sL0 a (BO.ev .quo .i64 a 67108864) (BO.ev .rem .i64 (BO.ev .quo .i64 a 2097152) 32) (BO.ev .rem .i64 (BO.ev .quo .i64 a 65536) 32) 0 0 0)) (sq2 a)) (sq2 a))
def P (a : Int) : Prop :=
 (Pb (PL 1 (BO.ev .quo .i64 a 67108864)) (Pb (PL (BO.ev .quo .i64 a 67108864) 23) (Pb (Pd (BO.ev .rem .i64 (BO.ev .rem .i64 a 65536) 2048) 0) (sL0 a 0 0 0 0 0 3) (sL0 a (BO.ev .quo .i64 a 67108864) (BO.ev .rem .i64 (BO.ev .quo .i64 a 2097152) 32) (BO.ev .rem .i64 (BO.ev .quo .i64 a 65536) 32) (BO.ev .quo .i64 (BO.ev .rem .i64 a 65536) 2048) 0 0)) (sq3 a)) (sq3 a))
theorem q1 {w : Int} (h : 0 ≤ w) (h2 : w ≤ 4294967295) : BO.ev .quo .i64 w 67108864 = w / 67108864 := quo_pos h (by omega) (by decide)
theorem q2 {w : Int} (h : 0 ≤ w) (h2 : w ≤ 4294967295) : BO.ev .quo .i64 w 2097152 = w / 2097152 := quo_pos h (by omega) (by decide)
theorem q3 {w : Int} (h : 0 ≤ w) (h2 : w ≤ 4294967295) : BO.ev .quo .i64 w 65536 = w / 65536 := quo_pos h (by omega) (by decide)
theorem q4 {w : Int} (h : 0 ≤ w) (h2 : w ≤ 4294967295) : BO.ev .quo .i64 (w % 65536) 2048 = w % 65536 / 2048 := quo_pos (by omega) (by omega) (by decide)
set_option maxHeartbeats 8000000 in
theorem holds (p0 : Int) (l_p0 : 0 ≤ p0) (u_p0 : p0 ≤ 4294967295) : P p0 := by
 delta P sq0 sq1 sq2 sq3 sL0 Pb PL Pl Pe Pd
 have e1 := q1 l_p0 u_p0
 have e2 := q2 l_p0 u_p0
 have e3 := q3 l_p0 u_p0
 have e4 := q4 l_p0 u_p0
 have e5 : BO.ev .rem .i64 (p0 / 2097152) 32 = p0 / 2097152 % 32 := rem_pos (by omega)
 have e6 : BO.ev .rem .i64 (p0 / 65536) 32 = p0 / 65536 % 32 := rem_pos (by omega)
 have e7 : BO.ev .rem .i64 p0 65536 = p0 % 65536 := rem_pos (by omega)
 have e8 : BO.ev .rem .i64 (p0 % 65536) 2048 = p0 % 65536 % 2048 := rem_pos (by omega)
 simp only [e1, e2, e3, e7, e4, e5, e6, e8]
 simp only [nrm, Int.reduceEq, Int.reduceNeg, reduceIte]
 repeat' (first | refine ⟨fun _ => ?_, fun _ => ?_⟩ | exact dec_no2 l_p0 u_p0 (by omega) | exact qKa l_p0 u_p0 (by omega) (by unfold decP; simp only; omega) | exact qKb l_p0 u_p0 (by unfold decP; simp only; omega) (by omega) (by omega) (by omega) (by split <;> omega) (by unfold decN; simp only; split <;> (try split) <;> omega) | rintro _ rfl _)
theorem plain (i v ro p) : statR 2 rc tree ⟨i, fN, v, ro, p⟩ = P (i 0) := by kernel_rfl
theorem ran : ranR us (fun _ _ => .auto) rc 2 tree = true := by kernel_rfl
theorem fineT : fineR 2 rc tree = true := by kernel_rfl
theorem ok : RcOk (cxOf 2) rc := okR us_ok ran fineT okb fun i v ro p hρ hcap hpre => by rw [plain]; have q := hρ.hi; exact holds _ (q 0 _ rfl).1 (q 0 _ rfl).2
end CRDec
namespace CRNext24
def rc : Rc := ⟨36, [some 5, some 5, none], [.row [.int .u32] 1000000, .row [.int .i32] 1000000, .row [.bool] 1000000, .row [.int .i64] 1000000, .row [.int .i64] 1000000, .int .i64, .int .i64, .int .i64, .int .i64, .int .i64, .int .i64], [], .one, [.row [.int .i64] 3 (.ite (.b .padd .i64 (.b .padd .i64 (.b .eq .i64 (.v 5) (.c 36)) (.b .eq .i64 (.v 5) (.c 37))) (.b .eq .i64 (.v 5) (.c 38))) (.f 11 (.v 9) (.f 11 (.w .i64 (.b .padd .i64 (.v 10) (.c 1))) (.c 0) (.c 0)) (.c 0)) (.ite (.b .padd .i64 (.b .eq .i64 (.v 5) (.c 39)) (.b .eq .i64 (.v 5) (.c 40))) (.f 11 (.v 9) (.c 0) (.c 0)) (.f 11 (.w .i64 (.b .padd .i64 (.v 10) (.c 1))) (.c 0) (.c 0)))) (.ite (.b .padd .i64 (.b .padd .i64 (.b .eq .i64 (.v 5) (.c 41)) (.b .eq .i64 (.v 5) (.c 43))) (.b .pmul .i64 (.b .pmul .i64 (.b .padd .i64 (.b .eq .i64 (.v 5) (.c 34)) (.b .eq .i64 (.v 5) (.c 35))) (.b .eq .i64 (.v 7) (.c 0))) (.b .le .i64 (.v 1) (.v 9)))) (.c 0) (.ite (.b .padd .i64 (.b .padd .i64 (.b .eq .i64 (.v 5) (.c 36)) (.b .eq .i64 (.v 5) (.c 37))) (.b .eq .i64 (.v 5) (.c 38))) (.c 2) (.c 1)))]⟩
theorem okb : rc.ok = true := by kernel_rfl
noncomputable def us : SMs := fun Γ ins n => smH (cxG n Γ ins) [] (smR (cxG n Γ ins) [])
theorem us_ok : SMsOk us := fun Γ ins n => qJx (tabsG n Γ ins) (qZc _) (qJj (tabsG n Γ ins) (qZe _))
def Q0 : E := (te (.v 5) (.c 36))
def Q1 : E := (tp (.v 10) (.c 1))
def Q2 : E := (t6 Q1)
def Q3 : E := (tC Q2 (.c 0))
def Q4 : E := (tC (.v 9) Q3)
def Q5 : E := (te (.v 5) (.c 37))
def Q6 : E := (te (.v 5) (.c 38))
def Q7 : E := (te (.v 5) (.c 39))
def Q8 : E := (tC (.v 9) (.c 0))
def Q9 : E := (te (.v 5) (.c 40))
def tree : TT (List E) :=
 (.br (te (.v 5) (.c 34)) (.br (te (.v 5) (.c 41)) (.leaf [(.c 0), (.c 0)]) (.br (te (.v 5) (.c 43)) (.leaf [(.c 0), (.c 0)]) (.br (te (.v 7) (.c 0)) (.br (tl (.v 1) (.v 9)) (.leaf [(.c 0), (.c 0)]) (.br Q0 (.leaf [(.c 2), Q4]) (.br Q5 (.leaf [(.c 2), Q4]) (.br Q6 (.leaf [(.c 2), Q4]) (.br Q7 (.leaf [(.c 1), Q8]) (.br Q9 (.leaf [(.c 1), Q8]) (.leaf [(.c 1), Q3]))))))) (.br Q0 (.leaf [(.c 2), Q4]) (.br Q5 (.leaf [(.c 2), Q4]) (.br Q6 (.leaf [(.c 2), Q4]) (.br Q7 (.leaf [(.c 1), Q8]) (.br Q9 (.leaf [(.c 1), Q8]) (.leaf [(.c 1), Q3]))))))))) (.br (te (.v 5) (.c 41)) (.leaf [(.c 0), (.c 0)]) (.br (te (.v 5) (.c 43)) (.leaf [(.c 0), (.c 0)]) (.br (te (.v 5) (.c 35)) (.br (te (.v 7) (.c 0)) (.br (tl (.v 1) (.v 9)) (.leaf [(.c 0), (.c 0)]) (.br Q0 (.leaf [(.c 2), Q4]) (.br Q5 (.leaf [(.c 2),
 Q4]) (.br Q6 (.leaf [(.c 2), Q4]) (.br Q7 (.leaf [(.c 1), Q8]) (.br Q9 (.leaf [(.c 1), Q8]) (.leaf [(.c 1), Q3]))))))) (.br Q0 (.leaf [(.c 2), Q4]) (.br Q5 (.leaf [(.c 2), Q4]) (.br Q6 (.leaf [(.c 2), Q4]) (.br Q7 (.leaf [(.c 1), Q8]) (.br Q9 (.leaf [(.c 1), Q8]) (.leaf [(.c 1), Q3]))))))) (.br Q0 (.leaf [(.c 2), Q4]) (.br Q5 (.leaf [(.c 2), Q4]) (.br Q6 (.leaf [(.c 2), Q4]) (.br Q7 (.leaf [(.c 1), Q8]) (.br Q9 (.leaf [(.c 1), Q8]) (.leaf [(.c 1), Q3]))))))))))
def sL0 (f h b j k z0 z2 z4 : Int) : Prop := (z0 : Int) = (iteZ (((Pe f 41) + (Pe f 43)) + ((((Pe f 34) + (Pe f 35)) * (Pe h 0)) * (PL b j))) 0 (iteZ (((Pe f 36) + (Pe f 37)) + (Pe f 38)) 2 1)) ∧ qQf [.int .i64] z2 (iteZ (((Pe f 36) + (Pe f 37)) + (Pe f 38)) (kZ j (kZ (W6 (k + 1)) 0)) (iteZ ((Pe f 39) + (Pe f 40)) (kZ j 0) (kZ (W6 (k + 1)) 0))) z4 ∧ True
def sq0 (f h b j k : Int) : Prop := (Pb (Pe f 36) (sL0 f h b j k 2 (kZ j (kZ (W6 (k + 1)) 0)) 2) (Pb (Pe f 37) (sL0 f h b j k 2 (kZ j (kZ (W6 (k + 1)) 0)) 2) (Pb (Pe f 38) (sL0 f h b j k 2 (kZ j (kZ (W6 (k + 1)) 0)) 2) (Pb (Pe f 39) (sL0 f h b j k 1 (kZ j 0) 1) (Pb (Pe f 40) (sL0 f h b j k 1 (kZ j 0) 1) (sL0 f h b j k 1 (kZ (W6 (k + 1)) 0) 1))))))
def P (a b c d e f g h i j k l n o p q r s t u v : Int) : Prop :=
 (Pb (Pe f 34) (Pb (Pe f 41) (sL0 f h b j k 0 0 0) (Pb (Pe f 43) (sL0 f h b j k 0 0 0) (Pb (Pe h 0) (Pb (PL b j) (sL0 f h b j k 0 0 0) (sq0 f h b j k)) (sq0 f h b j k)))) (Pb (Pe f 41) (sL0 f h b j k 0 0 0) (Pb (Pe f 43) (sL0 f h b j k 0 0 0) (Pb (Pe f 35) (Pb (Pe h 0) (Pb (PL b j) (sL0 f h b j k 0 0 0) (sq0 f h b j k)) (sq0 f h b j k)) (sq0 f h b j k)))))
set_option maxHeartbeats 1000000 in
theorem holds (n0_0 n0_1 n0_2 n0_3 n0_4 p1_0 p1_1 p1_2 p1_3 p1_4 p2 c0_0 c0_1 c0_2 c0_3 c0_4 r0_0 r0_1 r0_2 r0_3 r0_4 : Int) (l_n0_0 : 0 ≤ n0_0) (u_n0_0 : n0_0 ≤ 1000000) (l_n0_1 : 0 ≤ n0_1) (u_n0_1 : n0_1 ≤ 1000000) (l_n0_2 : 0 ≤ n0_2) (u_n0_2 : n0_2 ≤ 1000000) (l_n0_3 : 0 ≤ n0_3) (u_n0_3 : n0_3 ≤ 1000000) (l_n0_4 : 0 ≤ n0_4) (u_n0_4 : n0_4 ≤ 1000000) (l_p1_0 : -9223372036854775808 ≤ p1_0) (u_p1_0 : p1_0 ≤ 9223372036854775807) (l_p1_1 : -9223372036854775808 ≤ p1_1) (u_p1_1 : p1_1 ≤ 9223372036854775807) (l_p1_2 : -9223372036854775808 ≤ p1_2) (u_p1_2 : p1_2 ≤ 9223372036854775807) (l_p1_3 : -9223372036854775808 ≤ p1_3) (u_p1_3 : p1_3 ≤ 9223372036854775807) (l_p1_4 : -9223372036854775808 ≤ p1_4) (u_p1_4 : p1_4 ≤ 9223372036854775807) (l_p2 : -9223372036854775808 ≤ p2) (u_p2 : p2 ≤ 9223372036854775807) (h_n0_0 : n0_0 ≤ r0_0) (h_n0_1 : n0_1 ≤ r0_1) (h_n0_2 : n0_2 ≤ r0_2) (h_n0_3 : n0_3 ≤ r0_3) (h_n0_4 : n0_4 ≤ r0_4) : P n0_0 n0_1 n0_2 n0_3 n0_4 p1_0 p1_1 p1_2 p1_3 p1_4 p2 c0_0 c0_1 c0_2 c0_3 c0_4 r0_0 r0_1 r0_2 r0_3 r0_4 := by
 delta P sq0 sL0 Pb PL Pe W6 kZ
 simp only [nrm, nro, Int.reduceEq, Int.reduceNeg, reduceIte]
 have he : qQz (p1_0 == 41) + qQz (p1_0 == 43) + (qQz (p1_0 == 34) + qQz (p1_0 == 35)) * qQz (p1_2 == 0) * qQz (decide (n0_1 ≤ p1_4)) = 0 ↔ ¬ endsP n0_1 p1_0 p1_2 p1_4 := by
  simp only [bo1, bo2]
  unfold endsP
  by_cases c1 : p1_2 = 0
  ·by_cases c2 : n0_1 ≤ p1_4
   ·simp only [if_pos c1, if_pos c2, Int.mul_one]
    (repeat' split) <;> omega
   ·simp only [if_neg c2, Int.mul_zero, Int.add_zero]
    (repeat' split) <;> omega
  ·simp only [if_neg c1, Int.mul_zero, Int.zero_mul, Int.add_zero]
   (repeat' split) <;> omega
 have hb : qQz (p1_0 == 36) + qQz (p1_0 == 37) + qQz (p1_0 == 38) = 0 ↔ ¬ (p1_0 = 36 ∨ p1_0 = 37 ∨ p1_0 = 38) := by
  simp only [bo1]
  (repeat' split) <;> omega
 have hj : qQz (p1_0 == 39) + qQz (p1_0 == 40) = 0 ↔ ¬ (p1_0 = 39 ∨ p1_0 = 40) := by
  simp only [bo1]
  (repeat' split) <;> omega
 simp only [he, hb, hj, Classical.not_not, endsP]
 clear he hb hj
 have q0 : ∀ {A B : Prop} [Decidable A] [Decidable B] {x y z : Int}, A → x = if A then x else if B then y else z := fun h => (if_pos h).symm
 have q1 : ∀ {A B : Prop} [Decidable A] [Decidable B] {x y z : Int}, ¬ A → B → y = if A then x else if B then y else z := fun h g => by rw [if_neg h, if_pos g]
 have q2 : ∀ {A B : Prop} [Decidable A] [Decidable B] {x y z : Int}, ¬ A → ¬ B → z = if A then x else if B then y else z := fun h g => by rw [if_neg h, if_neg g]
 have rq : ∀ {X Y n : Int}, X = Y → qQf [.int .i64] X Y n := fun h => by rw [h]; exact qJq _ _ _
 repeat' (first | refine And.intro (fun _ => ?_) (fun _ => ?_) | fail)
 all_goals refine ⟨?_, ?_⟩
 all_goals first
  | exact rowEq_nil _ _ _ (Int.le_refl _)
  | exact q0 (by omega)
  | exact q1 (by omega) (by omega)
  | exact q2 (by omega) (by omega)
  | exact rq (q0 (by omega))
  | exact rq (q1 (by omega) (by omega))
  | exact rq (q2 (by omega) (by omega))
theorem plain (i v ro p) : statR 2 rc tree ⟨i, fN, v, ro, p⟩ = P (i 0) (i 1) (i 2) (i 3) (i 4) (i 5) (i 6) (i 7) (i 8) (i 9) (i 10) (i 11) (i 12) (i 13) (i 14) (i 15) (i 16) (i 17) (i 18) (i 19) (i 20) := by kernel_rfl
theorem ran : ranR us (fun _ _ => .auto) rc 2 tree = true := by kernel_rfl
theorem fineT : fineR 2 rc tree = true := by kernel_rfl
theorem ok : RcOk (cxOf 2) rc := okR us_ok ran fineT okb fun i v ro p hρ hcap hpre => by rw [plain]; have q := hρ.hi; exact holds _ _ _ _ _ _ _ _ _ _ _ _ _ _ _ _ _ _ _ _ _ (q 0 _ rfl).1 (q 0 _ rfl).2 (q 1 _ rfl).1 (q 1 _ rfl).2 (q 2 _ rfl).1 (q 2 _ rfl).2 (q 3 _ rfl).1 (q 3 _ rfl).2 (q 4 _ rfl).1 (q 4 _ rfl).2 (q 5 _ rfl).1 (q 5 _ rfl).2 (q 6 _ rfl).1 (q 6 _ rfl).2 (q 7 _ rfl).1 (q 7 _ rfl).2 (q 8 _ rfl).1 (q 8 _ rfl).2 (q 9 _ rfl).1 (q 9 _ rfl).2 (q 10 _ rfl).1 (q 10 _ rfl).2 (hcap _ (mg 0 rfl)) (hcap _ (mg 1 rfl)) (hcap _ (mg 2 rfl)) (hcap _ (mg 3 rfl)) (hcap _ (mg 4 rfl))
end CRNext24
namespace CRAny
def rc : Rc := ⟨38, [none, none], [.row [.bool] 1000000, .bool], [], .one, [.bool (.f 113 (.v 2) (.v 0) (.v 1))]⟩
theorem okb : rc.ok = true := by kernel_rfl
noncomputable def us : SMs := fun Γ ins n => smH (cxG n Γ ins) [] (smR (cxG n Γ ins) [])
theorem us_ok : SMsOk us := fun Γ ins n => qJx (tabsG n Γ ins) (qZc _) (qJj (tabsG n Γ ins) (qZe _))
def tree : TT (List E) :=
(.loop ⟨1000, [some (0, 4611686018427387904)], [(.c 0)], 1002⟩
 (.br (.b .lt .i64 (.cl 1000 0 4611686018427387904) (.v 0))
 (.br (.b .eq .i64 (.nt (.f 13 (.v 2) (.cl 1000 0 4611686018427387904) (.c 0))) (.nt (.v 1)))
 (.exit 0)
 (.br (.b .le .i64 (.b .padd .i64 (.cl 1000 0 4611686018427387904) (.c 1)) (.c 4611686018427387904))
 (.back [(.b .padd .i64 (.cl 1000 0 4611686018427387904) (.c 1))])
 (.bad 303)))
 (.exit 1))
 (.br (.b .eq .i64 (.v 1002) (.c 0))
 (.leaf [(.c 1)])
 (.leaf [(.c 0)])))
def P (n0 p1 c0 r0 : Int) : Prop :=
 ∃ I1000 : Int → Nat → Prop, (∃ m, I1000 0 m) ∧
 ∀ y1000 : Int, ∀ m1000, ((0 ≤ y1000 ∧ y1000 ≤ 4611686018427387904) ∧ True) → I1000 y1000 m1000 →
  (((qQz (decide (y1000 < n0))) ≠ 0 →
   (((qQz ((qQz ((rdZ c0 y1000) == 0)) == (qQz (p1 == 0)))) ≠ 0 →
    (((qQz ((0 : Int) == 0)) ≠ 0 →
     ((1 : Int) ≠ 0 ↔ ((anyZ c0 n0 p1) : Int) ≠ 0) ∧ True) ∧ ((qQz ((0 : Int) == 0)) = 0 →
     ((0 : Int) ≠ 0 ↔ ((anyZ c0 n0 p1) : Int) ≠ 0) ∧ True))) ∧ ((qQz ((qQz ((rdZ c0 y1000) == 0)) == (qQz (p1 == 0)))) = 0 →
    (((qQz (decide ((y1000 + 1) ≤ 4611686018427387904))) ≠ 0 →
     ∃ m', m' < m1000 ∧ I1000 (y1000 + 1) m') ∧ ((qQz (decide ((y1000 + 1) ≤ 4611686018427387904))) = 0 →
     False))))) ∧ ((qQz (decide (y1000 < n0))) = 0 →
   (((qQz ((1 : Int) == 0)) ≠ 0 →
    ((1 : Int) ≠ 0 ↔ ((anyZ c0 n0 p1) : Int) ≠ 0) ∧ True) ∧ ((qQz ((1 : Int) == 0)) = 0 →
    ((0 : Int) ≠ 0 ↔ ((anyZ c0 n0 p1) : Int) ≠ 0) ∧ True))))
theorem holds (n0 p1 c0 r0 : Int) (l_n0 : 0 ≤ n0) (u_n0 : n0 ≤ 1000000) (l_p1 : 0 ≤ p1) (u_p1 : p1 ≤ 1) (h_n0 : n0 ≤ r0) : P n0 p1 c0 r0 := by
 unfold P
 simp only [nrm, nro, Int.reduceEq, Int.reduceNeg, reduceIte]
 have hz : (anyZ c0 n0 p1 = 0) ↔ ¬ ∃ j : Int, 0 ≤ j ∧ j < n0 ∧ (rdZ c0 j ≠ 0 ↔ p1 ≠ 0) := by
  unfold anyZ
  split
  ·rename_i h; exact ⟨fun k => absurd k (by decide), fun k => absurd h k⟩
  ·rename_i h; exact ⟨fun _ => h, fun _ => rfl⟩
 have hb : ∀ x y : Int, (qQz (x == 0) = qQz (y == 0)) ↔ (x ≠ 0 ↔ y ≠ 0) := fun x y => by
  unfold qQz
  by_cases e : x = 0
  ·by_cases g : y = 0 <;> simp [e, g]
  ·by_cases g : y = 0 <;> simp [e, g]
 simp only [hz, hb]
 refine ⟨fun y m => m = (n0 - y).toNat ∧ ∀ j, 0 ≤ j → j < y → ¬ (rdZ c0 j ≠ 0 ↔ p1 ≠ 0), ⟨_, rfl, fun j j0 j1 => by omega⟩, ?_⟩
 rintro y m ⟨y0, y1⟩ ⟨rfl, hI⟩
 refine ⟨fun hy => ⟨fun h k => k ⟨y, y0, hy, h⟩, fun h => ⟨by omega, _, ?_, rfl, fun j j0 j1 => ?_⟩⟩, fun hy => ?_⟩
 ·omega
 ·by_cases e : j = y
  ·subst e; exact h
  ·exact hI j j0 (by omega)
 ·rintro ⟨j, j0, j1, h⟩
  exact hI j j0 (by omega) h
theorem plain (i v ro p) : statR 2 rc tree ⟨i, fN, v, ro, p⟩ = P (i 0) (i 1) (i 2) (i 3) := by kernel_rfl
theorem ran : ranR us (fun _ _ => .auto) rc 2 tree = true := by kernel_rfl
theorem fineT : fineR 2 rc tree = true := by kernel_rfl
theorem ok : RcOk (cxOf 2) rc := okR us_ok ran fineT okb fun i v ro p hρ hcap hpre => by rw [plain]; have q := hρ.hi; exact holds _ _ _ _ (q 0 _ rfl).1 (q 0 _ rfl).2 (q 1 _ rfl).1 (q 1 _ rfl).2 (hcap _ (mg 0 rfl))
end CRAny
end Go.Proofs.Yteimodjkllldlac
