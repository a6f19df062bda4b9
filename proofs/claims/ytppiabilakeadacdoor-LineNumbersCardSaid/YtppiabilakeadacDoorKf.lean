/-
  What functions of the program answer, as numbers of what they are handed: their runs by the engine, the plain statements behind them. No condition.
-/
import Derived.Test.YtppiabilakeadacDoorKe
import Derived.Test.YtppiabilakeadacDoorGab
import Derived.Test.YtppiabilakeadacDoorGp2
set_option linter.unusedVariables false
set_option linter.unusedSimpArgs false
set_option maxRecDepth 100000
namespace Go.Proofs.YtppiabilakeadacDoor
open Go.Eng Go.RowKit
namespace CRDigits
def rc : Rc := ⟨6, [none], [.num .i64 (-999999999) 999999999], [], .one, [.str (.f 129 (.v 0) (.c 0) (.c 0))]⟩
theorem okb : rc.ok = true := by kernel_rfl
noncomputable def us : SMs := fun Γ ins n => smBut 6 (smH (cxG n Γ ins) [] (smR (cxG n Γ ins) [CRDg9.rc]))
theorem us_ok : SMsOk us := fun Γ ins n => qKa (qJj (tabsG n Γ ins) (qZc _) (qZu (tabsG n Γ ins) (qQa CRDg9.okb (rc_n CRDg9.ok) (qZd _))))
def Q0 : E := (.b .psub .i64 (.c 0) (.v 0))
def Q1 : E := (tC (.c 45) (.c 0))
def Q2 : E := (tC Q1 (.c 0))
def Q3 : E := (tC (.c 1) Q2)
def Q4 : E := (.f 129 Q0 (.c 0) (.c 0))
def Q5 : E := (tp (.v 0) (.c 1))
def Q6 : E := (tC (.c 57) (.c 0))
def Q7 : E := (tC (.c 56) Q6)
def Q8 : E := (tC (.c 55) Q7)
def Q9 : E := (tC (.c 54) Q8)
def Q10 : E := (tC (.c 53) Q9)
def Q11 : E := (tC (.c 52) Q10)
def Q12 : E := (tC (.c 51) Q11)
def Q13 : E := (tC (.c 50) Q12)
def Q14 : E := (tC (.c 49) Q13)
def Q15 : E := (tC (.c 48) Q14)
def Q16 : E := (.b .quo .i64 (.v 0) (.c 10))
def Q17 : E := (.b .rem .i64 (.v 0) (.c 10))
def Q18 : E := (.f 129 Q16 (.c 0) (.c 0))
def Q19 : E := (.f 129 Q17 (.c 0) (.c 0))
def tree : TT (List E) :=
 (.br (tk (.v 0) (.c 0)) (.br (tl (.c 0) Q0) (.br (tl (tp (.f 21 Q3 (.c 0) (.c 0)) (.f 21 Q4 (.c 0) (.c 0))) (.c 1000000)) (.leaf [(.f 23 Q3 Q4 (.c 0))]) (.bad 200)) (.bad 200)) (.br (tk (.v 0) (.c 10)) (.br (tl (.c 0) (.v 0)) (.br (tl (.v 0) Q5) (.br (tl Q5 (.f 21 (tC (.c 10) (tC Q15 (.c 0))) (.c 0) (.c 0))) (.leaf [(tC (.b .psub .i64 Q5 (.v 0)) (tC (.f 18 Q15 (.v 0) (.c 0)) (.c 0)))]) (.bad 200)) (.bad 200)) (.bad 200)) (.br (tl (.c 0) Q16) (.br (tl Q16 (.c 999999999)) (.br (tl (.c 0) Q17) (.br (tl (tp (.f 21 Q18 (.c 0) (.c 0)) (.f 21 Q19 (.c 0) (.c 0))) (.c 1000000)) (.leaf [(.f 23 Q18 Q19 (.c 0))]) (.bad 200)) (.bad 200)) (.bad 200)) (.bad 200))))
def P (a : Int) : Prop :=
 (Pb (Pl a 0) (Pm (PL 0 (0 - a)) (Pm (PL ((qQj (kZ 1 (kZ (kZ 45 0) 0))) + (qQj (itoZ (0 - a)))) 1000000) (qQz (catZ (kZ 1 (kZ (kZ 45 0) 0)) (itoZ (0 - a))) = qQz (itoZ a) ∧ True))) (Pb (Pl a 10) (Pm (PL 0 a) (Pm (PL a (a + 1)) (Pm (PL (a + 1) (qQj (kZ 10 (kZ (kZ 48 (kZ 49 (kZ 50 (kZ 51 (kZ 52 (kZ 53 (kZ 54 (kZ 55 (kZ 56 (kZ 57 0)))))))))) 0)))) (qQz (kZ ((a + 1) - a) (kZ (qQy (kZ 48 (kZ 49 (kZ 50 (kZ 51 (kZ 52 (kZ 53 (kZ 54 (kZ 55 (kZ 56 (kZ 57 0)))))))))) a) 0)) = qQz (itoZ a) ∧ True)))) (Pm (PL 0 (BO.ev .quo .i64 a 10)) (Pm (PL (BO.ev .quo .i64 a 10) 999999999) (Pm (PL 0 (BO.ev .rem .i64 a 10)) (Pm (PL ((qQj (itoZ (BO.ev .quo .i64 a 10))) + (qQj (itoZ (BO.ev .rem .i64 a 10)))) 1000000) (qQz (catZ (itoZ (BO.ev .quo .i64 a 10)) (itoZ (BO.ev .rem .i64 a 10))) = qQz
 (itoZ a) ∧ True)))))))
theorem holds (p0 : Int) (l_p0 : -999999999 ≤ p0) (u_p0 : p0 ≤ 999999999) : P p0 := by
 delta P Pb Pm PL Pl kZ
 by_cases hn : p0 < 0
 ·have a := qZz (n := 0 - p0) (by omega) (by omega)
  simp only [nrm, Int.reduceEq, Int.reduceNeg, reduceIte, qKh, qXn]
  refine ⟨fun _ => ⟨fun _ => ⟨fun _ => dig_neg hn (by omega), fun h => ?_⟩, fun h => ?_⟩, fun h => ?_⟩ <;> omega
 ·have e1 : BO.ev .quo .i64 p0 10 = p0 / 10 := quo10 (by omega) (by omega)
  have e2 : BO.ev .rem .i64 p0 10 = p0 % 10 := rem10 (by omega)
  have a := qZz (n := p0 / 10) (by omega) (by omega)
  have b := qZz (n := p0 % 10) (by omega) (by omega)
  rw [e1, e2]
  simp only [nrm, Int.reduceEq, Int.reduceNeg, reduceIte, qKh]
  refine ⟨fun h => ?_, fun _ => ⟨fun h0 => ⟨fun _ => ⟨fun _ => ⟨fun _ => qXz (by omega) (by omega), fun h => ?_⟩, fun h => ?_⟩, fun h => ?_⟩, fun h0 => ⟨fun _ => ⟨fun _ => ⟨fun _ => ⟨fun _ => dig_big (by omega) (by omega), fun h => ?_⟩, fun h => ?_⟩, fun h => ?_⟩, fun h => ?_⟩⟩⟩ <;> omega
theorem plain (i v ro p) : statR 2 rc tree ⟨i, fN, v, ro, p⟩ = P (i 0) := by kernel_rfl
theorem ran : ranR us (fun _ _ => .auto) rc 2 tree = true := by kernel_rfl
theorem fineT : fineR 2 rc tree = true := by kernel_rfl
theorem ok : RcOk (cxOf 2) rc := okR us_ok ran fineT okb fun i v ro p hρ hcap hpre => by rw [plain]; have q := hρ.hi; exact holds _ (q 0 _ rfl).1 (q 0 _ rfl).2
end CRDigits
end Go.Proofs.YtppiabilakeadacDoor
