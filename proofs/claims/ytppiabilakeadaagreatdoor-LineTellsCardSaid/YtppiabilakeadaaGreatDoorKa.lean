/-
  What functions of the program answer, as numbers of what they are handed: their runs by the engine, the plain statements behind them. No condition.
-/
import Derived.Test.YtppiabilakeadaaGreatDoorGab
import Derived.Test.YtppiabilakeadaaGreatDoorGp2
import Derived.Test.YtppiabilakeadaaGreatDoorGib
set_option linter.unusedVariables false
set_option linter.unusedSimpArgs false
set_option maxRecDepth 100000
namespace Go.Proofs.YtppiabilakeadaaGreatDoor
open Go.Eng Go.RowKit
namespace CCChk
def rc : Rc := ⟨14, [some 5], [.int .i64, .int .i64, .int .i64, .int .i64, .int .i64], [], .one, [.int .i64 (.f 141 (.v 0) (.v 1) (qZi [(.v 2), (.v 3), (.v 4)]))]⟩
theorem okb : rc.ok = true := by kernel_rfl
noncomputable def us : SMs := fun Γ ins n => smH (cxG n Γ ins) [] (smR (cxG n Γ ins) [])
theorem us_ok : SMsOk us := fun Γ ins n => qZb (tabsG n Γ ins) (qQs _) (qZw (tabsG n Γ ins) (qQt _))
def Q0 : E := (tk (.v 1) (.c 0))
def Q1 : E := (tk (.c 31) (.v 1))
def Q2 : E := (tk (.v 2) (.c 0))
def Q3 : E := (tk (.c 31) (.v 2))
def Q4 : E := (tk (.v 3) (.c 0))
def Q5 : E := (tk (.v 4) (.c 0))
def Q6 : E := (tk (.c 0) (.v 4))
def Q7 : E := (tk (.c 0) (.v 3))
def Q8 : E := (tk (.c 0) (.v 2))
def Q9 : E := (tk (.c 65535) (.v 4))
def Q10 : E := (tk (.c 0) (.v 1))
def tree : TT (List E) :=
 (.br (tl (.c 1) (.v 0)) (.br (.nt (tl (.v 0) (.c 43))) (.leaf [(.c 2)]) (.br (tl (.v 0) (.c 23)) (.br Q0 (.leaf [(.c 6)]) (.br Q1 (.leaf [(.c 6)]) (.br Q2 (.leaf [(.c 6)]) (.br Q3 (.leaf [(.c 6)]) (.br Q4 (.leaf [(.c 6)]) (.br (tk (.c 31) (.v 3)) (.leaf [(.c 6)]) (.br Q5 (.leaf [(.c 3)]) (.br Q6 (.leaf [(.c 3)]) (.leaf [(.c 0)]))))))))) (.br (tl (.v 0) (.c 30)) (.br Q0 (.leaf [(.c 6)]) (.br Q1 (.leaf [(.c 6)]) (.br Q2 (.leaf [(.c 6)]) (.br Q3 (.leaf [(.c 6)]) (.br Q4 (.leaf [(.c 3)]) (.br Q7 (.leaf [(.c 3)]) (.br Q5 (.leaf [(.c 3)]) (.br Q6 (.leaf [(.c 3)]) (.leaf [(.c 0)]))))))))) (.br (te (.v 0) (.c 31)) (.br Q0 (.leaf [(.c 6)]) (.br Q1 (.leaf [(.c 6)]) (.br Q2 (.leaf [(.c 6)]) (.br Q3 (.leaf [(.c 6)]) (.br Q4 (.leaf [(.c 3)]) (.br Q7 (.leaf [(.c 3)]) (.br (tk (.v 4) (.c (-32768)))
 (.leaf [(.c 6)]) (.br (tk (.c 32767) (.v 4)) (.leaf [(.c 6)]) (.leaf [(.c 0)]))))))))) (.br (te (.v 0) (.c 33)) (.br Q0 (.leaf [(.c 6)]) (.br Q1 (.leaf [(.c 6)]) (.br Q2 (.leaf [(.c 3)]) (.br Q8 (.leaf [(.c 3)]) (.br Q4 (.leaf [(.c 3)]) (.br Q7 (.leaf [(.c 3)]) (.br Q5 (.leaf [(.c 6)]) (.br Q9 (.leaf [(.c 6)]) (.leaf [(.c 0)]))))))))) (.br (te (.v 0) (.c 40)) (.br Q0 (.leaf [(.c 6)]) (.br Q1 (.leaf [(.c 6)]) (.br Q2 (.leaf [(.c 3)]) (.br Q8 (.leaf [(.c 3)]) (.br Q4 (.leaf [(.c 3)]) (.br Q7 (.leaf [(.c 3)]) (.br Q5 (.leaf [(.c 6)]) (.br Q9 (.leaf [(.c 6)]) (.leaf [(.c 0)]))))))))) (.br (tk (.v 0) (.c 39)) (.br Q0 (.leaf [(.c 6)]) (.br Q1 (.leaf [(.c 6)]) (.br Q2 (.leaf [(.c 6)]) (.br Q3 (.leaf [(.c 6)]) (.br Q4 (.leaf [(.c 3)]) (.br Q7 (.leaf [(.c 3)]) (.br Q5 (.leaf [(.c 6)]) (.br Q9
 (.leaf [(.c 6)]) (.leaf [(.c 0)]))))))))) (.br (te (.v 0) (.c 39)) (.br Q0 (.leaf [(.c 3)]) (.br Q10 (.leaf [(.c 3)]) (.br Q2 (.leaf [(.c 3)]) (.br Q8 (.leaf [(.c 3)]) (.br Q4 (.leaf [(.c 3)]) (.br Q7 (.leaf [(.c 3)]) (.br Q5 (.leaf [(.c 6)]) (.br Q9 (.leaf [(.c 6)]) (.leaf [(.c 0)]))))))))) (.br (te (.v 0) (.c 41)) (.br Q0 (.leaf [(.c 3)]) (.br Q10 (.leaf [(.c 3)]) (.br Q2 (.leaf [(.c 6)]) (.br Q3 (.leaf [(.c 6)]) (.br Q4 (.leaf [(.c 3)]) (.br Q7 (.leaf [(.c 3)]) (.br Q5 (.leaf [(.c 3)]) (.br Q6 (.leaf [(.c 3)]) (.leaf [(.c 0)]))))))))) (.br Q0 (.leaf [(.c 3)]) (.br Q10 (.leaf [(.c 3)]) (.br Q2 (.leaf [(.c 3)]) (.br Q8 (.leaf [(.c 3)]) (.br Q4 (.leaf [(.c 3)]) (.br Q7 (.leaf [(.c 3)]) (.br Q5 (.leaf [(.c 3)]) (.br Q6 (.leaf [(.c 3)]) (.leaf [(.c 0)])))))))))))))))))) (.leaf [(.c 2)]))
noncomputable def sq0 (a b c d e : Int) : Int := (cckZ a b (kZ c (kZ d (kZ e 0))))
def sq1 (d a b c e : Int) : Prop := (Pb (Pl d 0) ((3 : Int) = (sq0 a b c d e) ∧ True) (Pb (Pl 0 d) ((3 : Int) = (sq0 a b c d e) ∧ True) (Pb (Pl e 0) ((6 : Int) = (sq0 a b c d e) ∧ True) (Pb (Pl 65535 e) ((6 : Int) = (sq0 a b c d e) ∧ True) ((0 : Int) = (sq0 a b c d e) ∧ True)))))
def sq2 (d a b c e : Int) : Prop := (Pb (Pl d 0) ((3 : Int) = (sq0 a b c d e) ∧ True) (Pb (Pl 0 d) ((3 : Int) = (sq0 a b c d e) ∧ True) (Pb (Pl e 0) ((3 : Int) = (sq0 a b c d e) ∧ True) (Pb (Pl 0 e) ((3 : Int) = (sq0 a b c d e) ∧ True) ((0 : Int) = (sq0 a b c d e) ∧ True)))))
def sq3 (b a c d e : Int) : Prop := (Pb (Pl b 0) ((6 : Int) = (sq0 a b c d e) ∧ True) (Pb (Pl 31 b) ((6 : Int) = (sq0 a b c d e) ∧ True) (Pb (Pl c 0) ((3 : Int) = (sq0 a b c d e) ∧ True) (Pb (Pl 0 c) ((3 : Int) = (sq0 a b c d e) ∧ True) (sq1 d a b c e)))))
def P (a b c d e : Int) : Prop :=
 (Pb (PL 1 a) (Pb (Pe (PL a 43) 0) ((2 : Int) = (sq0 a b c d e) ∧ True) (Pb (PL a 23) (Pb (Pl b 0) ((6 : Int) = (sq0 a b c d e) ∧ True) (Pb (Pl 31 b) ((6 : Int) = (sq0 a b c d e) ∧ True) (Pb (Pl c 0) ((6 : Int) = (sq0 a b c d e) ∧ True) (Pb (Pl 31 c) ((6 : Int) = (sq0 a b c d e) ∧ True) (Pb (Pl d 0) ((6 : Int) = (sq0 a b c d e) ∧ True) (Pb (Pl 31 d) ((6 : Int) = (sq0 a b c d e) ∧ True) (Pb (Pl e 0) ((3 : Int) = (sq0 a b c d e) ∧ True) (Pb (Pl 0 e) ((3 : Int) = (sq0 a b c d e) ∧ True) ((0 : Int) = (sq0 a b c d e) ∧ True))))))))) (Pb (PL a 30) (Pb (Pl b 0) ((6 : Int) = (sq0 a b c d e) ∧ True) (Pb (Pl 31 b) ((6 : Int) = (sq0 a b c d e) ∧ True) (Pb (Pl c 0) ((6 : Int) = (sq0 a b c d e) ∧ True) (Pb (Pl 31 c) ((6 : Int) = (sq0 a b c d e) ∧ True) (sq2 d a b c e))))) (Pb (Pe a 31) (Pb (Pl b 0)
 ((6 : Int) = (sq0 a b c d e) ∧ True) (Pb (Pl 31 b) ((6 : Int) = (sq0 a b c d e) ∧ True) (Pb (Pl c 0) ((6 : Int) = (sq0 a b c d e) ∧ True) (Pb (Pl 31 c) ((6 : Int) = (sq0 a b c d e) ∧ True) (Pb (Pl d 0) ((3 : Int) = (sq0 a b c d e) ∧ True) (Pb (Pl 0 d) ((3 : Int) = (sq0 a b c d e) ∧ True) (Pb (Pl e (-32768)) ((6 : Int) = (sq0 a b c d e) ∧ True) (Pb (Pl 32767 e) ((6 : Int) = (sq0 a b c d e) ∧ True) ((0 : Int) = (sq0 a b c d e) ∧ True))))))))) (Pb (Pe a 33) (sq3 b a c d e) (Pb (Pe a 40) (sq3 b a c d e) (Pb (Pl a 39) (Pb (Pl b 0) ((6 : Int) = (sq0 a b c d e) ∧ True) (Pb (Pl 31 b) ((6 : Int) = (sq0 a b c d e) ∧ True) (Pb (Pl c 0) ((6 : Int) = (sq0 a b c d e) ∧ True) (Pb (Pl 31 c) ((6 : Int) = (sq0 a b c d e) ∧ True) (sq1 d a b c e))))) (Pb (Pe a 39) (Pb (Pl b 0) ((3 : Int) = (sq0 a b c d e) ∧
 True) (Pb (Pl 0 b) ((3 : Int) = (sq0 a b c d e) ∧ True) (Pb (Pl c 0) ((3 : Int) = (sq0 a b c d e) ∧ True) (Pb (Pl 0 c) ((3 : Int) = (sq0 a b c d e) ∧ True) (sq1 d a b c e))))) (Pb (Pe a 41) (Pb (Pl b 0) ((3 : Int) = (sq0 a b c d e) ∧ True) (Pb (Pl 0 b) ((3 : Int) = (sq0 a b c d e) ∧ True) (Pb (Pl c 0) ((6 : Int) = (sq0 a b c d e) ∧ True) (Pb (Pl 31 c) ((6 : Int) = (sq0 a b c d e) ∧ True) (sq2 d a b c e))))) (Pb (Pl b 0) ((3 : Int) = (sq0 a b c d e) ∧ True) (Pb (Pl 0 b) ((3 : Int) = (sq0 a b c d e) ∧ True) (Pb (Pl c 0) ((3 : Int) = (sq0 a b c d e) ∧ True) (Pb (Pl 0 c) ((3 : Int) = (sq0 a b c d e) ∧ True) (sq2 d a b c e)))))))))))))) ((2 : Int) = (sq0 a b c d e) ∧ True))
theorem holds (p0_0 p0_1 p0_2 p0_3 p0_4 : Int) (l_p0_0 : -9223372036854775808 ≤ p0_0) (u_p0_0 : p0_0 ≤ 9223372036854775807) (l_p0_1 : -9223372036854775808 ≤ p0_1) (u_p0_1 : p0_1 ≤ 9223372036854775807) (l_p0_2 : -9223372036854775808 ≤ p0_2) (u_p0_2 : p0_2 ≤ 9223372036854775807) (l_p0_3 : -9223372036854775808 ≤ p0_3) (u_p0_3 : p0_3 ≤ 9223372036854775807) (l_p0_4 : -9223372036854775808 ≤ p0_4) (u_p0_4 : p0_4 ≤ 9223372036854775807) : P p0_0 p0_1 p0_2 p0_3 p0_4 := by
 delta P sq0 sq1 sq2 sq3 Pb PL Pl Pe kZ
 simp only [nrm, Int.reduceEq, Int.reduceNeg, reduceIte, qYc]
 repeat' (refine And.intro (fun _ => ?_) (fun _ => ?_))
 all_goals first
  | (rw [cck_n (by omega)])
  | (rw [cck_0 (by omega)]; omega)
  | (rw [cck_1 (by omega)]; omega)
  | (rw [cck_2 (by omega)]; omega)
  | (rw [cck_3 (by omega)]; omega)
  | (rw [cck_4 (by omega)]; omega)
  | (rw [cck_5 (by omega)]; omega)
  | (rw [cck_6 (by omega)]; omega)
  | (rw [cck_7 (by omega)]; omega)
theorem plain (i v ro p) : statR 2 rc tree ⟨i, fN, v, ro, p⟩ = P (i 0) (i 1) (i 2) (i 3) (i 4) := by kernel_rfl
theorem ran : ranR us (fun f _ => if [32, 14].contains f then .unroll 400 else .auto) rc 2 tree = true := by kernel_rfl
theorem fineT : fineR 2 rc tree = true := by kernel_rfl
theorem ok : RcOk (cxOf 2) rc := okR us_ok ran fineT okb fun i v ro p hρ hcap hpre => by rw [plain]; have q := hρ.hi; exact holds _ _ _ _ _ (q 0 _ rfl).1 (q 0 _ rfl).2 (q 1 _ rfl).1 (q 1 _ rfl).2 (q 2 _ rfl).1 (q 2 _ rfl).2 (q 3 _ rfl).1 (q 3 _ rfl).2 (q 4 _ rfl).1 (q 4 _ rfl).2
end CCChk
namespace COName
def rc : Rc := ⟨15, [none], [.int .i64], [], .one, [.str (.f 140 (.v 0) (.c 0) (.c 0))]⟩
theorem okb : rc.ok = true := by kernel_rfl
noncomputable def us : SMs := fun Γ ins n => smH (cxG n Γ ins) [] (smAnd 51 (libFields Γ ins n) (smR (cxG n Γ ins) []))
theorem us_ok : SMsOk us := fun Γ ins n => qZb (tabsG n Γ ins) (qQs _) (smAnd_ok (libFields_ok Γ ins n) (qZw (tabsG n Γ ins) (qQt _)))
def Q0 : E := (tC (.c 100) (.c 0))
def Q1 : E := (tC (.c 115) (.c 0))
def Q2 : E := (tC (.c 98) Q1)
def Q3 : E := (tC (.c 114) (.c 0))
def Q4 : E := (tC (.c 111) Q3)
def Q5 : E := (tC (.c 108) (.c 0))
def Q6 : E := (tC (.c 116) (.c 0))
def Q7 : E := (tC (.c 108) Q6)
def Q8 : E := (tC (.c 113) (.c 0))
def Q9 : E := (tC (.c 101) Q8)
def Q10 : E := (tC (.c 110) (.c 0))
def Q11 : E := (tC (.c 104) (.c 0))
def Q12 : E := (tC (.c 105) (.c 0))
def Q13 : E := (tC (.c 119) (.c 0))
def Q14 : E := (tC (.c 112) (.c 0))
def tree : TT (List E) :=
 (.br (te (.c 1) (.v 0)) (.leaf [(tC (.c 3) (tC (tC (.c 97) (tC (.c 100) Q0)) (.c 0)))]) (.br (te (.c 2) (.v 0)) (.leaf [(tC (.c 3) (tC (tC (.c 115) (tC (.c 117) (tC (.c 98) (.c 0)))) (.c 0)))]) (.br (te (.c 3) (.v 0)) (.leaf [(tC (.c 4) (tC (tC (.c 97) (tC (.c 100) (tC (.c 100) Q1))) (.c 0)))]) (.br (te (.c 4) (.v 0)) (.leaf [(tC (.c 4) (tC (tC (.c 115) (tC (.c 117) Q2)) (.c 0)))]) (.br (te (.c 5) (.v 0)) (.leaf [(tC (.c 3) (tC (tC (.c 97) (tC (.c 110) Q0)) (.c 0)))]) (.br (te (.c 6) (.v 0)) (.leaf [(tC (.c 2) (tC Q4 (.c 0)))]) (.br (te (.c 7) (.v 0)) (.leaf [(tC (.c 3) (tC (tC (.c 120) Q4) (.c 0)))]) (.br (te (.c 8) (.v 0)) (.leaf [(tC (.c 3) (tC (tC (.c 98) (tC (.c 105) (tC (.c 99) (.c 0)))) (.c 0)))]) (.br (te (.c 9) (.v 0)) (.leaf [(tC (.c 3) (tC (tC (.c 115) (tC (.c 104) Q5)) (.c
 0)))]) (.br (te (.c 10) (.v 0)) (.leaf [(tC (.c 3) (tC (tC (.c 115) (tC (.c 104) Q3)) (.c 0)))]) (.br (te (.c 11) (.v 0)) (.leaf [(tC (.c 3) (tC (tC (.c 115) (tC (.c 97) Q3)) (.c 0)))]) (.br (te (.c 12) (.v 0)) (.leaf [(tC (.c 3) (tC (tC (.c 114) (tC (.c 111) Q5)) (.c 0)))]) (.br (te (.c 13) (.v 0)) (.leaf [(tC (.c 3) (tC (tC (.c 115) Q7) (.c 0)))]) (.br (te (.c 14) (.v 0)) (.leaf [(tC (.c 4) (tC (tC (.c 115) (tC (.c 108) (tC (.c 116) (tC (.c 117) (.c 0))))) (.c 0)))]) (.br (te (.c 15) (.v 0)) (.leaf [(tC (.c 3) (tC (tC (.c 115) Q9) (.c 0)))]) (.br (te (.c 16) (.v 0)) (.leaf [(tC (.c 3) (tC (tC (.c 109) (tC (.c 105) Q10)) (.c 0)))]) (.br (te (.c 17) (.v 0)) (.leaf [(tC (.c 3) (tC (tC (.c 109) (tC (.c 97) (tC (.c 120) (.c 0)))) (.c 0)))]) (.br (te (.c 18) (.v 0)) (.leaf [(tC (.c 3) (tC
 (tC (.c 109) (tC (.c 117) Q5)) (.c 0)))]) (.br (te (.c 19) (.v 0)) (.leaf [(tC (.c 4) (tC (tC (.c 109) (tC (.c 117) (tC (.c 108) Q11))) (.c 0)))]) (.br (te (.c 20) (.v 0)) (.leaf [(tC (.c 4) (tC (tC (.c 109) (tC (.c 117) (tC (.c 108) Q8))) (.c 0)))]) (.br (te (.c 21) (.v 0)) (.leaf [(tC (.c 4) (tC (tC (.c 109) (tC (.c 117) (tC (.c 108) Q3))) (.c 0)))]) (.br (te (.c 22) (.v 0)) (.leaf [(tC (.c 3) (tC (tC (.c 100) (tC (.c 105) (tC (.c 118) (.c 0)))) (.c 0)))]) (.br (te (.c 23) (.v 0)) (.leaf [(tC (.c 3) (tC (tC (.c 114) (tC (.c 101) (tC (.c 109) (.c 0)))) (.c 0)))]) (.br (te (.c 24) (.v 0)) (.leaf [(tC (.c 3) (tC (tC (.c 99) (tC (.c 108) (tC (.c 122) (.c 0)))) (.c 0)))]) (.br (te (.c 25) (.v 0)) (.leaf [(tC (.c 3) (tC (tC (.c 110) (tC (.c 101) (tC (.c 103) (.c 0)))) (.c 0)))]) (.br (te (.c
 26) (.v 0)) (.leaf [(tC (.c 3) (tC (tC (.c 97) Q2) (.c 0)))]) (.br (te (.c 27) (.v 0)) (.leaf [(tC (.c 4) (tC (tC (.c 109) (tC (.c 97) (tC (.c 115) (tC (.c 107) (.c 0))))) (.c 0)))]) (.br (te (.c 28) (.v 0)) (.leaf [(tC (.c 4) (tC (tC (.c 115) (tC (.c 105) (tC (.c 103) Q10))) (.c 0)))]) (.br (te (.c 29) (.v 0)) (.leaf [(tC (.c 4) (tC (tC (.c 104) (tC (.c 97) (tC (.c 108) (tC (.c 102) (.c 0))))) (.c 0)))]) (.br (te (.c 30) (.v 0)) (.leaf [(tC (.c 4) (tC (tC (.c 104) (tC (.c 105) (tC (.c 103) Q11))) (.c 0)))]) (.br (te (.c 31) (.v 0)) (.leaf [(tC (.c 4) (tC (tC (.c 97) (tC (.c 100) (tC (.c 100) Q12))) (.c 0)))]) (.br (te (.c 32) (.v 0)) (.leaf [(tC (.c 3) (tC (tC (.c 111) (tC (.c 114) Q12)) (.c 0)))]) (.br (te (.c 33) (.v 0)) (.leaf [(tC (.c 3) (tC (tC (.c 108) (tC (.c 117) Q12)) (.c
 0)))]) (.br (te (.c 34) (.v 0)) (.leaf [(tC (.c 2) (tC (tC (.c 108) Q13) (.c 0)))]) (.br (te (.c 35) (.v 0)) (.leaf [(tC (.c 2) (tC (tC (.c 115) Q13) (.c 0)))]) (.br (te (.c 36) (.v 0)) (.leaf [(tC (.c 3) (tC (tC (.c 98) Q9) (.c 0)))]) (.br (te (.c 37) (.v 0)) (.leaf [(tC (.c 3) (tC (tC (.c 98) (tC (.c 110) (tC (.c 101) (.c 0)))) (.c 0)))]) (.br (te (.c 38) (.v 0)) (.leaf [(tC (.c 3) (tC (tC (.c 98) Q7) (.c 0)))]) (.br (te (.c 39) (.v 0)) (.leaf [(tC (.c 4) (tC (tC (.c 106) (tC (.c 117) (tC (.c 109) Q14))) (.c 0)))]) (.br (te (.c 40) (.v 0)) (.leaf [(tC (.c 3) (tC (tC (.c 106) (tC (.c 97) Q5)) (.c 0)))]) (.br (te (.c 41) (.v 0)) (.leaf [(tC (.c 2) (tC (tC (.c 106) Q3) (.c 0)))]) (.br (te (.c 42) (.v 0)) (.leaf [(tC (.c 3) (tC (tC (.c 110) (tC (.c 111) Q14)) (.c 0)))]) (.br (te (.c 43)
 (.v 0)) (.leaf [(tC (.c 4) (tC (tC (.c 104) (tC (.c 97) Q7)) (.c 0)))]) (.leaf [(tC (.c 0) (tC (.c 0) (.c 0)))]))))))))))))))))))))))))))))))))))))))))))))
def P (a : Int) : Prop :=
 (Pb (Pe 1 a) (qQj (kZ 3 (kZ (kZ 97 (kZ 100 (kZ 100 0))) 0)) = qQj (onmZ a) ∧ True) (Pb (Pe 2 a) (qQj (kZ 3 (kZ (kZ 115 (kZ 117 (kZ 98 0))) 0)) = qQj (onmZ a) ∧ True) (Pb (Pe 3 a) (qQj (kZ 4 (kZ (kZ 97 (kZ 100 (kZ 100 (kZ 115 0)))) 0)) = qQj (onmZ a) ∧ True) (Pb (Pe 4 a) (qQj (kZ 4 (kZ (kZ 115 (kZ 117 (kZ 98 (kZ 115 0)))) 0)) = qQj (onmZ a) ∧ True) (Pb (Pe 5 a) (qQj (kZ 3 (kZ (kZ 97 (kZ 110 (kZ 100 0))) 0)) = qQj (onmZ a) ∧ True) (Pb (Pe 6 a) (qQj (kZ 2 (kZ (kZ 111 (kZ 114 0)) 0)) = qQj (onmZ a) ∧ True) (Pb (Pe 7 a) (qQj (kZ 3 (kZ (kZ 120 (kZ 111 (kZ 114 0))) 0)) = qQj (onmZ a) ∧ True) (Pb (Pe 8 a) (qQj (kZ 3 (kZ (kZ 98 (kZ 105 (kZ 99 0))) 0)) = qQj (onmZ a) ∧ True) (Pb (Pe 9 a) (qQj (kZ 3 (kZ (kZ 115 (kZ 104 (kZ 108 0))) 0)) = qQj (onmZ a) ∧ True) (Pb
 (Pe 10 a) (qQj (kZ 3 (kZ (kZ 115 (kZ 104 (kZ 114 0))) 0)) = qQj (onmZ a) ∧ True) (Pb (Pe 11 a) (qQj (kZ 3 (kZ (kZ 115 (kZ 97 (kZ 114 0))) 0)) = qQj (onmZ a) ∧ True) (Pb (Pe 12 a) (qQj (kZ 3 (kZ (kZ 114 (kZ 111 (kZ 108 0))) 0)) = qQj (onmZ a) ∧ True) (Pb (Pe 13 a) (qQj (kZ 3 (kZ (kZ 115 (kZ 108 (kZ 116 0))) 0)) = qQj (onmZ a) ∧ True) (Pb (Pe 14 a) (qQj (kZ 4 (kZ (kZ 115 (kZ 108 (kZ 116 (kZ 117 0)))) 0)) = qQj (onmZ a) ∧ True) (Pb (Pe 15 a) (qQj (kZ 3 (kZ (kZ 115 (kZ 101 (kZ 113 0))) 0)) = qQj (onmZ a) ∧ True) (Pb (Pe 16 a) (qQj (kZ 3 (kZ (kZ 109 (kZ 105 (kZ 110 0))) 0)) = qQj (onmZ a) ∧ True) (Pb (Pe 17 a) (qQj (kZ 3 (kZ (kZ 109 (kZ 97 (kZ 120 0))) 0)) = qQj (onmZ a) ∧ True) (Pb (Pe 18 a) (qQj (kZ 3 (kZ (kZ 109 (kZ 117 (kZ 108 0))) 0)) = qQj (onmZ a) ∧
 True) (Pb (Pe 19 a) (qQj (kZ 4 (kZ (kZ 109 (kZ 117 (kZ 108 (kZ 104 0)))) 0)) = qQj (onmZ a) ∧ True) (Pb (Pe 20 a) (qQj (kZ 4 (kZ (kZ 109 (kZ 117 (kZ 108 (kZ 113 0)))) 0)) = qQj (onmZ a) ∧ True) (Pb (Pe 21 a) (qQj (kZ 4 (kZ (kZ 109 (kZ 117 (kZ 108 (kZ 114 0)))) 0)) = qQj (onmZ a) ∧ True) (Pb (Pe 22 a) (qQj (kZ 3 (kZ (kZ 100 (kZ 105 (kZ 118 0))) 0)) = qQj (onmZ a) ∧ True) (Pb (Pe 23 a) (qQj (kZ 3 (kZ (kZ 114 (kZ 101 (kZ 109 0))) 0)) = qQj (onmZ a) ∧ True) (Pb (Pe 24 a) (qQj (kZ 3 (kZ (kZ 99 (kZ 108 (kZ 122 0))) 0)) = qQj (onmZ a) ∧ True) (Pb (Pe 25 a) (qQj (kZ 3 (kZ (kZ 110 (kZ 101 (kZ 103 0))) 0)) = qQj (onmZ a) ∧ True) (Pb (Pe 26 a) (qQj (kZ 3 (kZ (kZ 97 (kZ 98 (kZ 115 0))) 0)) = qQj (onmZ a) ∧ True) (Pb (Pe 27 a) (qQj (kZ 4 (kZ (kZ 109 (kZ 97 (kZ 115
 (kZ 107 0)))) 0)) = qQj (onmZ a) ∧ True) (Pb (Pe 28 a) (qQj (kZ 4 (kZ (kZ 115 (kZ 105 (kZ 103 (kZ 110 0)))) 0)) = qQj (onmZ a) ∧ True) (Pb (Pe 29 a) (qQj (kZ 4 (kZ (kZ 104 (kZ 97 (kZ 108 (kZ 102 0)))) 0)) = qQj (onmZ a) ∧ True) (Pb (Pe 30 a) (qQj (kZ 4 (kZ (kZ 104 (kZ 105 (kZ 103 (kZ 104 0)))) 0)) = qQj (onmZ a) ∧ True) (Pb (Pe 31 a) (qQj (kZ 4 (kZ (kZ 97 (kZ 100 (kZ 100 (kZ 105 0)))) 0)) = qQj (onmZ a) ∧ True) (Pb (Pe 32 a) (qQj (kZ 3 (kZ (kZ 111 (kZ 114 (kZ 105 0))) 0)) = qQj (onmZ a) ∧ True) (Pb (Pe 33 a) (qQj (kZ 3 (kZ (kZ 108 (kZ 117 (kZ 105 0))) 0)) = qQj (onmZ a) ∧ True) (Pb (Pe 34 a) (qQj (kZ 2 (kZ (kZ 108 (kZ 119 0)) 0)) = qQj (onmZ a) ∧ True) (Pb (Pe 35 a) (qQj (kZ 2 (kZ (kZ 115 (kZ 119 0)) 0)) = qQj (onmZ a) ∧ True) (Pb (Pe 36 a) (qQj (kZ 3
 (kZ (kZ 98 (kZ 101 (kZ 113 0))) 0)) = qQj (onmZ a) ∧ True) (Pb (Pe 37 a) (qQj (kZ 3 (kZ (kZ 98 (kZ 110 (kZ 101 0))) 0)) = qQj (onmZ a) ∧ True) (Pb (Pe 38 a) (qQj (kZ 3 (kZ (kZ 98 (kZ 108 (kZ 116 0))) 0)) = qQj (onmZ a) ∧ True) (Pb (Pe 39 a) (qQj (kZ 4 (kZ (kZ 106 (kZ 117 (kZ 109 (kZ 112 0)))) 0)) = qQj (onmZ a) ∧ True) (Pb (Pe 40 a) (qQj (kZ 3 (kZ (kZ 106 (kZ 97 (kZ 108 0))) 0)) = qQj (onmZ a) ∧ True) (Pb (Pe 41 a) (qQj (kZ 2 (kZ (kZ 106 (kZ 114 0)) 0)) = qQj (onmZ a) ∧ True) (Pb (Pe 42 a) (qQj (kZ 3 (kZ (kZ 110 (kZ 111 (kZ 112 0))) 0)) = qQj (onmZ a) ∧ True) (Pb (Pe 43 a) (qQj (kZ 4 (kZ (kZ 104 (kZ 97 (kZ 108 (kZ 116 0)))) 0)) = qQj (onmZ a) ∧ True) (qQj (kZ 0 (kZ 0 0)) = qQj (onmZ a) ∧ True))))))))))))))))))))))))))))))))))))))))))))
set_option maxHeartbeats 4000000 in
theorem holds (p0 : Int) (l_p0 : -9223372036854775808 ≤ p0) (u_p0 : p0 ≤ 9223372036854775807) : P p0 := by
 delta P Pb Pe kZ
 simp only [nrm, Int.reduceEq, Int.reduceNeg, reduceIte]
 repeat' (refine And.intro (fun h => ?_) (fun _ => ?_))
 all_goals first
  | (subst h; exact onm_lit _ _ _ (by decide) rfl rfl)
  | exact onm_none (by omega)
theorem plain (i v ro p) : statR 2 rc tree ⟨i, fN, v, ro, p⟩ = P (i 0) := by kernel_rfl
theorem ran : ranR us (fun f _ => if [15, 50].contains f then .unroll 400 else .auto) rc 2 tree = true := by kernel_rfl
theorem fineT : fineR 2 rc tree = true := by kernel_rfl
theorem ok : RcOk (cxOf 2) rc := okR us_ok ran fineT okb fun i v ro p hρ hcap hpre => by rw [plain]; have q := hρ.hi; exact holds _ (q 0 _ rfl).1 (q 0 _ rfl).2
end COName
namespace CLText
def rc : Rc := ⟨5, [some 5], [.int .i64, .int .i64, .int .i64, .int .i64, .int .i64], [], .tup [none, none], [.str (.f 142 (.v 0) (.v 1) (qZi [(.v 2), (.v 3), (.v 4)])), .int .i64 (.f 141 (.v 0) (.v 1) (qZi [(.v 2), (.v 3), (.v 4)]))]⟩
theorem okb : rc.ok = true := by kernel_rfl
noncomputable def us : SMs := fun Γ ins n => smH (cxG n Γ ins) [] (smAnd 18 (libItoa Γ ins n) (smAnd 37 (libJoin Γ ins n) (smR (cxG n Γ ins) [CCChk.rc, COName.rc])))
theorem us_ok : SMsOk us := fun Γ ins n => qZb (tabsG n Γ ins) (qQs _) (smAnd_ok (libItoa_ok Γ ins n) (smAnd_ok (libJoin_ok Γ ins n) (qZw (tabsG n Γ ins) (qQw CCChk.okb (rc_n CCChk.ok) (qQw COName.okb (rc_n COName.ok) (qQt _))))))
def Q0 : E := (tC (.c 114) (.c 0))
def Q1 : E := (tC Q0 (.c 0))
def Q2 : E := (tC (.c 1) Q1)
def Q3 : E := (.f 21 Q2 (.c 0) (.c 0))
def Q4 : E := (.f 129 (.v 1) (.c 0) (.c 0))
def Q5 : E := (.f 21 Q4 (.c 0) (.c 0))
def Q6 : E := (tp Q3 Q5)
def Q7 : E := (tl Q6 (.c 1000000))
def Q8 : E := (.f 129 (.v 2) (.c 0) (.c 0))
def Q9 : E := (.f 21 Q8 (.c 0) (.c 0))
def Q10 : E := (tp Q3 Q9)
def Q11 : E := (tl Q10 (.c 1000000))
def Q12 : E := (.f 129 (.v 3) (.c 0) (.c 0))
def Q13 : E := (.f 140 (.v 0) (.c 0) (.c 0))
def Q14 : E := (.f 23 Q2 Q4 (.c 0))
def Q15 : E := (.f 23 Q2 Q8 (.c 0))
def Q16 : E := (.f 23 Q2 Q12 (.c 0))
def Q17 : E := (tC Q16 (.c 0))
def Q18 : E := (tC Q15 Q17)
def Q19 : E := (tC Q14 Q18)
def Q20 : E := (tC Q13 Q19)
def Q21 : E := (tC (.c 32) (.c 0))
def Q22 : E := (tC Q21 (.c 0))
def Q23 : E := (tC (.c 1) Q22)
def Q24 : E := (tC Q15 (.c 0))
def Q25 : E := (tC Q14 Q24)
def Q26 : E := (tC Q13 Q25)
def Q27 : E := (.f 129 (.v 4) (.c 0) (.c 0))
def Q28 : E := (tC Q27 (.c 0))
def Q29 : E := (tC Q15 Q28)
def Q30 : E := (tC Q14 Q29)
def Q31 : E := (tC Q13 Q30)
def Q32 : E := (.f 134 Q31 (.c 4) Q23)
def Q33 : E := (tl Q32 (.c 1000000))
def Q34 : E := (.f 135 Q31 (.c 4) Q23)
def Q35 : E := (tC Q14 Q28)
def Q36 : E := (tC Q13 Q35)
def Q37 : E := (.f 134 Q36 (.c 3) Q23)
def Q38 : E := (tl Q37 (.c 1000000))
def Q39 : E := (.f 135 Q36 (.c 3) Q23)
def Q40 : E := (tC Q13 Q28)
def Q41 : E := (tC Q13 Q24)
def Q42 : E := (tC Q13 (.c 0))
def tree : TT (List E) :=
 (.new 1000 (.f 141 (.v 0) (.v 1) (tC (.v 2) (tC (.v 3) (tC (.v 4) (.c 0))))) (.br (tn (.cl 1000 0 6) (.c 0)) (.leaf [(tC (.c 0) (tC (.c 0) (.c 0))), (.cl 1000 0 6)]) (.br (tl (.c 1) (.v 0)) (.br (.nt (tl (.v 0) (.c 43))) (.bad 283) (.br (tl (.v 0) (.c 23)) (.br Q7 (.br Q11 (.br (tl (tp Q3 (.f 21 Q12 (.c 0) (.c 0))) (.c 1000000)) (.br (tl (.f 134 Q20 (.c 4) Q23) (.c 1000000)) (.leaf [(.f 135 Q20 (.c 4) Q23), (.c 0)]) (.bad 200)) (.bad 200)) (.bad 200)) (.bad 200)) (.br (tl (.v 0) (.c 30)) (.br Q7 (.br Q11 (.br (tl (.f 134 Q26 (.c 3) Q23) (.c 1000000)) (.leaf [(.f 135 Q26 (.c 3) Q23), (.c 0)]) (.bad 200)) (.bad 200)) (.bad 200)) (.br (te (.v 0) (.c 31)) (.br Q7 (.br Q11 (.br Q33 (.leaf [Q34, (.c 0)]) (.bad 200)) (.bad 200)) (.bad 200)) (.br (te (.v 0) (.c 33)) (.br Q7 (.br Q38 (.leaf [Q39,
 (.c 0)]) (.bad 200)) (.bad 200)) (.br (te (.v 0) (.c 40)) (.br Q7 (.br Q38 (.leaf [Q39, (.c 0)]) (.bad 200)) (.bad 200)) (.br (tk (.v 0) (.c 39)) (.br Q7 (.br Q11 (.br Q33 (.leaf [Q34, (.c 0)]) (.bad 200)) (.bad 200)) (.bad 200)) (.br (te (.v 0) (.c 39)) (.br (tl (.f 134 Q40 (.c 2) Q23) (.c 1000000)) (.leaf [(.f 135 Q40 (.c 2) Q23), (.c 0)]) (.bad 200)) (.br (te (.v 0) (.c 41)) (.br Q11 (.br (tl (.f 134 Q41 (.c 2) Q23) (.c 1000000)) (.leaf [(.f 135 Q41 (.c 2) Q23), (.c 0)]) (.bad 200)) (.bad 200)) (.br (tl (.f 134 Q42 (.c 1) Q23) (.c 1000000)) (.leaf [(.f 135 Q42 (.c 1) Q23), (.c 0)]) (.bad 200))))))))))) (.bad 283))))
noncomputable def sq0 (b : Int) : Int := (catZ (kZ 1 (kZ (kZ 114 0) 0)) (itoZ b))
noncomputable def sq1 (c : Int) : Int := (catZ (kZ 1 (kZ (kZ 114 0) 0)) (itoZ c))
noncomputable def sq2 (b : Int) : Int := (PL ((qQz (kZ 1 (kZ (kZ 114 0) 0))) + (qQz (itoZ b))) 1000000)
noncomputable def sq3 (c : Int) : Int := (PL ((qQz (kZ 1 (kZ (kZ 114 0) 0))) + (qQz (itoZ c))) 1000000)
def sL0 (a b c d e z0 z2 : Int) : Prop := qQj z0 = qQj (texZ a b (kZ c (kZ d (kZ e 0)))) ∧ (z2 : Int) = (cckZ a b (kZ c (kZ d (kZ e 0)))) ∧ True
def sq4 (b c a e d : Int) : Prop := (Pm (sq2 b) (Pm (sq3 c) (Pm (PL (joiN (kZ (onmZ a) (kZ (sq0 b) (kZ (sq1 c) (kZ (itoZ e) 0)))) 4 (kZ 1 (kZ (kZ 32 0) 0))) 1000000) (sL0 a b c d e (joiZ (kZ (onmZ a) (kZ (sq0 b) (kZ (sq1 c) (kZ (itoZ e) 0)))) 4 (kZ 1 (kZ (kZ 32 0) 0))) 0))))
def sq5 (b a e c d : Int) : Prop := (Pm (sq2 b) (Pm (PL (joiN (kZ (onmZ a) (kZ (sq0 b) (kZ (itoZ e) 0))) 3 (kZ 1 (kZ (kZ 32 0) 0))) 1000000) (sL0 a b c d e (joiZ (kZ (onmZ a) (kZ (sq0 b) (kZ (itoZ e) 0))) 3 (kZ 1 (kZ (kZ 32 0) 0))) 0)))
def P (a b c d e : Int) : Prop :=
 Pn (cckZ a b (kZ c (kZ d (kZ e 0)))) 0 6 fun y0 => (Pb (Pd y0 0) (sL0 a b c d e (kZ 0 (kZ 0 0)) y0) (Pm (PL 1 a) (Pb (Pe (PL a 43) 0) False (Pb (PL a 23) (Pm (sq2 b) (Pm (sq3 c) (Pm (PL ((qQz (kZ 1 (kZ (kZ 114 0) 0))) + (qQz (itoZ d))) 1000000) (Pm (PL (joiN (kZ (onmZ a) (kZ (sq0 b) (kZ (sq1 c) (kZ (catZ (kZ 1 (kZ (kZ 114 0) 0)) (itoZ d)) 0)))) 4 (kZ 1 (kZ (kZ 32 0) 0))) 1000000) (sL0 a b c d e (joiZ (kZ (onmZ a) (kZ (sq0 b) (kZ (sq1 c) (kZ (catZ (kZ 1 (kZ (kZ 114 0) 0)) (itoZ d)) 0)))) 4 (kZ 1 (kZ (kZ 32 0) 0))) 0))))) (Pb (PL a 30) (Pm (sq2 b) (Pm (sq3 c) (Pm (PL (joiN (kZ (onmZ a) (kZ (sq0 b) (kZ (sq1 c) 0))) 3 (kZ 1 (kZ (kZ 32 0) 0))) 1000000) (sL0 a b c d e (joiZ (kZ (onmZ a) (kZ (sq0 b) (kZ (sq1 c) 0))) 3 (kZ 1 (kZ (kZ 32 0) 0))) 0)))) (Pb (Pe a 31) (sq4 b c a e d) (Pb (Pe a
 33) (sq5 b a e c d) (Pb (Pe a 40) (sq5 b a e c d) (Pb (Pl a 39) (sq4 b c a e d) (Pb (Pe a 39) (Pm (PL (joiN (kZ (onmZ a) (kZ (itoZ e) 0)) 2 (kZ 1 (kZ (kZ 32 0) 0))) 1000000) (sL0 a b c d e (joiZ (kZ (onmZ a) (kZ (itoZ e) 0)) 2 (kZ 1 (kZ (kZ 32 0) 0))) 0)) (Pb (Pe a 41) (Pm (sq3 c) (Pm (PL (joiN (kZ (onmZ a) (kZ (sq1 c) 0)) 2 (kZ 1 (kZ (kZ 32 0) 0))) 1000000) (sL0 a b c d e (joiZ (kZ (onmZ a) (kZ (sq1 c) 0)) 2 (kZ 1 (kZ (kZ 32 0) 0))) 0))) (Pm (PL (joiN (kZ (onmZ a) 0) 1 (kZ 1 (kZ (kZ 32 0) 0))) 1000000) (sL0 a b c d e (joiZ (kZ (onmZ a) 0) 1 (kZ 1 (kZ (kZ 32 0) 0))) 0)))))))))))))
set_option maxHeartbeats 2000000 in
theorem holds (p0_0 p0_1 p0_2 p0_3 p0_4 : Int) (l_p0_0 : -9223372036854775808 ≤ p0_0) (u_p0_0 : p0_0 ≤ 9223372036854775807) (l_p0_1 : -9223372036854775808 ≤ p0_1) (u_p0_1 : p0_1 ≤ 9223372036854775807) (l_p0_2 : -9223372036854775808 ≤ p0_2) (u_p0_2 : p0_2 ≤ 9223372036854775807) (l_p0_3 : -9223372036854775808 ≤ p0_3) (u_p0_3 : p0_3 ≤ 9223372036854775807) (l_p0_4 : -9223372036854775808 ≤ p0_4) (u_p0_4 : p0_4 ≤ 9223372036854775807) : P p0_0 p0_1 p0_2 p0_3 p0_4 := by
 delta P sq0 sq1 sq2 sq3 sq4 sq5 sL0 Pb Pm Pn PL Pl Pe Pd kZ
 have hd : i64B p0_1 := ⟨by omega, by omega⟩
 have ha : i64B p0_2 := ⟨by omega, by omega⟩
 have hb : i64B p0_3 := ⟨by omega, by omega⟩
 have hn : i64B p0_4 := ⟨by omega, by omega⟩
 have s1 := qQo hd.1 hd.2
 have s2 := qQo ha.1 ha.2
 have s3 := qQo hb.1 hb.2
 have s4 := qQo hn.1 hn.2
 have hB := texI_byt (op := p0_0) hd ha hb hn
 simp only [nrm, Int.reduceEq, Int.reduceNeg, reduceIte, qYc, texZ_I, qZm]
 intro y hy hyb
 refine And.intro (fun h => ?_) (fun h => ?_)
 ·refine ⟨?_, hy⟩
  rw [qZd, hB, if_neg (by omega), bytL_e]
 ·have hc : cckI p0_0 p0_1 p0_2 p0_3 p0_4 = 0 := by omega
  have hv : 1 ≤ p0_0 ∧ p0_0 ≤ 43 := by
   by_cases hv : p0_0 < 1 ∨ 43 < p0_0
   ·rw [cck_n hv] at hc; omega
   ·omega
  repeat' (constructor <;> intro _)
  all_goals first
   | (exfalso; omega)
   | (have hr : 1 ≤ p0_0 ∧ p0_0 ≤ 23 := by omega
      have ht := txt_0 hd ha hb hn hc hr
      first | exact ⟨ht.2, hc.symm⟩ | (exfalso; omega))
   | (have hr : 24 ≤ p0_0 ∧ p0_0 ≤ 30 := by omega
      have ht := txt_1 hd ha hb hn hc hr
      first | exact ⟨ht.2, hc.symm⟩ | (exfalso; omega))
   | (have hr : p0_0 = 31 := by omega
      have ht := txt_2 hd ha hb hn hc hr
      first | exact ⟨ht.2, hc.symm⟩ | (exfalso; omega))
   | (have hr : p0_0 = 32 ∨ (34 ≤ p0_0 ∧ p0_0 ≤ 38) := by omega
      have ht := txt_3 hd ha hb hn hc hr
      first | exact ⟨ht.2, hc.symm⟩ | (exfalso; omega))
   | (have hr : p0_0 = 33 ∨ p0_0 = 40 := by omega
      have ht := txt_4 hd ha hb hn hc hr
      first | exact ⟨ht.2, hc.symm⟩ | (exfalso; omega))
   | (have hr : p0_0 = 39 := by omega
      have ht := txt_5 hd ha hb hn hc hr
      first | exact ⟨ht.2, hc.symm⟩ | (exfalso; omega))
   | (have hr : p0_0 = 41 := by omega
      have ht := txt_6 hd ha hb hn hc hr
      first | exact ⟨ht.2, hc.symm⟩ | (exfalso; omega))
   | (have hr : p0_0 = 42 ∨ p0_0 = 43 := by omega
      have ht := txt_7 hd ha hb hn hc hr
      first | exact ⟨ht.2, hc.symm⟩ | (exfalso; omega))
theorem plain (i v ro p) : statR 2 rc tree ⟨i, fN, v, ro, p⟩ = P (i 0) (i 1) (i 2) (i 3) (i 4) := by kernel_rfl
theorem ran : ranR us (fun f _ => if [5].contains f then .unroll 400 else .auto) rc 2 tree = true := by kernel_rfl
theorem fineT : fineR 2 rc tree = true := by kernel_rfl
theorem ok : RcOk (cxOf 2) rc := okR us_ok ran fineT okb fun i v ro p hρ hcap hpre => by rw [plain]; have q := hρ.hi; exact holds _ _ _ _ _ (q 0 _ rfl).1 (q 0 _ rfl).2 (q 1 _ rfl).1 (q 1 _ rfl).2 (q 2 _ rfl).1 (q 2 _ rfl).2 (q 3 _ rfl).1 (q 3 _ rfl).2 (q 4 _ rfl).1 (q 4 _ rfl).2
end CLText
namespace CLWords
def rc : Rc := ⟨12, [none], [.str], [(.b .le .i64 (.f 21 (.v 0) (.c 0) (.c 0)) (.c 100000))], .one, [.row [.str] 9 (.f 137 (.v 0) (.c 0) (.c 0)) (.f 136 (.v 0) (.c 0) (.c 0))]⟩
theorem okb : rc.ok = true := by kernel_rfl
noncomputable def us : SMs := fun Γ ins n => smH (cxG n Γ ins) [] (smAnd 31 (libSplit Γ ins n) (smR (cxG n Γ ins) []))
theorem us_ok : SMsOk us := fun Γ ins n => qZb (tabsG n Γ ins) (qQs _) (smAnd_ok (libSplit_ok Γ ins n) (qZw (tabsG n Γ ins) (qQt _)))
def Q0 : E := (.cl 1002 0 4611686018427387904)
def Q1 : E := (.f 133 (.v 0) (.c 32) (.c 0))
def Q2 : E := (tR Q1 Q0)
def Q3 : E := (.cl 1001 0 1000000)
def Q4 : E := (tp Q3 (.c 1))
def Q5 : E := (tl Q4 (.c 1000000))
def Q6 : E := (tp Q0 (.c 1))
def Q7 : E := (tl Q6 (.c 4611686018427387904))
def tree : TT (List E) :=
 (.br (tl (.f 21 (.v 0) (.c 0) (.c 0)) (.c 1000000)) (.loop ⟨1000, [none, some (0, 1000000), some (0, 4611686018427387904)], [(.c 0), (.c 0), (.c 0)], 1004⟩ (.br (tk Q0 (.f 132 (.v 0) (.c 32) (.c 0))) (.br (.nt (.f 20 Q2 (tC (.c 0) (tC (.c 0) (.c 0))) (.c 0))) (.br Q5 (.br Q5 (.br Q7 (.back [(.f 14 (.v 1000) Q3 Q2), Q4, Q6]) (.bad 303)) (.bad 303)) (.bad 200)) (.br Q7 (.back [(.v 1000), Q3, Q6]) (.bad 303))) (.exit 0)) (.leaf [Q3, (.v 1000)])) (.bad 200))
def P (a : Int) : Prop :=
 (Pm (PL (qQz a) 1000000) (∃ I1000 : Int → Int → Int → Nat → Prop, (∃ m, I1000 0 0 0 m) ∧ ∀ y0 y1 y2 : Int, ∀ m0, (True ∧ (0 ≤ y1 ∧ y1 ≤ 1000000) ∧ (0 ≤ y2 ∧ y2 ≤ 4611686018427387904) ∧ True) → I1000 y0 y1 y2 m0 → (Pb (Pl y2 (splN a 32)) (Pb (Pe (seqZ (rdZ (splC a 32) y2) (kZ 0 (kZ 0 0))) 0) (Pm (PL (y1 + 1) 1000000) (Pm (PL (y1 + 1) 1000000) (Pm (PL (y2 + 1) 4611686018427387904) (∃ m', m' < m0 ∧ I1000 (updZ y0 y1 (rdZ (splC a 32) y2)) (y1 + 1) (y2 + 1) m')))) (Pm (PL (y2 + 1) 4611686018427387904) (∃ m', m' < m0 ∧ I1000 y0 y1 (y2 + 1) m'))) ((y1 : Int) = (wrdN a) ∧ rowEq [.str] y0 (wrdC a) y1 ∧ True))))
theorem holds (s0 : Int) (h_pre0 : qQx (decide ((qQz s0)  ≤  100000)) ≠ 0) : P s0 := by
 delta P Pb Pm PL Pl Pe kZ
 have hL := splP_len s0
 have hT := splP_tx s0
 have hN := splN_le s0
 have hW := splP_words s0
 simp only [nrm, Int.reduceEq, Int.reduceNeg, reduceIte] at h_pre0 ⊢
 have hs := (qZo s0).1
 refine ⟨fun _ => ⟨fun q n k m => 0 ≤ k ∧ k ≤ splN s0 32 ∧ n = (wdsK (splP s0) k.toNat).length ∧ Tx q (wdsK (splP s0) k.toNat) ∧ m = (splN s0 32 - k).toNat, ⟨_, by omega, by omega, by simp [wdsK], by simpa [wdsK] using Tx.nil 0, rfl⟩, ?_⟩, fun h => by omega⟩
 rintro q n k m hb ⟨h0, h1, h2, h3, rfl⟩
 have hle := wdsK_le (splP s0) k.toNat
 refine ⟨fun hk => ?_, fun hk => ?_⟩
 ·have hlt : k.toNat < (splP s0).length := by omega
  have hp : bytL (rdZ (splC s0 32) k) = (splP s0)[k.toNat] := by
   have := hT k.toNat hlt
   rwa [show ((k.toNat : Nat) : Int) = k by omega] at this
  have hs1 := wdsK_succ hlt
  have ek : (k + 1).toNat = k.toNat + 1 := by omega
  have hz : seqZ (rdZ (splC s0 32) k) (qQq 0 (qQq 0 0)) ≠ 0 ↔ (splP s0)[k.toNat] = [] := by rw [qYv, hp, bytL_e]
  refine ⟨fun hne => ?_, fun he => ?_⟩
  ·have hn : (splP s0)[k.toNat] ≠ [] := fun e => (hz.2 e) hne
   rw [if_neg hn] at hs1
   refine ⟨fun _ => ⟨fun _ => ⟨fun _ => ⟨_, ?_, by omega, by omega, ?_, ?_, rfl⟩, fun h => ?_⟩, fun h => ?_⟩, fun h => ?_⟩
   ·omega
   ·rw [ek, hs1, List.length_append]; simp; omega
   ·rw [ek, hs1]; exact Tx.snoc h3 h2 hp
   all_goals omega
  ·have hn : (splP s0)[k.toNat] = [] := hz.1 he
   rw [if_pos hn] at hs1
   refine ⟨fun _ => ⟨_, ?_, by omega, by omega, ?_, ?_, rfl⟩, fun h => ?_⟩
   ·omega
   ·rw [ek, hs1]; exact h2
   ·rw [ek, hs1]; exact h3
   ·omega
 ·have ek : k.toNat = (splP s0).length := by omega
  have e : wdsK (splP s0) k.toNat = wrdL s0 := by
   unfold wdsK
   rw [ek, List.take_length, hW]
  rw [e] at h2 h3
  exact ⟨h2, Tx.eq h3 (qKa s0) (by omega)⟩
theorem plain (i v ro p) : statR 2 rc tree ⟨i, fN, v, ro, p⟩ = P (i 0) := by kernel_rfl
theorem ran : ranR us (fun _ _ => .auto) rc 2 tree = true := by kernel_rfl
theorem fineT : fineR 2 rc tree = true := by kernel_rfl
theorem ok : RcOk (cxOf 2) rc := okR us_ok ran fineT okb fun i v ro p hρ hcap hpre => by rw [plain]; have q := hρ.hi; exact holds _ (hpre _ (mg 0 rfl))
end CLWords
namespace CLNumber
def rc : Rc := ⟨9, [none], [.str], [], .tup [none, none], [.int .i64 (.f 139 (.v 0) (.c 0) (.c 0)), .bool (.f 138 (.v 0) (.c 0) (.c 0))]⟩
theorem okb : rc.ok = true := by kernel_rfl
noncomputable def us : SMs := fun Γ ins n => smH (cxG n Γ ins) [] (smAnd 30 (libAtoi Γ ins n) (smAnd 18 (libItoa Γ ins n) (smR (cxG n Γ ins) [])))
theorem us_ok : SMsOk us := fun Γ ins n => qZb (tabsG n Γ ins) (qQs _) (smAnd_ok (libAtoi_ok Γ ins n) (smAnd_ok (libItoa_ok Γ ins n) (qZw (tabsG n Γ ins) (qQt _))))
def Q0 : E := (.f 21 (.v 0) (.c 0) (.c 0))
def Q1 : E := (tl Q0 (.c 18))
def Q2 : E := (.f 130 (.v 0) (.c 0) (.c 0))
def Q3 : E := (.f 131 (.v 0) (.c 0) (.c 0))
def Q4 : E := (.f 129 Q3 (.c 0) (.c 0))
def Q5 : E := (.f 20 Q4 (.v 0) (.c 0))
def Q6 : E := (.nt Q5)
def Q7 : E := (tk (.c 9) Q0)
def tree : TT (List E) :=
 (.br (tl (.c 1) Q0) (.br (.f 20 (tC (.c 1) (tC (.f 18 (tR (.v 0) (.c 1)) (.c 0) (.c 0)) (.c 0))) (tC (.c 1) (tC (tC (.c 45) (.c 0)) (.c 0))) (.c 0)) (.br (tk (.c 9) (.f 21 (tC (.b .psub .i64 Q0 (.c 1)) (tC (.f 18 (tR (.v 0) (.c 1)) (.c 1) (.c 0)) (.c 0))) (.c 0) (.c 0))) (.leaf [(.c 0), (.c 0)]) (.br Q1 (.br Q2 (.br Q6 (.leaf [(.c 0), (.c 0)]) (.leaf [Q3, (.c 1)])) (.leaf [(.c 0), (.c 0)])) (.bad 200))) (.br Q7 (.leaf [(.c 0), (.c 0)]) (.br Q1 (.br Q2 (.br Q6 (.leaf [(.c 0), (.c 0)]) (.leaf [Q3, (.c 1)])) (.leaf [(.c 0), (.c 0)])) (.bad 200)))) (.br Q7 (.leaf [(.c 0), (.c 0)]) (.br Q1 (.br Q2 (.br Q6 (.leaf [(.c 0), (.c 0)]) (.leaf [Q3, (.c 1)])) (.leaf [(.c 0), (.c 0)])) (.bad 200))))
def sq0 (a : Int) : Prop := (Pm (PL (qQz a) 18) (Pb (atoK a) (Pb (Pe (seqZ (itoZ (atoZ a)) a) 0) ((0 : Int) = (numZ a) ∧ ((0 : Int) ≠ 0 ↔ ((numK a) : Int) ≠ 0) ∧ True) (((atoZ a) : Int) = (numZ a) ∧ ((1 : Int) ≠ 0 ↔ ((numK a) : Int) ≠ 0) ∧ True)) ((0 : Int) = (numZ a) ∧ ((0 : Int) ≠ 0 ↔ ((numK a) : Int) ≠ 0) ∧ True)))
def P (a : Int) : Prop :=
 (Pb (PL 1 (qQz a)) (Pb (seqZ (kZ 1 (kZ (qQv (rdZ a 1) 0) 0)) (kZ 1 (kZ (kZ 45 0) 0))) (Pb (Pl 9 (qQz (kZ ((qQz a) - 1) (kZ (qQv (rdZ a 1) 1) 0)))) ((0 : Int) = (numZ a) ∧ ((0 : Int) ≠ 0 ↔ ((numK a) : Int) ≠ 0) ∧ True) (sq0 a)) (Pb (Pl 9 (qQz a)) ((0 : Int) = (numZ a) ∧ ((0 : Int) ≠ 0 ↔ ((numK a) : Int) ≠ 0) ∧ True) (sq0 a))) (Pb (Pl 9 (qQz a)) ((0 : Int) = (numZ a) ∧ ((0 : Int) ≠ 0 ↔ ((numK a) : Int) ≠ 0) ∧ True) (sq0 a)))
theorem holds (s0 : Int) : P s0 := by
 delta P sq0 Pb Pm PL Pl Pe kZ
 have hl := qZu s0
 have hb := qZo s0
 simp only [nrm, Int.reduceEq, Int.reduceNeg, reduceIte]
 refine ⟨fun h1 => ⟨fun hm => ?_, fun hm => ?_⟩, fun h1 => ?_⟩
 ·have h45 := (head_minus h1).1 hm
  have hbl := body_len h1
  rw [if_pos h45] at hbl
  have hlen : ((bodyL (bytL s0)).length : Int) = qQz s0 - 1 := by rw [hbl, List.length_drop]; omega
  rw [qKs [] (qQz s0 - 1) (by omega) (by omega)]
  exact ⟨fun h => qKv (num_long (by omega)), fun h => ⟨fun h18 => num_leaf (by omega) h18, fun h => by omega⟩⟩
 ·have h45 : ¬ qQy s0 0 = 45 := fun e => ((head_minus h1).2 e) hm
  have hbl := body_len h1
  rw [if_neg h45] at hbl
  have hlen : ((bodyL (bytL s0)).length : Int) = qQz s0 := by rw [hbl]; omega
  exact ⟨fun h => qKv (num_long (by omega)), fun h => ⟨fun h18 => num_leaf (by omega) h18, fun h => by omega⟩⟩
 ·have hlen : (bodyL (bytL s0)).length = 0 := by rw [body_nil h1]; rfl
  exact ⟨fun h => by omega, fun h => ⟨fun h18 => num_leaf (by omega) h18, fun h => by omega⟩⟩
theorem plain (i v ro p) : statR 2 rc tree ⟨i, fN, v, ro, p⟩ = P (i 0) := by kernel_rfl
theorem ran : ranR us (fun _ _ => .auto) rc 2 tree = true := by kernel_rfl
theorem fineT : fineR 2 rc tree = true := by kernel_rfl
theorem ok : RcOk (cxOf 2) rc := okR us_ok ran fineT okb fun i v ro p hρ hcap hpre => by rw [plain]; have q := hρ.hi; exact holds _
end CLNumber
end Go.Proofs.YtppiabilakeadaaGreatDoor
