/-
  What functions of the program answer, as numbers of what they are handed: their runs by the engine, the plain statements behind them. No condition.
-/
import Derived.Test.YtdnkgacjibjlhaaGreatDoorGab
import Derived.Test.YtdnkgacjibjlhaaGreatDoorGp4
import Derived.Test.YtdnkgacjibjlhaaGreatDoorGp2
set_option linter.unusedVariables false
set_option linter.unusedSimpArgs false
set_option maxRecDepth 100000
namespace Go.Proofs.YtdnkgacjibjlhaaGreatDoor
open Go.Eng Go.RowKit
namespace CCChk
def rc : Rc := ⟨40, [some 5], [.int .i64, .int .i64, .int .i64, .int .i64, .int .i64], [], .one, [.int .i64 (.f 141 (.v 0) (.v 1) (qQm [(.v 2), (.v 3), (.v 4)]))]⟩
theorem okb : rc.ok = true := by kernel_rfl
noncomputable def us : SMs := fun Γ ins n => smH (cxG n Γ ins) [] (smR (cxG n Γ ins) [])
theorem us_ok : SMsOk us := fun Γ ins n => qZs (tabsG n Γ ins) (qZy _) (qZp (tabsG n Γ ins) (qZv _))
def Q0 : E := (tk (.v 1) (.c 0))
def Q1 : E := (tk (.c 31) (.v 1))
def Q2 : E := (tk (.v 2) (.c 0))
def Q3 : E := (tk (.c 31) (.v 2))
def Q4 : E := (tk (.v 3) (.c 0))
def Q5 : E := (tk (.v 4) (.c 0))
def Q6 : E := (tk (.c 0) (.v 4))
def Q7 : E := (tk (.c 0) (.v 3))
def Q8 : E := (tk (.c 0) (.v 2))
def Q9 : E := (tk (.c 65535) (.v 4))
def Q10 : E := (tk (.c 0) (.v 1))
def tree : TT (List E) :=
 (.br (tl (.c 1) (.v 0)) (.br (.nt (tl (.v 0) (.c 43))) (.leaf [(.c 2)]) (.br (tl (.v 0) (.c 23)) (.br Q0 (.leaf [(.c 6)]) (.br Q1 (.leaf [(.c 6)]) (.br Q2 (.leaf [(.c 6)]) (.br Q3 (.leaf [(.c 6)]) (.br Q4 (.leaf [(.c 6)]) (.br (tk (.c 31) (.v 3)) (.leaf [(.c 6)]) (.br Q5 (.leaf [(.c 3)]) (.br Q6 (.leaf [(.c 3)]) (.leaf [(.c 0)]))))))))) (.br (tl (.v 0) (.c 30)) (.br Q0 (.leaf [(.c 6)]) (.br Q1 (.leaf [(.c 6)]) (.br Q2 (.leaf [(.c 6)]) (.br Q3 (.leaf [(.c 6)]) (.br Q4 (.leaf [(.c 3)]) (.br Q7 (.leaf [(.c 3)]) (.br Q5 (.leaf [(.c 3)]) (.br Q6 (.leaf [(.c 3)]) (.leaf [(.c 0)]))))))))) (.br (te (.v 0) (.c 31)) (.br Q0 (.leaf [(.c 6)]) (.br Q1 (.leaf [(.c 6)]) (.br Q2 (.leaf [(.c 6)]) (.br Q3 (.leaf [(.c 6)]) (.br Q4 (.leaf [(.c 3)]) (.br Q7 (.leaf [(.c 3)]) (.br (tk (.v 4) (.c (-32768)))
 (.leaf [(.c 6)]) (.br (tk (.c 32767) (.v 4)) (.leaf [(.c 6)]) (.leaf [(.c 0)]))))))))) (.br (te (.v 0) (.c 33)) (.br Q0 (.leaf [(.c 6)]) (.br Q1 (.leaf [(.c 6)]) (.br Q2 (.leaf [(.c 3)]) (.br Q8 (.leaf [(.c 3)]) (.br Q4 (.leaf [(.c 3)]) (.br Q7 (.leaf [(.c 3)]) (.br Q5 (.leaf [(.c 6)]) (.br Q9 (.leaf [(.c 6)]) (.leaf [(.c 0)]))))))))) (.br (te (.v 0) (.c 40)) (.br Q0 (.leaf [(.c 6)]) (.br Q1 (.leaf [(.c 6)]) (.br Q2 (.leaf [(.c 3)]) (.br Q8 (.leaf [(.c 3)]) (.br Q4 (.leaf [(.c 3)]) (.br Q7 (.leaf [(.c 3)]) (.br Q5 (.leaf [(.c 6)]) (.br Q9 (.leaf [(.c 6)]) (.leaf [(.c 0)]))))))))) (.br (tk (.v 0) (.c 39)) (.br Q0 (.leaf [(.c 6)]) (.br Q1 (.leaf [(.c 6)]) (.br Q2 (.leaf [(.c 6)]) (.br Q3 (.leaf [(.c 6)]) (.br Q4 (.leaf [(.c 3)]) (.br Q7 (.leaf [(.c 3)]) (.br Q5 (.leaf [(.c 6)]) (.br Q9
 (.leaf [(.c 6)]) (.leaf [(.c 0)]))))))))) (.br (te (.v 0) (.c 39)) (.br Q0 (.leaf [(.c 3)]) (.br Q10 (.leaf [(.c 3)]) (.br Q2 (.leaf [(.c 3)]) (.br Q8 (.leaf [(.c 3)]) (.br Q4 (.leaf [(.c 3)]) (.br Q7 (.leaf [(.c 3)]) (.br Q5 (.leaf [(.c 6)]) (.br Q9 (.leaf [(.c 6)]) (.leaf [(.c 0)]))))))))) (.br (te (.v 0) (.c 41)) (.br Q0 (.leaf [(.c 3)]) (.br Q10 (.leaf [(.c 3)]) (.br Q2 (.leaf [(.c 6)]) (.br Q3 (.leaf [(.c 6)]) (.br Q4 (.leaf [(.c 3)]) (.br Q7 (.leaf [(.c 3)]) (.br Q5 (.leaf [(.c 3)]) (.br Q6 (.leaf [(.c 3)]) (.leaf [(.c 0)]))))))))) (.br Q0 (.leaf [(.c 3)]) (.br Q10 (.leaf [(.c 3)]) (.br Q2 (.leaf [(.c 3)]) (.br Q8 (.leaf [(.c 3)]) (.br Q4 (.leaf [(.c 3)]) (.br Q7 (.leaf [(.c 3)]) (.br Q5 (.leaf [(.c 3)]) (.br Q6 (.leaf [(.c 3)]) (.leaf [(.c 0)])))))))))))))))))) (.leaf [(.c 2)]))
noncomputable def sq0 (a b c d e : Int) : Int := (cckZ a b (kZ c (kZ d (kZ e 0))))
def sq1 (d a b c e : Int) : Prop := (Pb (Pl d 0) ((3 : Int) = (sq0 a b c d e) ∧ True) (Pb (Pl 0 d) ((3 : Int) = (sq0 a b c d e) ∧ True) (Pb (Pl e 0) ((6 : Int) = (sq0 a b c d e) ∧ True) (Pb (Pl 65535 e) ((6 : Int) = (sq0 a b c d e) ∧ True) ((0 : Int) = (sq0 a b c d e) ∧ True)))))
def sq2 (d a b c e : Int) : Prop := (Pb (Pl d 0) ((3 : Int) = (sq0 a b c d e) ∧ True) (Pb (Pl 0 d) ((3 : Int) = (sq0 a b c d e) ∧ True) (Pb (Pl e 0) ((3 : Int) = (sq0 a b c d e) ∧ True) (Pb (Pl 0 e) ((3 : Int) = (sq0 a b c d e) ∧ True) ((0 : Int) = (sq0 a b c d e) ∧ True)))))
def sq3 (b a c d e : Int) : Prop := (Pb (Pl b 0) ((6 : Int) = (sq0 a b c d e) ∧ True) (Pb (Pl 31 b) ((6 : Int) = (sq0 a b c d e) ∧ True) (Pb (Pl c 0) ((3 : Int) = (sq0 a b c d e) ∧ True) (Pb (Pl 0 c) ((3 : Int) = (sq0 a b c d e) ∧ True) (sq1 d a b c e)))))
def P (a b c d e : Int) : Prop :=
 (Pb (PL 1 a) (Pb (Pe (PL a 43) 0) ((2 : Int) = (sq0 a b c d e) ∧ True) (Pb (PL a 23) (Pb (Pl b 0) ((6 : Int) = (sq0 a b c d e) ∧ True) (Pb (Pl 31 b) ((6 : Int) = (sq0 a b c d e) ∧ True) (Pb (Pl c 0) ((6 : Int) = (sq0 a b c d e) ∧ True) (Pb (Pl 31 c) ((6 : Int) = (sq0 a b c d e) ∧ True) (Pb (Pl d 0) ((6 : Int) = (sq0 a b c d e) ∧ True) (Pb (Pl 31 d) ((6 : Int) = (sq0 a b c d e) ∧ True) (Pb (Pl e 0) ((3 : Int) = (sq0 a b c d e) ∧ True) (Pb (Pl 0 e) ((3 : Int) = (sq0 a b c d e) ∧ True) ((0 : Int) = (sq0 a b c d e) ∧ True))))))))) (Pb (PL a 30) (Pb (Pl b 0) ((6 : Int) = (sq0 a b c d e) ∧ True) (Pb (Pl 31 b) ((6 : Int) = (sq0 a b c d e) ∧ True) (Pb (Pl c 0) ((6 : Int) = (sq0 a b c d e) ∧ True) (Pb (Pl 31 c) ((6 : Int) = (sq0 a b c d e) ∧ True) (sq2 d a b c e))))) (Pb (Pe a 31) (Pb (Pl b 0)
 ((6 : Int) = (sq0 a b c d e) ∧ True) (Pb (Pl 31 b) ((6 : Int) = (sq0 a b c d e) ∧ True) (Pb (Pl c 0) ((6 : Int) = (sq0 a b c d e) ∧ True) (Pb (Pl 31 c) ((6 : Int) = (sq0 a b c d e) ∧ True) (Pb (Pl d 0) ((3 : Int) = (sq0 a b c d e) ∧ True) (Pb (Pl 0 d) ((3 : Int) = (sq0 a b c d e) ∧ True) (Pb (Pl e (-32768)) ((6 : Int) = (sq0 a b c d e) ∧ True) (Pb (Pl 32767 e) ((6 : Int) = (sq0 a b c d e) ∧ True) ((0 : Int) = (sq0 a b c d e) ∧ True))))))))) (Pb (Pe a 33) (sq3 b a c d e) (Pb (Pe a 40) (sq3 b a c d e) (Pb (Pl a 39) (Pb (Pl b 0) ((6 : Int) = (sq0 a b c d e) ∧ True) (Pb (Pl 31 b) ((6 : Int) = (sq0 a b c d e) ∧ True) (Pb (Pl c 0) ((6 : Int) = (sq0 a b c d e) ∧ True) (Pb (Pl 31 c) ((6 : Int) = (sq0 a b c d e) ∧ True) (sq1 d a b c e))))) (Pb (Pe a 39) (Pb (Pl b 0) ((3 : Int) = (sq0 a b c d e) ∧
 True) (Pb (Pl 0 b) ((3 : Int) = (sq0 a b c d e) ∧ True) (Pb (Pl c 0) ((3 : Int) = (sq0 a b c d e) ∧ True) (Pb (Pl 0 c) ((3 : Int) = (sq0 a b c d e) ∧ True) (sq1 d a b c e))))) (Pb (Pe a 41) (Pb (Pl b 0) ((3 : Int) = (sq0 a b c d e) ∧ True) (Pb (Pl 0 b) ((3 : Int) = (sq0 a b c d e) ∧ True) (Pb (Pl c 0) ((6 : Int) = (sq0 a b c d e) ∧ True) (Pb (Pl 31 c) ((6 : Int) = (sq0 a b c d e) ∧ True) (sq2 d a b c e))))) (Pb (Pl b 0) ((3 : Int) = (sq0 a b c d e) ∧ True) (Pb (Pl 0 b) ((3 : Int) = (sq0 a b c d e) ∧ True) (Pb (Pl c 0) ((3 : Int) = (sq0 a b c d e) ∧ True) (Pb (Pl 0 c) ((3 : Int) = (sq0 a b c d e) ∧ True) (sq2 d a b c e)))))))))))))) ((2 : Int) = (sq0 a b c d e) ∧ True))
theorem holds (p0_0 p0_1 p0_2 p0_3 p0_4 : Int) (l_p0_0 : -9223372036854775808 ≤ p0_0) (u_p0_0 : p0_0 ≤ 9223372036854775807) (l_p0_1 : -9223372036854775808 ≤ p0_1) (u_p0_1 : p0_1 ≤ 9223372036854775807) (l_p0_2 : -9223372036854775808 ≤ p0_2) (u_p0_2 : p0_2 ≤ 9223372036854775807) (l_p0_3 : -9223372036854775808 ≤ p0_3) (u_p0_3 : p0_3 ≤ 9223372036854775807) (l_p0_4 : -9223372036854775808 ≤ p0_4) (u_p0_4 : p0_4 ≤ 9223372036854775807) : P p0_0 p0_1 p0_2 p0_3 p0_4 := by
 delta P sq0 sq1 sq2 sq3 Pb PL Pl Pe kZ
 simp only [nrm, Int.reduceEq, Int.reduceNeg, reduceIte, cckZ_I]
 repeat' (refine And.intro (fun _ => ?_) (fun _ => ?_))
 all_goals first
  | (rw [cck_n (by omega)])
  | (rw [cck_0 (by omega)]; omega)
  | (rw [cck_1 (by omega)]; omega)
  | (rw [cck_2 (by omega)]; omega)
  | (rw [cck_3 (by omega)]; omega)
  | (rw [cck_4 (by omega)]; omega)
  | (rw [cck_5 (by omega)]; omega)
  | (rw [cck_6 (by omega)]; omega)
  | (rw [cck_7 (by omega)]; omega)
theorem plain (i v ro p) : statR 2 rc tree ⟨i, fN, v, ro, p⟩ = P (i 0) (i 1) (i 2) (i 3) (i 4) := by kernel_rfl
theorem ran : ranR us (fun f _ => if [41, 40].contains f then .unroll 400 else .auto) rc 2 tree = true := by kernel_rfl
theorem fineT : fineR 2 rc tree = true := by kernel_rfl
theorem ok : RcOk (cxOf 2) rc := okR us_ok ran fineT okb fun i v ro p hρ hcap hpre => by rw [plain]; have q := hρ.hi; exact holds _ _ _ _ _ (q 0 _ rfl).1 (q 0 _ rfl).2 (q 1 _ rfl).1 (q 1 _ rfl).2 (q 2 _ rfl).1 (q 2 _ rfl).2 (q 3 _ rfl).1 (q 3 _ rfl).2 (q 4 _ rfl).1 (q 4 _ rfl).2
end CCChk
namespace CSEnc
def rc : Rc := ⟨20, [some 5], [.int .i64, .int .i64, .int .i64, .int .i64, .int .i64], [(.b .eq .i64 (.f 141 (.v 0) (.v 1) (qQm [(.v 2), (.v 3), (.v 4)])) (.c 0)), (.b .le .i64 (.c 36) (.v 0)), (.b .le .i64 (.v 0) (.c 39))], .tup [none, none], [.int .u32 (.w .u32 (.b .padd .i64 (.b .padd .i64 (.b .padd .i64 (.b .pmul .i64 (.v 0) (.c 67108864)) (.b .pmul .i64 (.v 1) (.c 2097152))) (.b .pmul .i64 (.v 2) (.c 65536))) (.v 4))), .int .i64 (.c 0)]⟩
theorem okb : rc.ok = true := by kernel_rfl
noncomputable def us : SMs := fun Γ ins n => smH (cxG n Γ ins) [] (smR (cxG n Γ ins) [CCChk.rc])
theorem us_ok : SMsOk us := fun Γ ins n => qZs (tabsG n Γ ins) (qZy _) (qZp (tabsG n Γ ins) (qQh CCChk.okb (rc_n CCChk.ok) (qZv _)))
def Q0 : E := (.b .shl .u32 (.w .u32 (.v 0)) (.c 26))
def Q1 : E := (.b .and .u32 (.w .u32 (.v 1)) (.c 31))
def Q2 : E := (.b .shl .u32 Q1 (.c 21))
def Q3 : E := (.cl 1001 0 65011712)
def Q4 : E := (.b .or .u32 Q0 Q3)
def Q5 : E := (.b .and .u32 (.w .u32 (.v 2)) (.c 31))
def Q6 : E := (.b .shl .u32 Q5 (.c 16))
def Q7 : E := (.b .and .u32 (.w .u32 (.v 3)) (.c 31))
def Q8 : E := (.b .shl .u32 Q7 (.c 11))
def Q9 : E := (.b .and .u32 (.w .u32 (.v 4)) (.c 65535))
def Q10 : E := (.b .shl .u32 Q9 (.c 0))
def Q11 : E := (.cl 1002 0 4294967295)
def Q12 : E := (.cl 1003 0 2031616)
def Q13 : E := (.b .or .u32 Q11 Q12)
def Q14 : E := (.b .or .u32 Q13 (.cl 1004 0 63488))
def Q15 : E := (.b .or .u32 Q14 (.cl 1005 0 65535))
def Q16 : E := (.cl 1006 0 4294967295)
def tree : TT (List E) :=
 (.new 1000 (.f 141 (.v 0) (.v 1) (tC (.v 2) (tC (.v 3) (tC (.v 4) (.c 0))))) (.br (tn (.cl 1000 0 6) (.c 0)) (.leaf [(.c 0), (.cl 1000 0 6)]) (.br (tl (.c 1) (.v 0)) (.br (.nt (tl (.v 0) (.c 43))) (.leaf [Q0, (.c 0)]) (.br (tl (.v 0) (.c 23)) (.new 1001 Q2 (.new 1002 Q4 (.new 1003 Q6 (.new 1004 Q8 (.new 1005 Q10 (.new 1006 Q15 (.leaf [Q16, (.c 0)]))))))) (.br (tl (.v 0) (.c 30)) (.new 1001 Q2 (.new 1002 Q4 (.new 1003 Q6 (.new 1004 Q8 (.new 1005 Q10 (.new 1006 Q15 (.leaf [Q16, (.c 0)]))))))) (.br (te (.v 0) (.c 31)) (.new 1001 Q2 (.new 1002 Q4 (.new 1003 Q6 (.new 1004 Q8 (.new 1005 Q10 (.new 1006 Q15 (.leaf [Q16, (.c 0)]))))))) (.br (te (.v 0) (.c 33)) (.new 1001 Q2 (.new 1002 Q4 (.new 1003 Q6 (.new 1004 Q8 (.new 1005 Q10 (.new 1006 Q15 (.leaf [Q16, (.c 0)]))))))) (.br (te (.v 0) (.c 40))
 (.new 1001 Q2 (.new 1002 Q4 (.new 1003 Q6 (.new 1004 Q8 (.new 1005 Q10 (.new 1006 Q15 (.leaf [Q16, (.c 0)]))))))) (.br (tk (.v 0) (.c 39)) (.new 1001 Q2 (.new 1002 Q4 (.new 1003 Q6 (.new 1004 Q8 (.new 1005 Q10 (.new 1006 Q15 (.leaf [Q16, (.c 0)]))))))) (.br (te (.v 0) (.c 39)) (.new 1001 Q2 (.new 1002 Q4 (.new 1003 Q6 (.new 1004 Q8 (.new 1005 Q10 (.new 1006 Q15 (.leaf [Q16, (.c 0)]))))))) (.br (te (.v 0) (.c 41)) (.new 1001 Q2 (.new 1002 Q4 (.new 1003 Q6 (.new 1004 Q8 (.new 1005 Q10 (.new 1006 Q15 (.leaf [Q16, (.c 0)]))))))) (.new 1001 Q2 (.new 1002 Q4 (.new 1003 Q6 (.new 1004 Q8 (.new 1005 Q10 (.new 1006 Q15 (.leaf [Q16, (.c 0)])))))))))))))))) (.leaf [Q0, (.c 0)]))))
noncomputable def sq0 (a b c e : Int) : Int := (U3 ((((a * 67108864) + (b * 2097152)) + (c * 65536)) + e))
def sq1 (b a c d e : Int) : Prop := (Pn (shlZ .u32 (band .u32 (U3 b) 31) 21) 0 65011712 fun y1 => Pn (bor .u32 (shlZ .u32 (U3 a) 26) y1) 0 4294967295 fun y2 => Pn (shlZ .u32 (band .u32 (U3 c) 31) 16) 0 2031616 fun y3 => Pn (shlZ .u32 (band .u32 (U3 d) 31) 11) 0 63488 fun y4 => Pn (shlZ .u32 (band .u32 (U3 e) 65535) 0) 0 65535 fun y5 => Pn (bor .u32 (bor .u32 (bor .u32 y2 y3) y4) y5) 0 4294967295 fun y6 => ((y6 : Int) = (sq0 a b c e) ∧ (0 : Int) = 0 ∧ True))
def P (a b c d e : Int) : Prop :=
 Pn (cckZ a b (kZ c (kZ d (kZ e 0)))) 0 6 fun y0 => (Pb (Pd y0 0) ((0 : Int) = (sq0 a b c e) ∧ (y0 : Int) = 0 ∧ True) (Pb (PL 1 a) (Pb (Pe (PL a 43) 0) (((shlZ .u32 (U3 a) 26) : Int) = (sq0 a b c e) ∧ (0 : Int) = 0 ∧ True) (Pb (PL a 23) (sq1 b a c d e) (Pb (PL a 30) (sq1 b a c d e) (Pb (Pe a 31) (sq1 b a c d e) (Pb (Pe a 33) (sq1 b a c d e) (Pb (Pe a 40) (sq1 b a c d e) (Pb (Pl a 39) (sq1 b a c d e) (Pb (Pe a 39) (sq1 b a c d e) (Pb (Pe a 41) (sq1 b a c d e) (sq1 b a c d e)))))))))) (((shlZ .u32 (U3 a) 26) : Int) = (sq0 a b c e) ∧ (0 : Int) = 0 ∧ True)))
set_option maxHeartbeats 4000000 in
theorem holds (p0_0 p0_1 p0_2 p0_3 p0_4 : Int) (l_p0_0 : -9223372036854775808 ≤ p0_0) (u_p0_0 : p0_0 ≤ 9223372036854775807) (l_p0_1 : -9223372036854775808 ≤ p0_1) (u_p0_1 : p0_1 ≤ 9223372036854775807) (l_p0_2 : -9223372036854775808 ≤ p0_2) (u_p0_2 : p0_2 ≤ 9223372036854775807) (l_p0_3 : -9223372036854775808 ≤ p0_3) (u_p0_3 : p0_3 ≤ 9223372036854775807) (l_p0_4 : -9223372036854775808 ≤ p0_4) (u_p0_4 : p0_4 ≤ 9223372036854775807) (h_pre0 : qQz ((cckZ p0_0 p0_1 (qQq p0_2 (qQq p0_3 (qQq p0_4 0))))  ==  0) ≠ 0) (h_pre1 : qQz (decide (36  ≤  p0_0)) ≠ 0) (h_pre2 : qQz (decide (p0_0  ≤  39)) ≠ 0) : P p0_0 p0_1 p0_2 p0_3 p0_4 := by
 delta P sq0 sq1 Pb Pn PL Pl Pe Pd U3 kZ
 have hc : cckZ p0_0 p0_1 (qQq p0_2 (qQq p0_3 (qQq p0_4 0))) = 0 := by simpa [qQz] using h_pre0
 have k1 : p0_0 = 36 ∨ p0_0 = 37 ∨ p0_0 = 38 ∨ p0_0 = 39 := by
  have h1 : 36 ≤ p0_0 := by simpa [qQz] using h_pre1
  have h2 : p0_0 ≤ 39 := by simpa [qQz] using h_pre2
  omega
 clear h_pre0 h_pre1 h_pre2
 have k2 : (0 ≤ p0_1 ∧ p0_1 < 32) ∧ (0 ≤ p0_2 ∧ p0_2 < 32) ∧ p0_3 = 0 ∧ (0 ≤ p0_4 ∧ p0_4 ≤ 65535) := by
  rw [cckZ_I] at hc
  by_cases h : p0_0 = 39
  ·rw [cck_5 h] at hc
   (repeat' split at hc) <;> omega
  ·rw [cck_3 (by omega)] at hc
   (repeat' split at hc) <;> omega
 have k3 : p0_0 = 39 → p0_1 = 0 ∧ p0_2 = 0 := fun h => by
  rw [cckZ_I, cck_5 h] at hc
  (repeat' split at hc) <;> omega
 simp only [sh26, sh21, sh16, sh11, sh0, sl26, sl21, sl16, sl11, sl0, ba31, ba16, wu32]
 simp only [nrm, Int.reduceEq, Int.reduceNeg, reduceIte]
 rintro y hy -
 rw [hc] at hy
 subst hy
 refine ⟨fun h => absurd rfl h, fun _ => ?_⟩
 repeat' first
  | (exfalso; omega)
  | refine And.intro (fun _ => ?_) (fun _ => ?_)
 all_goals
  rintro y1 h1 - y2 h2 - y3 h3 - y4 h4 - y5 h5 - y6 h6 -
  have g1 : y1 = p0_1 * 2097152 := by omega
  have g3 : y3 = p0_2 * 65536 := by omega
  have g4 : y4 = 0 := by omega
  have g5 : y5 = p0_4 := by omega
  have g2 : y2 = p0_0 * 67108864 + p0_1 * 2097152 := by
   rw [h2, or21 (h := p0_0 % 4294967296 * 67108864 % 4294967296) (by omega) (by omega) (by omega) (by omega) (by omega)] <;> omega
  have q1 : bor .u32 y2 y3 = p0_0 * 67108864 + p0_1 * 2097152 + p0_2 * 65536 := by
   rw [or16 (h := y2) (by omega) (by omega) (by omega) (by omega) (by omega)] <;> omega
  rw [h6, q1, g4, or_0 (by omega) (by omega), g5]
  rw [or_add 16 (h := p0_0 * 67108864 + p0_1 * 2097152 + p0_2 * 65536) (by omega) (by omega) (by omega) (by omega) (by omega) (by omega)]
  omega
theorem plain (i v ro p) : statR 2 rc tree ⟨i, fN, v, ro, p⟩ = P (i 0) (i 1) (i 2) (i 3) (i 4) := by kernel_rfl
theorem ran : ranR us (fun f _ => if [20, 41].contains f then .unroll 400 else .auto) rc 2 tree = true := by kernel_rfl
theorem fineT : fineR 2 rc tree = true := by kernel_rfl
theorem ok : RcOk (cxOf 2) rc := okR us_ok ran fineT okb fun i v ro p hρ hcap hpre => by rw [plain]; have q := hρ.hi; exact holds _ _ _ _ _ (q 0 _ rfl).1 (q 0 _ rfl).2 (q 1 _ rfl).1 (q 1 _ rfl).2 (q 2 _ rfl).1 (q 2 _ rfl).2 (q 3 _ rfl).1 (q 3 _ rfl).2 (q 4 _ rfl).1 (q 4 _ rfl).2 (hpre _ (mg 0 rfl)) (hpre _ (mg 1 rfl)) (hpre _ (mg 2 rfl))
end CSEnc
end Go.Proofs.YtdnkgacjibjlhaaGreatDoor
