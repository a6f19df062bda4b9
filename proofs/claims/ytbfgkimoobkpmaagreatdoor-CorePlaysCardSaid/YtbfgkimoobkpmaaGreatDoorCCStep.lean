/-
  What core.Core).Step answers, as numbers of what it is handed: its run by the engine, and the plain statement behind it. No condition.
-/
import Derived.Test.YtbfgkimoobkpmaaGreatDoorGab
import Derived.Test.YtbfgkimoobkpmaaGreatDoorCADo
import Derived.Test.YtbfgkimoobkpmaaGreatDoorCOCost
import Derived.Test.YtbfgkimoobkpmaaGreatDoorCACost
import Derived.Test.YtbfgkimoobkpmaaGreatDoorGmC
namespace Go.Proofs.YtbfgkimoobkpmaaGreatDoor.CCStep
open Go.Eng Go.RowKit
set_option linter.unusedVariables false
set_option linter.unusedSimpArgs false
set_option maxRecDepth 100000
def rk : Rk := ⟨9, [(-9223372036854775808, 9223372036854775807), (-9223372036854775808, 9223372036854775807), (-9223372036854775808, 9223372036854775807), (0, 16384), (0, 999999), (0, 2048)], 10, [.ptr 0 0], [.cells [.ptr 1 0, .sl (.own 2) 6 (.c 0) (.v 3) none, .int .i32 (.w .i32 (.f 13 (.v 7) (.c 0) (.c 0))), .int .i32 (.w .i32 (.f 13 (.v 7) (.c 1) (.c 0))), .int .i32 (.w .i32 (.f 13 (.v 7) (.c 2) (.c 0))), .int .i32 (.w .i32 (.f 13 (.v 7) (.c 3) (.c 0))), .int .i32 (.w .i32 (.f 13 (.v 7) (.c 4) (.c 0))), .int .i32 (.w .i32 (.f 13 (.v 7) (.c 5) (.c 0))), .int .i32 (.w .i32 (.f 13 (.v 7) (.c 6) (.c 0))), .int .i32 (.w .i32 (.f 13 (.v 7) (.c 7) (.c 0))), .int .i32 (.w .i32 (.f 13 (.v 7) (.c 8) (.c 0))), .int .i32 (.w .i32 (.f 13 (.v 7) (.c 9) (.c 0))), .int .i32 (.w .i32 (.f 13 (.v 7) (.c 10) (.c 0))), .int .i32 (.w .i32 (.f 13 (.v 7) (.c 11) (.c 0))), .int .i32 (.w .i32 (.f 13 (.v 7) (.c 12) (.c 0))), .int .i32 (.w .i32 (.f 13 (.v 7) (.c 13) (.c 0))), .int .i32 (.w .i32 (.f 13 (.v 7) (.c 14) (.c 0))), .int .i32 (.w .i32 (.f 13 (.v 7) (.c 15) (.c 0))), .int .i32 (.w .i32 (.f 13 (.v 7) (.c 16) (.c 0))), .int .i32 (.w .i32 (.f 13 (.v 7) (.c 17) (.c 0))), .int .i32 (.w .i32 (.f 13 (.v 7) (.c 18) (.c 0))), .int .i32 (.w .i32 (.f 13 (.v 7) (.c 19) (.c 0))), .int .i32 (.w .i32 (.f 13 (.v 7) (.c 20) (.c 0))), .int .i32 (.w .i32 (.f 13 (.v 7) (.c 21) (.c 0))), .int .i32 (.w .i32 (.f 13 (.v 7) (.c 22) (.c 0))), .int .i32 (.w .i32 (.f 13 (.v 7) (.c 23) (.c 0))), .int .i32 (.w .i32 (.f 13 (.v 7) (.c 24) (.c 0))), .int .i32 (.w .i32 (.f 13 (.v 7) (.c 25) (.c 0))), .int .i32 (.w .i32 (.f 13 (.v 7) (.c 26) (.c 0))), .int .i32 (.w .i32 (.f 13 (.v 7) (.c 27) (.c 0))), .int .i32 (.w .i32 (.f 13 (.v 7) (.c 28) (.c 0))), .int .i32 (.w .i32 (.f 13 (.v 7) (.c 29) (.c 0))), .int .i32 (.w .i32 (.f 13 (.v 7) (.c 30) (.c 0))), .int .i32 (.w .i32 (.f 13 (.v 7) (.c 31) (.c 0))), .int .i64 (.v 0), .int .i64 (.v 1), .int .i64 (.v 2), .sl (.own 4) 3 (.c 0) (.v 4) none] 55 none, .cells [.sl (.own 3) 1 (.c 0) (.v 5) none, .bool (.c 1)] 77 none, .arr [.int .i64, .int .i64, .int .i64, .int .i64, .int .i64, .bool] 64 (.v 6) (.v 3), .arr [.int .i32] 21 (.v 8) (.v 5), .arr [.int .i64, .int .i64, .int .i64] 47 (.v 9) (.v 4)], [(.f 68 (.v 6) (.v 3) (.c 0))], .bool (.v 1000007), [.cells [.ptr 1 0, .sl (.own 2) 6 (.c 0) (.v 3) none, .int .i32 (.w .i32 (.f 13 (.v 1000000) (.c 0) (.c 0))), .int .i32 (.w .i32 (.f 13 (.v 1000000) (.c 1) (.c 0))), .int .i32 (.w .i32 (.f 13 (.v 1000000) (.c 2) (.c 0))), .int .i32 (.w .i32 (.f 13 (.v 1000000) (.c 3) (.c 0))), .int .i32 (.w .i32 (.f 13 (.v 1000000) (.c 4) (.c 0))), .int .i32 (.w .i32 (.f 13 (.v 1000000) (.c 5) (.c 0))), .int .i32 (.w .i32 (.f 13 (.v 1000000) (.c 6) (.c 0))), .int .i32 (.w .i32 (.f 13 (.v 1000000) (.c 7) (.c 0))), .int .i32 (.w .i32 (.f 13 (.v 1000000) (.c 8) (.c 0))), .int .i32 (.w .i32 (.f 13 (.v 1000000) (.c 9) (.c 0))), .int .i32 (.w .i32 (.f 13 (.v 1000000) (.c 10) (.c 0))), .int .i32 (.w .i32 (.f 13 (.v 1000000) (.c 11) (.c 0))), .int .i32 (.w .i32 (.f 13 (.v 1000000) (.c 12) (.c 0))), .int .i32 (.w .i32 (.f 13 (.v 1000000) (.c 13) (.c 0))), .int .i32 (.w .i32 (.f 13 (.v 1000000) (.c 14) (.c 0))), .int .i32 (.w .i32 (.f 13 (.v 1000000) (.c 15) (.c 0))), .int .i32 (.w .i32 (.f 13 (.v 1000000) (.c 16) (.c 0))), .int .i32 (.w .i32 (.f 13 (.v 1000000) (.c 17) (.c 0))), .int .i32 (.w .i32 (.f 13 (.v 1000000) (.c 18) (.c 0))), .int .i32 (.w .i32 (.f 13 (.v 1000000) (.c 19) (.c 0))), .int .i32 (.w .i32 (.f 13 (.v 1000000) (.c 20) (.c 0))), .int .i32 (.w .i32 (.f 13 (.v 1000000) (.c 21) (.c 0))), .int .i32 (.w .i32 (.f 13 (.v 1000000) (.c 22) (.c 0))), .int .i32 (.w .i32 (.f 13 (.v 1000000) (.c 23) (.c 0))), .int .i32 (.w .i32 (.f 13 (.v 1000000) (.c 24) (.c 0))), .int .i32 (.w .i32 (.f 13 (.v 1000000) (.c 25) (.c 0))), .int .i32 (.w .i32 (.f 13 (.v 1000000) (.c 26) (.c 0))), .int .i32 (.w .i32 (.f 13 (.v 1000000) (.c 27) (.c 0))), .int .i32 (.w .i32 (.f 13 (.v 1000000) (.c 28) (.c 0))), .int .i32 (.w .i32 (.f 13 (.v 1000000) (.c 29) (.c 0))), .int .i32 (.w .i32 (.f 13 (.v 1000000) (.c 30) (.c 0))), .int .i32 (.w .i32 (.f 13 (.v 1000000) (.c 31) (.c 0))), .int .i64 (.v 1000002), .int .i64 (.v 1000003), .int .i64 (.v 1000004), .sl (.own 5) 3 (.c 0) (.v 1000005) none] 55 none, .cells [.sl (.own 3) 1 (.c 0) (.v 5) none, .bool (.c 1)] 77 none, .arr [.int .i64, .int .i64, .int .i64, .int .i64, .int .i64, .bool] 64 (.v 6) (.v 3), .arr [.int .i32] 21 (.v 1000001) (.v 5), .gone, .arr [.int .i64, .int .i64, .int .i64] 47 (.v 1000006) (.v 1000005)], [.code [.int .i32] (.f 13 (.f 69 (.v 6) (.v 3) (listE [(.v 7), (.v 8), (.v 5), (.v 0), (.v 1), (.v 2), (.v 9), (.v 4)])) (.c 0) (.c 0)) (.c 32), .code [.int .i32] (.f 13 (.f 69 (.v 6) (.v 3) (listE [(.v 7), (.v 8), (.v 5), (.v 0), (.v 1), (.v 2), (.v 9), (.v 4)])) (.c 1) (.c 0)) (.v 5), .num (.w .i64 (.f 13 (.f 69 (.v 6) (.v 3) (listE [(.v 7), (.v 8), (.v 5), (.v 0), (.v 1), (.v 2), (.v 9), (.v 4)])) (.c 2) (.c 0))), .num (.w .i64 (.f 13 (.f 69 (.v 6) (.v 3) (listE [(.v 7), (.v 8), (.v 5), (.v 0), (.v 1), (.v 2), (.v 9), (.v 4)])) (.c 3) (.c 0))), .num (.w .i64 (.f 13 (.f 69 (.v 6) (.v 3) (listE [(.v 7), (.v 8), (.v 5), (.v 0), (.v 1), (.v 2), (.v 9), (.v 4)])) (.c 4) (.c 0))), .num (.w .i64 (.f 13 (.f 69 (.v 6) (.v 3) (listE [(.v 7), (.v 8), (.v 5), (.v 0), (.v 1), (.v 2), (.v 9), (.v 4)])) (.c 6) (.c 0))), .code [.int .i64, .int .i64, .int .i64] (.f 13 (.f 69 (.v 6) (.v 3) (listE [(.v 7), (.v 8), (.v 5), (.v 0), (.v 1), (.v 2), (.v 9), (.v 4)])) (.c 5) (.c 0)) (.w .i64 (.f 13 (.f 69 (.v 6) (.v 3) (listE [(.v 7), (.v 8), (.v 5), (.v 0), (.v 1), (.v 2), (.v 9), (.v 4)])) (.c 6) (.c 0))), .bool (.b .eq .i64 (.v 1) (.c 0))], []⟩
theorem okk : rk.ok = true := by kernel_rfl
theorem okh : rk.rh.ok = true := by kernel_rfl
noncomputable def us : SMs := fun Γ ins n => smH (cxG n Γ ins) [] (smR (cxG n Γ ins) [CADo.rc, COCost.rc, CACost.rc])
theorem us_ok : SMsOk us := fun Γ ins n => smH_ok (tabsG n Γ ins) (rhs_nil _) (smR_ok (tabsG n Γ ins) (rcs_cons CADo.okb (rc_n CADo.ok) (rcs_cons COCost.okb (rc_n COCost.ok) (rcs_cons CACost.okb (rc_n CACost.ok) (rcs_nil _)))))
def q0 : E := (tR (.v 6) (.v 0))
def q1 : E := (.cl 1002 (-9223372036854775808) 9223372036854775807)
def q2 : E := (.cl 1000 (-9223372036854775808) 9223372036854775807)
def q3 : E := (.cl 1003 (-9223372036854775808) 9223372036854775807)
def q4 : E := (tR (.v 7) q1)
def q5 : E := (t3 q4)
def q6 : E := (tR (.v 7) q3)
def q7 : E := (t3 q6)
def q8 : E := (.cl 1001 (-9223372036854775808) 9223372036854775807)
def q9 : E := (tn q8 (.c 0))
def q10 : E := (tl (.c 0) q8)
def q11 : E := (tk q8 (.c 32))
def q12 : E := (.f 65 q2 q5 (.c 0))
def q13 : E := (.cl 1005 (-2147483648) 2147483647)
def q14 : E := (tp (.v 0) (.c 1))
def q15 : E := (t6 q14)
def q16 : E := (tp (.v 2) (.cl 1007 0 67))
def q17 : E := (t6 q16)
def q18 : E := (tp (.v 4) (.c 1))
def q19 : E := (tC (.cl 1007 0 67) (.c 0))
def q20 : E := (tC (.c (-1)) q19)
def q21 : E := (tC (.v 0) q20)
def q22 : E := (.f 14 (.v 9) (.v 4) q21)
def q23 : E := (.cl 1004 (-9223372036854775808) 9223372036854775807)
def q24 : E := (t3 q23)
def q25 : E := (tp q5 q24)
def q26 : E := (t3 q25)
def q27 : E := (tp (.v 2) (.c 1))
def q28 : E := (t6 q27)
def q29 : E := (tC (.c 1) (.c 0))
def q30 : E := (tC (.c (-1)) q29)
def q31 : E := (tC (.v 0) q30)
def q32 : E := (.f 14 (.v 9) (.v 4) q31)
def q33 : E := (tk q13 (.c 0))
def q34 : E := (tl (.v 5) q13)
def q35 : E := (tl (.c 0) q13)
def q36 : E := (tk q13 (.v 5))
def q37 : E := (tl (.c 1024) q13)
def q38 : E := (te q2 (.c 35))
def q39 : E := (tR (.v 7) q8)
def q40 : E := (t3 q39)
def q41 : E := (.f 14 (.v 8) q13 q40)
def q42 : E := (.f 66 q2 (.c 0) (.c 0))
def q43 : E := (tp q42 (.c 1))
def q44 : E := (tp (.v 2) q43)
def q45 : E := (t6 q44)
def q46 : E := (tC q43 (.c 0))
def q47 : E := (tC q13 q46)
def q48 : E := (tC (.v 0) q47)
def q49 : E := (.f 14 (.v 9) (.v 4) q48)
def q50 : E := (tR (.v 8) q13)
def q51 : E := (t3 q50)
def q52 : E := (.f 14 (.v 7) q8 q51)
def q53 : E := (tp (.v 2) q42)
def q54 : E := (t6 q53)
def q55 : E := (tC q42 (.c 0))
def q56 : E := (tC q13 q55)
def q57 : E := (tC (.v 0) q56)
def q58 : E := (.f 14 (.v 9) (.v 4) q57)
def q59 : E := (tp (.v 2) (.c 3))
def q60 : E := (t6 q59)
def q61 : E := (tC (.c 3) (.c 0))
def q62 : E := (tC (.c (-1)) q61)
def q63 : E := (tC (.v 0) q62)
def q64 : E := (.f 14 (.v 9) (.v 4) q63)
def q65 : E := (.cl 1005 (-9223372036854775808) 9223372036854775807)
def q66 : E := (tC (.c (-1)) q55)
def q67 : E := (tC (.v 0) q66)
def q68 : E := (.f 14 (.v 9) (.v 4) q67)
def tree : TT (List E) :=
 (.br (tn (.v 1) (.c 0)) (.leaf [(.v 7), (.v 8), (.v 0), (.v 1), (.v 2), (.v 4), (.v 9), (.c 0)]) (.br (tk (.v 0) (.c 0)) (.leaf [(.v 7), (.v 8), (.v 0), (.c 2), (.v 2), (.v 4), (.v 9), (.c 1)]) (.br (tl (.v 3) (.v 0)) (.leaf [(.v 7), (.v 8), (.v 0), (.c 2), (.v 2), (.v 4), (.v 9), (.c 1)]) (.br (tl (.c 0) (.v 0)) (.br (tk (.v 0) (.v 3)) (.new 1000 (t6 (tR q0 (.c 0))) (.new 1001 (t6 (tR q0 (.c 1))) (.new 1002 (t6 (tR q0 (.c 2))) (.new 1003 (t6 (tR q0 (.c 3))) (.new 1004 (t6 (tR q0 (.c 4))) (.br (.nt (tR q0 (.c 5))) (.leaf [(.v 7), (.v 8), (.v 0), (.c 3), (.v 2), (.v 4), (.v 9), (.c 1)]) (.br (tl (.c 0) q1) (.br (tk q1 (.c 32)) (.br (tl q2 (.c 30)) (.br (tl (.c 0) q3) (.br (tk q3 (.c 32)) (.new 1005 (.f 63 q2 q5 q7) (.new 1006 (.f 64 q2 q5 q7) (.br (.nt (.cl 1006 0 1)) (.leaf [(.v 7), (.v
 8), (.v 0), (.c 5), (.v 2), (.v 4), (.v 9), (.c 1)]) (.br q9 (.br q10 (.br q11 (.new 1007 q12 (.leaf [(.f 14 (.v 7) q8 q13), (.v 8), q15, (.v 1), q17, q18, q22, (.c 1)])) (.bad 200)) (.bad 200)) (.new 1007 q12 (.leaf [(.v 7), (.v 8), q15, (.v 1), q17, q18, q22, (.c 1)])))))) (.bad 200)) (.bad 200)) (.br (te q2 (.c 31)) (.br q9 (.br q10 (.br q11 (.leaf [(.f 14 (.v 7) q8 q26), (.v 8), q15, (.v 1), q28, q18, q32, (.c 1)]) (.bad 200)) (.bad 200)) (.leaf [(.v 7), (.v 8), q15, (.v 1), q28, q18, q32, (.c 1)])) (.br (te q2 (.c 32)) (.br q9 (.br q10 (.br q11 (.leaf [(.f 14 (.v 7) q8 (.b .or .i32 q5 q24)), (.v 8), q15, (.v 1), q28, q18, q32, (.c 1)]) (.bad 200)) (.bad 200)) (.leaf [(.v 7), (.v 8), q15, (.v 1), q28, q18, q32, (.c 1)])) (.br (te q2 (.c 33)) (.br q9 (.br q10 (.br q11 (.leaf [(.f 14
 (.v 7) q8 (t3 (.b .shl .u32 (.w .u32 q23) (.c 16)))), (.v 8), q15, (.v 1), q28, q18, q32, (.c 1)]) (.bad 200)) (.bad 200)) (.leaf [(.v 7), (.v 8), q15, (.v 1), q28, q18, q32, (.c 1)])) (.br (te q2 (.c 34)) (.new 1005 q26 (.br q33 (.leaf [(.v 7), (.v 8), (.v 0), (.c 4), (.v 2), (.v 4), (.v 9), (.c 1)]) (.br q34 (.leaf [(.v 7), (.v 8), (.v 0), (.c 4), (.v 2), (.v 4), (.v 9), (.c 1)]) (.br q35 (.br q36 (.br q37 (.br q38 (.br q10 (.br q11 (.leaf [(.v 7), q41, q15, (.v 1), q45, q18, q49, (.c 1)]) (.bad 200)) (.bad 200)) (.br q9 (.br q10 (.br q11 (.leaf [q52, (.v 8), q15, (.v 1), q45, q18, q49, (.c 1)]) (.bad 200)) (.bad 200)) (.leaf [(.v 7), (.v 8), q15, (.v 1), q45, q18, q49, (.c 1)]))) (.br q38 (.br q10 (.br q11 (.leaf [(.v 7), q41, q15, (.v 1), q54, q18, q58, (.c 1)]) (.bad 200)) (.bad
 200)) (.br q9 (.br q10 (.br q11 (.leaf [q52, (.v 8), q15, (.v 1), q54, q18, q58, (.c 1)]) (.bad 200)) (.bad 200)) (.leaf [(.v 7), (.v 8), q15, (.v 1), q54, q18, q58, (.c 1)])))) (.bad 200)) (.bad 200))))) (.br q38 (.new 1005 q26 (.br q33 (.leaf [(.v 7), (.v 8), (.v 0), (.c 4), (.v 2), (.v 4), (.v 9), (.c 1)]) (.br q34 (.leaf [(.v 7), (.v 8), (.v 0), (.c 4), (.v 2), (.v 4), (.v 9), (.c 1)]) (.br q35 (.br q36 (.br q37 (.br q10 (.br q11 (.leaf [(.v 7), q41, q15, (.v 1), q45, q18, q49, (.c 1)]) (.bad 200)) (.bad 200)) (.br q10 (.br q11 (.leaf [(.v 7), q41, q15, (.v 1), q54, q18, q58, (.c 1)]) (.bad 200)) (.bad 200))) (.bad 200)) (.bad 200))))) (.br q10 (.br q11 (.br (te q2 (.c 36)) (.br (tn q40 q5) (.leaf [(.v 7), (.v 8), q15, (.v 1), q28, q18, q32, (.c 1)]) (.leaf [(.v 7), (.v 8), q23, (.v
 1), q60, q18, q64, (.c 1)])) (.br (te q2 (.c 37)) (.br (te q40 q5) (.leaf [(.v 7), (.v 8), q15, (.v 1), q28, q18, q32, (.c 1)]) (.leaf [(.v 7), (.v 8), q23, (.v 1), q60, q18, q64, (.c 1)])) (.br (te q2 (.c 38)) (.br (.nt (tk q40 q5)) (.leaf [(.v 7), (.v 8), q15, (.v 1), q28, q18, q32, (.c 1)]) (.leaf [(.v 7), (.v 8), q23, (.v 1), q60, q18, q64, (.c 1)])) (.br (te q2 (.c 40)) (.br q9 (.new 1005 q54 (.leaf [(.f 14 (.v 7) q8 (t3 q14)), (.v 8), q23, (.v 1), q65, q18, q68, (.c 1)])) (.new 1005 q54 (.leaf [(.v 7), (.v 8), q23, (.v 1), q65, q18, q68, (.c 1)]))) (.br (te q2 (.c 39)) (.new 1005 q54 (.leaf [(.v 7), (.v 8), q23, (.v 1), q65, q18, q68, (.c 1)])) (.br (te q2 (.c 41)) (.leaf [(.v 7), (.v 8), q5, (.v 1), q54, q18, q68, (.c 1)]) (.br (te q2 (.c 43)) (.new 1005 q54 (.leaf [(.v 7), (.v
 8), (.v 0), (.c 1), q65, q18, q68, (.c 1)])) (.leaf [(.v 7), (.v 8), q15, (.v 1), q54, q18, q68, (.c 1)])))))))) (.bad 200)) (.bad 200)))))))) (.bad 200)) (.bad 200)))))))) (.bad 200)) (.bad 200)))))

noncomputable def sq0 (g d h i f a b c j e : Int) : Int := (stepZ g d (consZ h (consZ i (consZ f (consZ a (consZ b (consZ c (consZ j (consZ e 0)))))))))
def sL0 (g d h i f a b c j e z0 z3 z6 z8 z10 z12 z14 z17 : Int) : Prop := rowEq [.int .i32] z0 (rdZ (sq0 g d h i f a b c j e) 0) 32 ∧ rowEq [.int .i32] z3 (rdZ (sq0 g d h i f a b c j e) 1) f ∧ (z6 : Int) = (W6 (rdZ (sq0 g d h i f a b c j e) 2)) ∧ (z8 : Int) = (W6 (rdZ (sq0 g d h i f a b c j e) 3)) ∧ (z10 : Int) = (W6 (rdZ (sq0 g d h i f a b c j e) 4)) ∧ (z12 : Int) = (W6 (rdZ (sq0 g d h i f a b c j e) 6)) ∧ rowEq [.int .i64, .int .i64, .int .i64] z14 (rdZ (sq0 g d h i f a b c j e) 5) (W6 (rdZ (sq0 g d h i f a b c j e) 6)) ∧ ((z17 : Int) ≠ 0 ↔ ((Pe b 0) : Int) ≠ 0) ∧ True
def P (a b c d e f g h i j : Int) : Prop :=
 (Pb (Pd b 0) (sL0 g d h i f a b c j e h i a b c e j 0) (Pb (Pl a 0) (sL0 g d h i f a b c j e h i a 2 c e j 1) (Pb (PL d a) (sL0 g d h i f a b c j e h i a 2 c e j 1) (Pm (PL 0 a) (Pm (Pl a d) (Pn (W6 (rdZ (rdZ g a) 0)) (-9223372036854775808) 9223372036854775807 fun y0 => Pn (W6 (rdZ (rdZ g a) 1)) (-9223372036854775808) 9223372036854775807 fun y1 => Pn (W6 (rdZ (rdZ g a) 2)) (-9223372036854775808) 9223372036854775807 fun y2 => Pn (W6 (rdZ (rdZ g a) 3)) (-9223372036854775808) 9223372036854775807 fun y3 => Pn (W6 (rdZ (rdZ g a) 4)) (-9223372036854775808) 9223372036854775807 fun y4 => (Pb (Pe (rdZ (rdZ g a) 5) 0) (sL0 g d h i f a b c j e h i a 3 c e j 1) (Pm (PL 0 y2) (Pm (Pl y2 32) (Pb (PL y0 30) (Pm (PL 0 y3) (Pm (Pl y3 32) (Pn (aluV y0 (W3 (rdZ h y2)) (W3 (rdZ h y3))) (-2147483648)
 2147483647 fun y5 => Pn (aluK y0 (W3 (rdZ h y2)) (W3 (rdZ h y3))) 0 1 fun y6 => (Pb (Pe y6 0) (sL0 g d h i f a b c j e h i a 5 c e j 1) (Pb (Pd y1 0) (Pm (PL 0 y1) (Pm (Pl y1 32) (Pn (aluC y0 (W3 (rdZ h y2))) 0 67 fun y7 => (sL0 g d h i f a b c j e (updZ h y1 y5) i (W6 (a + 1)) b (W6 (c + y7)) (e + 1) (updZ j e (consZ a (consZ (-1) (consZ y7 0)))) 1)))) (Pn (aluC y0 (W3 (rdZ h y2))) 0 67 fun y7 => (sL0 g d h i f a b c j e h i (W6 (a + 1)) b (W6 (c + y7)) (e + 1) (updZ j e (consZ a (consZ (-1) (consZ y7 0)))) 1))))))) (Pb (Pe y0 31) (Pb (Pd y1 0) (Pm (PL 0 y1) (Pm (Pl y1 32) (sL0 g d h i f a b c j e (updZ h y1 (W3 ((W3 (rdZ h y2)) + (W3 y4)))) i (W6 (a + 1)) b (W6 (c + 1)) (e + 1) (updZ j e (consZ a (consZ (-1) (consZ 1 0)))) 1))) (sL0 g d h i f a b c j e h i (W6 (a + 1)) b (W6 (c + 1))
 (e + 1) (updZ j e (consZ a (consZ (-1) (consZ 1 0)))) 1)) (Pb (Pe y0 32) (Pb (Pd y1 0) (Pm (PL 0 y1) (Pm (Pl y1 32) (sL0 g d h i f a b c j e (updZ h y1 (bor .i32 (W3 (rdZ h y2)) (W3 y4))) i (W6 (a + 1)) b (W6 (c + 1)) (e + 1) (updZ j e (consZ a (consZ (-1) (consZ 1 0)))) 1))) (sL0 g d h i f a b c j e h i (W6 (a + 1)) b (W6 (c + 1)) (e + 1) (updZ j e (consZ a (consZ (-1) (consZ 1 0)))) 1)) (Pb (Pe y0 33) (Pb (Pd y1 0) (Pm (PL 0 y1) (Pm (Pl y1 32) (sL0 g d h i f a b c j e (updZ h y1 (W3 (shlZ .u32 (U3 y4) 16))) i (W6 (a + 1)) b (W6 (c + 1)) (e + 1) (updZ j e (consZ a (consZ (-1) (consZ 1 0)))) 1))) (sL0 g d h i f a b c j e h i (W6 (a + 1)) b (W6 (c + 1)) (e + 1) (updZ j e (consZ a (consZ (-1) (consZ 1 0)))) 1)) (Pb (Pe y0 34) (Pn (W3 ((W3 (rdZ h y2)) + (W3 y4))) (-2147483648) 2147483647
 fun y5 => (Pb (Pl y5 0) (sL0 g d h i f a b c j e h i a 4 c e j 1) (Pb (PL f y5) (sL0 g d h i f a b c j e h i a 4 c e j 1) (Pm (PL 0 y5) (Pm (Pl y5 f) (Pb (PL 1024 y5) (Pb (Pe y0 35) (Pm (PL 0 y1) (Pm (Pl y1 32) (sL0 g d h i f a b c j e h (updZ i y5 (W3 (rdZ h y1))) (W6 (a + 1)) b (W6 (c + ((opCo y0) + 1))) (e + 1) (updZ j e (consZ a (consZ y5 (consZ ((opCo y0) + 1) 0)))) 1))) (Pb (Pd y1 0) (Pm (PL 0 y1) (Pm (Pl y1 32) (sL0 g d h i f a b c j e (updZ h y1 (W3 (rdZ i y5))) i (W6 (a + 1)) b (W6 (c + ((opCo y0) + 1))) (e + 1) (updZ j e (consZ a (consZ y5 (consZ ((opCo y0) + 1) 0)))) 1))) (sL0 g d h i f a b c j e h i (W6 (a + 1)) b (W6 (c + ((opCo y0) + 1))) (e + 1) (updZ j e (consZ a (consZ y5 (consZ ((opCo y0) + 1) 0)))) 1))) (Pb (Pe y0 35) (Pm (PL 0 y1) (Pm (Pl y1 32) (sL0 g d h i f a b c j
 e h (updZ i y5 (W3 (rdZ h y1))) (W6 (a + 1)) b (W6 (c + (opCo y0))) (e + 1) (updZ j e (consZ a (consZ y5 (consZ (opCo y0) 0)))) 1))) (Pb (Pd y1 0) (Pm (PL 0 y1) (Pm (Pl y1 32) (sL0 g d h i f a b c j e (updZ h y1 (W3 (rdZ i y5))) i (W6 (a + 1)) b (W6 (c + (opCo y0))) (e + 1) (updZ j e (consZ a (consZ y5 (consZ (opCo y0) 0)))) 1))) (sL0 g d h i f a b c j e h i (W6 (a + 1)) b (W6 (c + (opCo y0))) (e + 1) (updZ j e (consZ a (consZ y5 (consZ (opCo y0) 0)))) 1))))))))) (Pb (Pe y0 35) (Pn (W3 ((W3 (rdZ h y2)) + (W3 y4))) (-2147483648) 2147483647 fun y5 => (Pb (Pl y5 0) (sL0 g d h i f a b c j e h i a 4 c e j 1) (Pb (PL f y5) (sL0 g d h i f a b c j e h i a 4 c e j 1) (Pm (PL 0 y5) (Pm (Pl y5 f) (Pb (PL 1024 y5) (Pm (PL 0 y1) (Pm (Pl y1 32) (sL0 g d h i f a b c j e h (updZ i y5 (W3 (rdZ h y1)))
 (W6 (a + 1)) b (W6 (c + ((opCo y0) + 1))) (e + 1) (updZ j e (consZ a (consZ y5 (consZ ((opCo y0) + 1) 0)))) 1))) (Pm (PL 0 y1) (Pm (Pl y1 32) (sL0 g d h i f a b c j e h (updZ i y5 (W3 (rdZ h y1))) (W6 (a + 1)) b (W6 (c + (opCo y0))) (e + 1) (updZ j e (consZ a (consZ y5 (consZ (opCo y0) 0)))) 1))))))))) (Pm (PL 0 y1) (Pm (Pl y1 32) (Pb (Pe y0 36) (Pb (Pd (W3 (rdZ h y1)) (W3 (rdZ h y2))) (sL0 g d h i f a b c j e h i (W6 (a + 1)) b (W6 (c + 1)) (e + 1) (updZ j e (consZ a (consZ (-1) (consZ 1 0)))) 1) (sL0 g d h i f a b c j e h i y4 b (W6 (c + 3)) (e + 1) (updZ j e (consZ a (consZ (-1) (consZ 3 0)))) 1)) (Pb (Pe y0 37) (Pb (Pe (W3 (rdZ h y1)) (W3 (rdZ h y2))) (sL0 g d h i f a b c j e h i (W6 (a + 1)) b (W6 (c + 1)) (e + 1) (updZ j e (consZ a (consZ (-1) (consZ 1 0)))) 1) (sL0 g d h i f a b c
 j e h i y4 b (W6 (c + 3)) (e + 1) (updZ j e (consZ a (consZ (-1) (consZ 3 0)))) 1)) (Pb (Pe y0 38) (Pb (Pe (Pl (W3 (rdZ h y1)) (W3 (rdZ h y2))) 0) (sL0 g d h i f a b c j e h i (W6 (a + 1)) b (W6 (c + 1)) (e + 1) (updZ j e (consZ a (consZ (-1) (consZ 1 0)))) 1) (sL0 g d h i f a b c j e h i y4 b (W6 (c + 3)) (e + 1) (updZ j e (consZ a (consZ (-1) (consZ 3 0)))) 1)) (Pb (Pe y0 40) (Pb (Pd y1 0) (Pn (W6 (c + (opCo y0))) (-9223372036854775808) 9223372036854775807 fun y5 => (sL0 g d h i f a b c j e (updZ h y1 (W3 (a + 1))) i y4 b y5 (e + 1) (updZ j e (consZ a (consZ (-1) (consZ (opCo y0) 0)))) 1)) (Pn (W6 (c + (opCo y0))) (-9223372036854775808) 9223372036854775807 fun y5 => (sL0 g d h i f a b c j e h i y4 b y5 (e + 1) (updZ j e (consZ a (consZ (-1) (consZ (opCo y0) 0)))) 1))) (Pb (Pe y0 39)
 (Pn (W6 (c + (opCo y0))) (-9223372036854775808) 9223372036854775807 fun y5 => (sL0 g d h i f a b c j e h i y4 b y5 (e + 1) (updZ j e (consZ a (consZ (-1) (consZ (opCo y0) 0)))) 1)) (Pb (Pe y0 41) (sL0 g d h i f a b c j e h i (W3 (rdZ h y2)) b (W6 (c + (opCo y0))) (e + 1) (updZ j e (consZ a (consZ (-1) (consZ (opCo y0) 0)))) 1) (Pb (Pe y0 43) (Pn (W6 (c + (opCo y0))) (-9223372036854775808) 9223372036854775807 fun y5 => (sL0 g d h i f a b c j e h i a 1 y5 (e + 1) (updZ j e (consZ a (consZ (-1) (consZ (opCo y0) 0)))) 1)) (sL0 g d h i f a b c j e h i (W6 (a + 1)) b (W6 (c + (opCo y0))) (e + 1) (updZ j e (consZ a (consZ (-1) (consZ (opCo y0) 0)))) 1)))))))))))))))))))))))))

set_option maxHeartbeats 4000000 in
theorem holds (pc state cost nc nm nr cq rg rm mq : Int) (l_pc : -9223372036854775808 ≤ pc) (u_pc : pc ≤ 9223372036854775807) (l_state : -9223372036854775808 ≤ state) (u_state : state ≤ 9223372036854775807) (l_cost : -9223372036854775808 ≤ cost) (u_cost : cost ≤ 9223372036854775807) (l_nc : 0 ≤ nc) (u_nc : nc ≤ 16384) (l_nm : 0 ≤ nm) (u_nm : nm ≤ 999999) (l_nr : 0 ≤ nr) (u_nr : nr ≤ 2048) (h_pre0 : (okC cq nc) ≠ 0) : P pc state cost nc nm nr cq rg rm mq := by
  delta P sq0 sL0 Pb Pm Pn PL Pl Pe Pd W6 W3 U3
  simp only [b01_eq, decide_eq_true_eq, decide_eq_false_iff_not, beq_iff_eq, beq_eq_false_iff_ne, bne_iff_ne, bne_eq_false_iff_eq, Int.not_le, Int.not_lt, true_and, and_true, iteZ_ne, ne_eq, Bool.not_eq_false, Bool.not_eq_true, not_true_eq_false, not_false_eq_true, Decidable.not_not, forall_const, false_implies, true_iff, iff_true, false_iff, iff_false, Int.reduceEq, Int.reduceNeg, eq_self, if_true, if_false, reduceIte, ob_le, ob_lt, ob_p, ob_n]
  have hok := (okC_ne cq nc).1 h_pre0
  refine ⟨fun h0 => st_leaf (by simp [Mac.step, h0]) (by omega) (by omega) (by omega) (by omega) (by simp [h0]), fun h0 => ⟨fun h1 => st_leaf (by simp [Mac.step, h0, h1]) (by omega) (by omega) (by omega) (by omega) (by simp [h0]), fun h1 => ⟨fun h2 => st_leaf (by simp [Mac.step, h0, h2]) (by omega) (by omega) (by omega) (by omega) (by simp [h0]), fun h2 => ⟨by omega, by omega, ?_⟩⟩⟩⟩
  intro y0 e0 b0 y1 e1 b1 y2 e2 b2 y3 e3 b3 y4 e4 b4
  refine ⟨fun h3 => st_leaf (by simp [Mac.step, h0, h3]; omega) (by omega) (by omega) (by omega) (by omega) (by simp [h0]), fun h3 => ?_⟩
  have hr := hok pc.toNat (by omega)
  unfold okRow at hr
  rw [show ((pc.toNat : Nat) : Int) = pc by omega, ← e0, ← e1, ← e2, ← e3, ← e4] at hr
  obtain ⟨g0, g1, g2, g3, g4⟩ := hr h3
  have hs : Mac.step cq nc nr ⟨rg, rm, pc, state, cost, mq, nm⟩ = Mac.does ⟨rg, rm, pc, state, cost, mq, nm⟩ nr y0 y1 y2 y3 y4 := by
    unfold Mac.step
    simp only
    rw [if_neg (by omega), if_neg (by omega), if_neg h3, ← e0, ← e1, ← e2, ← e3, ← e4]
  clear e0 e1 e2 e3 e4
  have hx := i64_bd (pc + 1)
  clear hok hr h_pre0
  repeat' (first | refine st_leaf (hs.trans ?_) ?_ ?_ ?_ ?_ ?_ | refine ⟨by omega, ?_⟩ | refine ⟨fun _ => ?_, fun _ => ?_⟩ | intro _)
  all_goals first | exact i64_bd _ | exact i32_in64 _ | omega | skip
  all_goals first | rw [does_alu (by omega)] | ((have hy : y0 = 31 := by omega); subst hy; rw [does_31]) | ((have hy : y0 = 32 := by omega); subst hy; rw [does_32]) | ((have hy : y0 = 33 := by omega); subst hy; rw [does_33]) | ((have hy : y0 = 34 := by omega); subst hy; rw [does_34]) | ((have hy : y0 = 35 := by omega); subst hy; rw [does_35]) | ((have hy : y0 = 36 := by omega); subst hy; rw [does_36]) | ((have hy : y0 = 37 := by omega); subst hy; rw [does_37]) | ((have hy : y0 = 38 := by omega); subst hy; rw [does_38]) | ((have hy : y0 = 39 := by omega); subst hy; rw [does_39]) | ((have hy : y0 = 40 := by omega); subst hy; rw [does_40]) | ((have hy : y0 = 41 := by omega); subst hy; rw [does_41]) | ((have hy : y0 = 42 := by omega); subst hy; rw [does_42]) | ((have hy : y0 = 43 := by omega); subst hy; rw [does_43]) 
  all_goals try simp only [Mac.mem, Mac.branch, Mac.reg]
  all_goals (repeat (first | rw [put_pos (by omega)] | rw [put_neg (by omega)] | refine (if_pos (by omega)).trans ?_ | refine (if_neg (by omega)).trans ?_ | unfold Mac.memA | unfold Mac.memo | simp only [Mac.reg]))
  all_goals (subst_vars; rfl)

theorem plain (i v ro p) : statH 2 rk tree ⟨i, fN, v, ro, p⟩ = P (i 0) (i 1) (i 2) (i 3) (i 4) (i 5) (i 6) (i 7) (i 8) (i 9) := by kernel_rfl
theorem ran : ranH us (fun _ _ => .auto) rk 2 tree = true := by kernel_rfl
theorem fineT : fineH 2 rk tree = true := by kernel_rfl
theorem fineB : blVb 1000 rk.inb = true := by kernel_rfl
theorem ok : RhOk (cxOf 2) rk.rh := okH us_ok ran fineT fineB okk fun i v ro p hρ hpre => by rw [plain]; exact holds (i 0) (i 1) (i 2) (i 3) (i 4) (i 5) (i 6) (i 7) (i 8) (i 9) (hρ.hi 0 _ rfl).1 (hρ.hi 0 _ rfl).2 (hρ.hi 1 _ rfl).1 (hρ.hi 1 _ rfl).2 (hρ.hi 2 _ rfl).1 (hρ.hi 2 _ rfl).2 (hρ.hi 3 _ rfl).1 (hρ.hi 3 _ rfl).2 (hρ.hi 4 _ rfl).1 (hρ.hi 4 _ rfl).2 (hρ.hi 5 _ rfl).1 (hρ.hi 5 _ rfl).2 (hpre _ (List.mem_of_getElem? (i := 0) rfl))
end Go.Proofs.YtbfgkimoobkpmaaGreatDoor.CCStep
