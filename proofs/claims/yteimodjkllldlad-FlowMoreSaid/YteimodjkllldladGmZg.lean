/-
  Parts of the engine, a program's symbolic run, proved sound; and of plain laws.
-/
import Derived.Test.YteimodjkllldladGmZf
set_option linter.unusedVariables false
set_option linter.unusedSimpArgs false

/-!  -/
noncomputable section
namespace Go.Eng
def f33 (X : Int) : Int := (qQq (rdZ X 0) (qQq (rdZ X 1) (qQq (rdZ X 2) (qQq (rdZ X 3) (qQq (rdZ X 4) (qQq (rdZ X 5) (qQq (rdZ X 6) (qQq (rdZ X 7) (qQq (rdZ X 8) (qQq (rdZ X 9) (qQq (rdZ X 10) (qQq (rdZ X 11) (qQq (rdZ X 12) (qQq (rdZ X 13) (qQq (rdZ X 14) (qQq (rdZ X 15) (qQq (rdZ X 16) (qQq (rdZ X 17) (qQq (rdZ X 18) (qQq (rdZ X 19) (qQq (rdZ X 20) (qQq (rdZ X 21) (qQq (rdZ X 22) (qQq (rdZ X 23) (qQq (rdZ X 24) (qQq (rdZ X 25) (qQq (rdZ X 26) (qQq (rdZ X 27) (qQq (rdZ X 28) (qQq (rdZ X 29) (qQq (rdZ X 30) (qQq (rdZ X 31) (qQq (rdZ X 32) 0)))))))))))))))))))))))))))))))))
theorem ch6 (a b c d e f : Int) : (rdZ (qQq a (qQq b (qQq c (qQq d (qQq e (qQq f 0)))))) 0 = a ∧ rdZ (qQq a (qQq b (qQq c (qQq d (qQq e (qQq f 0)))))) 1 = b ∧ rdZ (qQq a (qQq b (qQq c (qQq d (qQq e (qQq f 0)))))) 2 = c) ∧
  rdZ (qQq a (qQq b (qQq c (qQq d (qQq e (qQq f 0)))))) 3 = d ∧ rdZ (qQq a (qQq b (qQq c (qQq d (qQq e (qQq f 0)))))) 4 = e ∧ rdZ (qQq a (qQq b (qQq c (qQq d (qQq e (qQq f 0)))))) 5 = f := by
 have h := rd_chn [a, b, c, d, e, f]
 exact ⟨⟨h 0, h 1, h 2⟩, h 3, h 4, h 5⟩
end Go.Eng
end
