/-
  Templates of functions of numbers, group V, each by one run of the engine. Printed by program.
-/
import Derived.Test.YtjooaieolphomaaTmW
set_option linter.unusedVariables false
set_option linter.unusedSimpArgs false
namespace Go.Proofs.Ytjooaieolphomaa
open Go.Eng Go.RowKit
def tmsV : List Tm := [
  ⟨102, (.some 79), [.int .i32 (.v 0), .int .i32 (.v 1)], (.int .i32 (.w .i32 (.b .psub .i64 (.b .xor .i32 (.v 0) (.v 1)) (.v 1))))⟩]
theorem tmV0 (n : Nat) (l : List (Int × Int)) : TmplOk (cxOf n l) 102 (.some 79) [.int .i32 (.v 0), .int .i32 (.v 1)] (.int .i32 (.w .i32 (.b .psub .i64 (.b .xor .i32 (.v 0) (.v 1)) (.v 1)))) :=
  tmpl_n (n := 0) (tmpl_one (cx := cxOf 0 l) (runOf_ok (smW_ok) 0 (SV.bdsL [.int .i32 (.v 0), .int .i32 (.v 1)])) (by kernel_rfl))
theorem tmsV_ok (n : Nat) (l : List (Int × Int)) : TmsOk (cxOf n l) tmsV := tms_cons (by kernel_rfl) (tmV0 n l) (tms_nil _)
noncomputable def smV (n : Nat) (l : List (Int × Int)) : SM := smOr (smOf (toldT (cxOf n l) tmsV)) (smW n l)
theorem smV_ok (n : Nat) (l : List (Int × Int)) : SmOk (cxOf n l) (smV n l) := smOr_ok (smOf_ok (toldT_ok (tmsV_ok n l))) (smW_ok n l)
end Go.Proofs.Ytjooaieolphomaa
