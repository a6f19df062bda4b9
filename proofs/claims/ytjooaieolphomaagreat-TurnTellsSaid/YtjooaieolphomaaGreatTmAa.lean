/-
  Templates of functions of numbers, group Aa, each by one run of the engine. Printed by program.
-/
import Derived.Test.YtjooaieolphomaaGreatTmR
set_option linter.unusedVariables false
set_option linter.unusedSimpArgs false
namespace Go.Proofs.YtjooaieolphomaaGreat
open Go.Eng Go.RowKit
def tmsAa : List Tm := [
  ⟨15, .none, [], (.bool (.c 1))⟩]
theorem tmAa0 (n : Nat) (l : List (Int × Int)) : TmplOk (cxOf n l) 15 .none [] (.bool (.c 1)) :=
  tmpl_n (n := 0) (tmpl_one (cx := cxOf 0 l) (runOf_ok (smR_ok) 0 (SV.bdsL [])) (by kernel_rfl))
theorem tmsAa_ok (n : Nat) (l : List (Int × Int)) : TmsOk (cxOf n l) tmsAa := tms_cons (by kernel_rfl) (tmAa0 n l) (tms_nil _)
noncomputable def smAa (n : Nat) (l : List (Int × Int)) : SM := smOr (smOf (toldT (cxOf n l) tmsAa)) (smR n l)
theorem smAa_ok (n : Nat) (l : List (Int × Int)) : SmOk (cxOf n l) (smAa n l) := smOr_ok (smOf_ok (toldT_ok (tmsAa_ok n l))) (smR_ok n l)
end Go.Proofs.YtjooaieolphomaaGreat
