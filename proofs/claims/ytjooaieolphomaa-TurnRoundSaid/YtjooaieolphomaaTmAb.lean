/-
  Templates of functions of numbers, group Ab, each by one run of the engine. Printed by program.
-/
import Derived.Test.YtjooaieolphomaaTmT
set_option linter.unusedVariables false
set_option linter.unusedSimpArgs false
namespace Go.Proofs.Ytjooaieolphomaa
open Go.Eng Go.RowKit
def tmsAb : List Tm := [
  ⟨32, .none, [], (.bool (.c 1))⟩]
theorem tmAb0 (n : Nat) (l : List (Int × Int)) : TmplOk (cxOf n l) 32 .none [] (.bool (.c 1)) :=
  tmpl_n (n := 0) (tmpl_one (cx := cxOf 0 l) (runOf_ok (smT_ok) 0 (SV.bdsL [])) (by kernel_rfl))
theorem tmsAb_ok (n : Nat) (l : List (Int × Int)) : TmsOk (cxOf n l) tmsAb := tms_cons (by kernel_rfl) (tmAb0 n l) (tms_nil _)
noncomputable def smAb (n : Nat) (l : List (Int × Int)) : SM := smOr (smOf (toldT (cxOf n l) tmsAb)) (smT n l)
theorem smAb_ok (n : Nat) (l : List (Int × Int)) : SmOk (cxOf n l) (smAb n l) := smOr_ok (smOf_ok (toldT_ok (tmsAb_ok n l))) (smT_ok n l)
end Go.Proofs.Ytjooaieolphomaa
