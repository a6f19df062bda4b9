/-
  Templates of functions of numbers, group Ac, each by one run of the engine. Printed by program.
-/
import Derived.Test.YtjooaieolphomaaGreatTmU
set_option linter.unusedVariables false
set_option linter.unusedSimpArgs false
namespace Go.Proofs.YtjooaieolphomaaGreat
open Go.Eng Go.RowKit
def tmsAc : List Tm := [
  ⟨35, .none, [], (.bool (.c 1))⟩]
theorem tmAc0 (n : Nat) (l : List (Int × Int)) : TmplOk (cxOf n l) 35 .none [] (.bool (.c 1)) :=
  tmpl_n (n := 0) (tmpl_one (cx := cxOf 0 l) (runOf_ok (smU_ok) 0 (SV.bdsL [])) (by kernel_rfl))
theorem tmsAc_ok (n : Nat) (l : List (Int × Int)) : TmsOk (cxOf n l) tmsAc := tms_cons (by kernel_rfl) (tmAc0 n l) (tms_nil _)
noncomputable def smAc (n : Nat) (l : List (Int × Int)) : SM := smOr (smOf (toldT (cxOf n l) tmsAc)) (smU n l)
theorem smAc_ok (n : Nat) (l : List (Int × Int)) : SmOk (cxOf n l) (smAc n l) := smOr_ok (smOf_ok (toldT_ok (tmsAc_ok n l))) (smU_ok n l)
end Go.Proofs.YtjooaieolphomaaGreat
