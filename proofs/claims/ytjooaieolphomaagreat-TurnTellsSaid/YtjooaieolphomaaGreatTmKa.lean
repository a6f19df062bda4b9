/-
  The reference's flip. Printed by program.
-/
import Derived.Test.YtjooaieolphomaaGreatTmJ
import Derived.Test.YtjooaieolphomaaGreatPlV
set_option linter.unusedVariables false
set_option linter.unusedSimpArgs false
namespace Go.Proofs.YtjooaieolphomaaGreat
open Go.Eng Go.RowKit
theorem flipT (n : Nat) (l : List (Int × Int)) : TmplOk (cxOf n l) 56 .none [.int .i32 (.v 0), .int .i32 (.v 1)] flipR :=
  tmpl_n (n := 0) (tmpl_as (tmpl_one (cx := cxOf 0 l) (res := .int .i32 (flipX (cxOf 0 (SV.bdsL [.int .i32 (.v 0), .int .i32 (.v 1)])))) (runOf_ok smJ_ok 0 (SV.bdsL [.int .i32 (.v 0), .int .i32 (.v 1)])) (by kernel_rfl)) (fun ρ hρ => flip_res (cx := cxOf 0 (SV.bdsL [.int .i32 (.v 0), .int .i32 (.v 1)])) hρ hρ.hF (hρ.hi 0 _ rfl) (hρ.hi 1 _ rfl)))
def tmsKa : List Tm := [⟨56, .none, [.int .i32 (.v 0), .int .i32 (.v 1)], flipR⟩]
theorem tmsKa_ok (n : Nat) (l : List (Int × Int)) : TmsOk (cxOf n l) tmsKa := tms_cons (by kernel_rfl) (flipT n l) (tms_nil _)
noncomputable def smKa (n : Nat) (l : List (Int × Int)) : SM := smOr (smOf (toldT (cxOf n l) tmsKa)) (smJ n l)
theorem smKa_ok (n : Nat) (l : List (Int × Int)) : SmOk (cxOf n l) (smKa n l) := smOr_ok (smOf_ok (toldT_ok (tmsKa_ok n l))) (smJ_ok n l)
end Go.Proofs.YtjooaieolphomaaGreat
