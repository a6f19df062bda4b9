/-
  Templates of functions of numbers, group Fa, each by one run of the engine. Printed by program.
-/
import Derived.Test.YtjooaieolphomaaGreatTmF
set_option linter.unusedVariables false
set_option linter.unusedSimpArgs false
namespace Go.Proofs.YtjooaieolphomaaGreat
open Go.Eng Go.RowKit
def tmsFa : List Tm := [
  ⟨77, .none, [.int .i32 (.v 0)], (.int .i64 (.ite (.b .lt .i64 (.b .rem .i64 (.v 0) (.c 32)) (.c 0)) (.b .padd .i64 (.b .rem .i64 (.v 0) (.c 32)) (.c 32)) (.b .rem .i64 (.v 0) (.c 32))))⟩,
  ⟨46, .none, [.int .i32 (.v 0), .int .i32 (.v 1)], (.int .i32 (.b .min .i64 (.b .max .i64 (.b .padd .i64 (.v 0) (.v 1)) (.c (-2147483648))) (.c 2147483647)))⟩,
  ⟨44, .none, [.int .i32 (.v 0), .int .i32 (.v 1)], (.int .i32 (.b .min .i64 (.b .max .i64 (.b .psub .i64 (.v 0) (.v 1)) (.c (-2147483648))) (.c 2147483647)))⟩,
  ⟨45, .none, [.int .i32 (.v 0), .int .i32 (.v 1)], (.int .i32 (.f 1 (.v 0) (.v 1) (.c 0)))⟩,
  ⟨76, .none, [.int .i32 (.v 0)], (.agg resBits)⟩]
theorem tmFa0 (n : Nat) (l : List (Int × Int)) : TmplOk (cxOf n l) 77 .none [.int .i32 (.v 0)] (.int .i64 (.ite (.b .lt .i64 (.b .rem .i64 (.v 0) (.c 32)) (.c 0)) (.b .padd .i64 (.b .rem .i64 (.v 0) (.c 32)) (.c 32)) (.b .rem .i64 (.v 0) (.c 32)))) :=
  tmpl_n (n := 0) (tmpl_one (cx := cxOf 0 l) (runOf_ok (smF_ok) 0 (SV.bdsL [.int .i32 (.v 0)])) (by kernel_rfl))
theorem tmFa1 (n : Nat) (l : List (Int × Int)) : TmplOk (cxOf n l) 46 .none [.int .i32 (.v 0), .int .i32 (.v 1)] (.int .i32 (.b .min .i64 (.b .max .i64 (.b .padd .i64 (.v 0) (.v 1)) (.c (-2147483648))) (.c 2147483647))) :=
  tmpl_n (n := 0) (tmpl_one (cx := cxOf 0 l) (runOf_ok (smF_ok) 0 (SV.bdsL [.int .i32 (.v 0), .int .i32 (.v 1)])) (by kernel_rfl))
theorem tmFa2 (n : Nat) (l : List (Int × Int)) : TmplOk (cxOf n l) 44 .none [.int .i32 (.v 0), .int .i32 (.v 1)] (.int .i32 (.b .min .i64 (.b .max .i64 (.b .psub .i64 (.v 0) (.v 1)) (.c (-2147483648))) (.c 2147483647))) :=
  tmpl_n (n := 0) (tmpl_one (cx := cxOf 0 l) (runOf_ok (smF_ok) 0 (SV.bdsL [.int .i32 (.v 0), .int .i32 (.v 1)])) (by kernel_rfl))
theorem tmFa3 (n : Nat) (l : List (Int × Int)) : TmplOk (cxOf n l) 45 .none [.int .i32 (.v 0), .int .i32 (.v 1)] (.int .i32 (.f 1 (.v 0) (.v 1) (.c 0))) :=
  tmpl_n (n := 0) (tmpl_as (tmpl_one (cx := cxOf 0 l) (res := (.int .i32 (.ite (.b .lt .i64 (.b .rem .i64 (.b .pmul .i64 (.v 0) (.v 1)) (.c 1073741824)) (.c 0)) (.ite (.b .le .i64 (.c 536870912) (.b .padd .i64 (.b .rem .i64 (.b .pmul .i64 (.v 0) (.v 1)) (.c 1073741824)) (.c 1073741824))) (.b .min .i64 (.b .max .i64 (.w .i64 (.b .padd .i64 (.b .quo .i64 (.b .psub .i64 (.b .pmul .i64 (.v 0) (.v 1)) (.b .padd .i64 (.b .rem .i64 (.b .pmul .i64 (.v 0) (.v 1)) (.c 1073741824)) (.c 1073741824))) (.c 1073741824)) (.c 1))) (.c (-2147483648))) (.c 2147483647)) (.b .min .i64 (.b .max .i64 (.b .quo .i64 (.b .psub .i64 (.b .pmul .i64 (.v 0) (.v 1)) (.b .padd .i64 (.b .rem .i64 (.b .pmul .i64 (.v 0) (.v 1)) (.c 1073741824)) (.c 1073741824))) (.c 1073741824)) (.c (-2147483648))) (.c 2147483647))) (.ite (.b .le .i64 (.c 536870912) (.b .rem .i64 (.b .pmul .i64 (.v 0) (.v 1)) (.c 1073741824))) (.b .min .i64 (.b .max .i64 (.w .i64 (.b .padd .i64 (.b .quo .i64 (.b .psub .i64 (.b .pmul .i64 (.v 0) (.v 1)) (.b .rem .i64 (.b .pmul .i64 (.v 0) (.v 1)) (.c 1073741824))) (.c 1073741824)) (.c 1))) (.c (-2147483648))) (.c 2147483647)) (.b .min .i64 (.b .max .i64 (.b .quo .i64 (.b .psub .i64 (.b .pmul .i64 (.v 0) (.v 1)) (.b .rem .i64 (.b .pmul .i64 (.v 0) (.v 1)) (.c 1073741824))) (.c 1073741824)) (.c (-2147483648))) (.c 2147483647)))))) (runOf_ok (smF_ok) 0 (SV.bdsL [.int .i32 (.v 0), .int .i32 (.v 1)])) (by kernel_rfl)) (fun ρ hρ => by have h0 := hρ.hi 0 _ rfl; have h1 := hρ.hi 1 _ rfl; refine (congrArg (Value.int .i32) (mulq_ref2 h0 h1)).trans ?_; show _ = Value.int .i32 (ρ.f 1 (ρ.i 0) (ρ.i 1) 0); rw [hρ.hF]; rfl))
theorem tmFa4 (n : Nat) (l : List (Int × Int)) : TmplOk (cxOf n l) 76 .none [.int .i32 (.v 0)] (.agg resBits) :=
  tmpl_n (n := 0) (tmpl_as (tmpl_one (cx := cxOf 0 l) (res := (.agg mkBits)) (runOf_ok (smF_ok) 0 (SV.bdsL [.int .i32 (.v 0)])) (by kernel_rfl)) (fun ρ hρ => by exact bits_den ρ hρ.hF _))
theorem tmsFa_ok (n : Nat) (l : List (Int × Int)) : TmsOk (cxOf n l) tmsFa := tms_cons (by kernel_rfl) (tmFa0 n l) (tms_cons (by kernel_rfl) (tmFa1 n l) (tms_cons (by kernel_rfl) (tmFa2 n l) (tms_cons (by kernel_rfl) (tmFa3 n l) (tms_cons (by kernel_rfl) (tmFa4 n l) (tms_nil _)))))
noncomputable def smFa (n : Nat) (l : List (Int × Int)) : SM := smOr (smOf (toldT (cxOf n l) tmsFa)) (smF n l)
theorem smFa_ok (n : Nat) (l : List (Int × Int)) : SmOk (cxOf n l) (smFa n l) := smOr_ok (smOf_ok (toldT_ok (tmsFa_ok n l))) (smF_ok n l)
end Go.Proofs.YtjooaieolphomaaGreat
