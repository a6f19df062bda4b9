/-
  Templates of functions of numbers, group Fb, each by one run of the engine. Printed by program.
-/
import Derived.Test.YtjooaieolphomaaGreatDoorFmI
import Derived.Test.YtjooaieolphomaaGreatDoorEu5
set_option linter.unusedVariables false
set_option linter.unusedSimpArgs false
namespace Go.Proofs.YtjooaieolphomaaGreatDoor
open Go.Eng Go.RowKit
def tmsFb : List Tm := [
  ⟨100, .none, [.int .i32 (.v 0)], (.int .i32 (.b .shr .i32 (.v 0) (.c 31)))⟩,
  ⟨13, .none, [.int .i32 (.v 0), .int .i32 (.v 1)], (.int .i32 (.b .shr .i32 (.v 0) (.b .and .i32 (.v 1) (.c 31))))⟩,
  ⟨45, .none, [.int .i32 (.v 0)], (.int .i32 (.b .shr .i32 (.v 0) (.c 31)))⟩,
  ⟨59, .none, [.int .i32 (.v 0), .int .i32 (.v 1)], (.int .i32 (.b .max .i64 (.v 0) (.v 1)))⟩,
  ⟨58, .none, [.int .i32 (.v 0), .int .i32 (.v 1)], (.int .i32 (.b .min .i64 (.v 0) (.v 1)))⟩,
  ⟨42, .none, [.int .i32 (.v 0)], (.int .i32 (.b .min .i64 (.b .psub .i64 (.c 0) (.v 0)) (.c 2147483647)))⟩,
  ⟨43, .none, [.int .i32 (.v 0)], (.int .i32 (.b .max .i64 (.v 0) (.b .min .i64 (.b .psub .i64 (.c 0) (.v 0)) (.c 2147483647))))⟩]
theorem tmFb0 (n : Nat) (l : List (Int × Int)) (ins : List InD) : TmplOk (cxOf n l ins) 100 .none [.int .i32 (.v 0)] (.int .i32 (.b .shr .i32 (.v 0) (.c 31))) :=
  tmpl_n (n := 0) (tmpl_one (cx := cxOf 0 l []) (runC_ok smI_ok 0 (SV.bdsL [.int .i32 (.v 0)]) []) (by kernel_rfl))
theorem tmFb1 (n : Nat) (l : List (Int × Int)) (ins : List InD) : TmplOk (cxOf n l ins) 13 .none [.int .i32 (.v 0), .int .i32 (.v 1)] (.int .i32 (.b .shr .i32 (.v 0) (.b .and .i32 (.v 1) (.c 31)))) :=
  tmpl_n (n := 0) (tmpl_one (cx := cxOf 0 l []) (runC_ok smI_ok 0 (SV.bdsL [.int .i32 (.v 0), .int .i32 (.v 1)]) []) (by kernel_rfl))
theorem tmFb2 (n : Nat) (l : List (Int × Int)) (ins : List InD) : TmplOk (cxOf n l ins) 45 .none [.int .i32 (.v 0)] (.int .i32 (.b .shr .i32 (.v 0) (.c 31))) :=
  tmpl_n (n := 0) (tmpl_as (tmpl_one (cx := cxOf 0 l []) (res := (.int .i32 (.ite (.b .lt .i64 (.v 0) (.c 0)) (.c (-1)) (.c 0)))) (runC_ok smI_ok 0 (SV.bdsL [.int .i32 (.v 0)]) []) (by kernel_rfl)) (fun ρ hρ => by have h0 := hρ.hi 0 _ rfl; exact congrArg (Value.int .i32) (sign_ref h0)))
theorem tmFb3 (n : Nat) (l : List (Int × Int)) (ins : List InD) : TmplOk (cxOf n l ins) 59 .none [.int .i32 (.v 0), .int .i32 (.v 1)] (.int .i32 (.b .max .i64 (.v 0) (.v 1))) :=
  tmpl_n (n := 0) (tmpl_as (tmpl_one (cx := cxOf 0 l []) (res := (.int .i32 (.ite (.b .lt .i64 (.v 0) (.v 1)) (.v 1) (.v 0)))) (runC_ok smI_ok 0 (SV.bdsL [.int .i32 (.v 0), .int .i32 (.v 1)]) []) (by kernel_rfl)) (fun ρ hρ => by exact congrArg (Value.int .i32) (max_ref _ _)))
theorem tmFb4 (n : Nat) (l : List (Int × Int)) (ins : List InD) : TmplOk (cxOf n l ins) 58 .none [.int .i32 (.v 0), .int .i32 (.v 1)] (.int .i32 (.b .min .i64 (.v 0) (.v 1))) :=
  tmpl_n (n := 0) (tmpl_as (tmpl_one (cx := cxOf 0 l []) (res := (.int .i32 (.ite (.b .lt .i64 (.v 0) (.v 1)) (.v 0) (.v 1)))) (runC_ok smI_ok 0 (SV.bdsL [.int .i32 (.v 0), .int .i32 (.v 1)]) []) (by kernel_rfl)) (fun ρ hρ => by exact congrArg (Value.int .i32) (min_ref _ _)))
theorem tmFb5 (n : Nat) (l : List (Int × Int)) (ins : List InD) : TmplOk (cxOf n l ins) 42 .none [.int .i32 (.v 0)] (.int .i32 (.b .min .i64 (.b .psub .i64 (.c 0) (.v 0)) (.c 2147483647))) :=
  tmpl_n (n := 0) (tmpl_one (cx := cxOf 0 l []) (runC_ok smI_ok 0 (SV.bdsL [.int .i32 (.v 0)]) []) (by kernel_rfl))
theorem tmFb6 (n : Nat) (l : List (Int × Int)) (ins : List InD) : TmplOk (cxOf n l ins) 43 .none [.int .i32 (.v 0)] (.int .i32 (.b .max .i64 (.v 0) (.b .min .i64 (.b .psub .i64 (.c 0) (.v 0)) (.c 2147483647)))) :=
  tmpl_n (n := 0) (tmpl_as (tmpl_one (cx := cxOf 0 l []) (res := (.int .i32 (.ite (.b .lt .i64 (.v 0) (.c 0)) (.b .min .i64 (.b .psub .i64 (.c 0) (.v 0)) (.c 2147483647)) (.v 0)))) (runC_ok smI_ok 0 (SV.bdsL [.int .i32 (.v 0)]) []) (by kernel_rfl)) (fun ρ hρ => by have h0 := hρ.hi 0 _ rfl; exact congrArg (Value.int .i32) (abs_ref h0)))
theorem tmsFb_ok (n : Nat) (l : List (Int × Int)) (ins : List InD) : TmsOk (cxOf n l ins) tmsFb := tms_cons (by kernel_rfl) (tmFb0 n l ins) (tms_cons (by kernel_rfl) (tmFb1 n l ins) (tms_cons (by kernel_rfl) (tmFb2 n l ins) (tms_cons (by kernel_rfl) (tmFb3 n l ins) (tms_cons (by kernel_rfl) (tmFb4 n l ins) (tms_cons (by kernel_rfl) (tmFb5 n l ins) (tms_cons (by kernel_rfl) (tmFb6 n l ins) (tms_nil _)))))))
noncomputable def smFb (n : Nat) (l : List (Int × Int)) (ins : List InD) : SM := smOr (smOf (toldT (cxOf n l ins) tmsFb)) (smI n l ins)
theorem smFb_ok (n : Nat) (l : List (Int × Int)) (ins : List InD) : SmOk (cxOf n l ins) (smFb n l ins) := smOr_ok (smOf_ok (toldT_ok (tmsFb_ok n l ins))) (smI_ok n l ins)
end Go.Proofs.YtjooaieolphomaaGreatDoor
