/-
  Templates of functions of numbers, group Fb, each by one run of the engine. Printed by program.
-/
import Derived.Test.YtjooaieolphomaaGreatTmI
import Derived.Test.YtjooaieolphomaaGreatPlV
set_option linter.unusedVariables false
set_option linter.unusedSimpArgs false
namespace Go.Proofs.YtjooaieolphomaaGreat
open Go.Eng Go.RowKit
def tmsFb : List Tm := [
  ⟨51, .none, [.int .i32 (.v 0)], (.int .i32 (.b .shr .i32 (.v 0) (.c 31)))⟩,
  ⟨52, .none, [.int .i32 (.v 0), .int .i32 (.v 1)], (.int .i32 (.w .i32 (.b .psub .i64 (.b .xor .i32 (.v 0) (.v 1)) (.v 1))))⟩,
  ⟨53, .none, [.int .i32 (.v 0), .int .i32 (.v 1)], (.int .i32 (.b .shr .i32 (.v 0) (.b .and .i32 (.v 1) (.c 31))))⟩,
  ⟨54, .none, [.int .i32 (.v 0)], (.int .i32 (.b .shr .i32 (.v 0) (.c 31)))⟩,
  ⟨59, .none, [.int .i32 (.v 0), .int .i32 (.v 1)], (.int .i32 (.b .max .i64 (.v 0) (.v 1)))⟩,
  ⟨60, .none, [.int .i32 (.v 0), .int .i32 (.v 1)], (.int .i32 (.b .min .i64 (.v 0) (.v 1)))⟩,
  ⟨66, .none, [.int .i32 (.v 0)], (.int .i32 (.b .min .i64 (.b .psub .i64 (.c 0) (.v 0)) (.c 2147483647)))⟩,
  ⟨58, .none, [.int .i32 (.v 0)], (.int .i32 (.b .max .i64 (.v 0) (.b .min .i64 (.b .psub .i64 (.c 0) (.v 0)) (.c 2147483647))))⟩]
theorem tmFb0 (n : Nat) (l : List (Int × Int)) : TmplOk (cxOf n l) 51 .none [.int .i32 (.v 0)] (.int .i32 (.b .shr .i32 (.v 0) (.c 31))) :=
  tmpl_n (n := 0) (tmpl_one (cx := cxOf 0 l) (runOf_ok (smI_ok) 0 (SV.bdsL [.int .i32 (.v 0)])) (by kernel_rfl))
theorem tmFb1 (n : Nat) (l : List (Int × Int)) : TmplOk (cxOf n l) 52 .none [.int .i32 (.v 0), .int .i32 (.v 1)] (.int .i32 (.w .i32 (.b .psub .i64 (.b .xor .i32 (.v 0) (.v 1)) (.v 1)))) :=
  tmpl_n (n := 0) (tmpl_one (cx := cxOf 0 l) (runOf_ok (smI_ok) 0 (SV.bdsL [.int .i32 (.v 0), .int .i32 (.v 1)])) (by kernel_rfl))
theorem tmFb2 (n : Nat) (l : List (Int × Int)) : TmplOk (cxOf n l) 53 .none [.int .i32 (.v 0), .int .i32 (.v 1)] (.int .i32 (.b .shr .i32 (.v 0) (.b .and .i32 (.v 1) (.c 31)))) :=
  tmpl_n (n := 0) (tmpl_one (cx := cxOf 0 l) (runOf_ok (smI_ok) 0 (SV.bdsL [.int .i32 (.v 0), .int .i32 (.v 1)])) (by kernel_rfl))
theorem tmFb3 (n : Nat) (l : List (Int × Int)) : TmplOk (cxOf n l) 54 .none [.int .i32 (.v 0)] (.int .i32 (.b .shr .i32 (.v 0) (.c 31))) :=
  tmpl_n (n := 0) (tmpl_as (tmpl_one (cx := cxOf 0 l) (res := (.int .i32 (.ite (.b .lt .i64 (.v 0) (.c 0)) (.c (-1)) (.c 0)))) (runOf_ok (smI_ok) 0 (SV.bdsL [.int .i32 (.v 0)])) (by kernel_rfl)) (fun ρ hρ => by have h0 := hρ.hi 0 _ rfl; exact congrArg (Value.int .i32) (sign_ref h0)))
theorem tmFb4 (n : Nat) (l : List (Int × Int)) : TmplOk (cxOf n l) 59 .none [.int .i32 (.v 0), .int .i32 (.v 1)] (.int .i32 (.b .max .i64 (.v 0) (.v 1))) :=
  tmpl_n (n := 0) (tmpl_as (tmpl_one (cx := cxOf 0 l) (res := (.int .i32 (.ite (.b .lt .i64 (.v 0) (.v 1)) (.v 1) (.v 0)))) (runOf_ok (smI_ok) 0 (SV.bdsL [.int .i32 (.v 0), .int .i32 (.v 1)])) (by kernel_rfl)) (fun ρ hρ => by exact congrArg (Value.int .i32) (max_ref _ _)))
theorem tmFb5 (n : Nat) (l : List (Int × Int)) : TmplOk (cxOf n l) 60 .none [.int .i32 (.v 0), .int .i32 (.v 1)] (.int .i32 (.b .min .i64 (.v 0) (.v 1))) :=
  tmpl_n (n := 0) (tmpl_as (tmpl_one (cx := cxOf 0 l) (res := (.int .i32 (.ite (.b .lt .i64 (.v 0) (.v 1)) (.v 0) (.v 1)))) (runOf_ok (smI_ok) 0 (SV.bdsL [.int .i32 (.v 0), .int .i32 (.v 1)])) (by kernel_rfl)) (fun ρ hρ => by exact congrArg (Value.int .i32) (min_ref _ _)))
theorem tmFb6 (n : Nat) (l : List (Int × Int)) : TmplOk (cxOf n l) 66 .none [.int .i32 (.v 0)] (.int .i32 (.b .min .i64 (.b .psub .i64 (.c 0) (.v 0)) (.c 2147483647))) :=
  tmpl_n (n := 0) (tmpl_one (cx := cxOf 0 l) (runOf_ok (smI_ok) 0 (SV.bdsL [.int .i32 (.v 0)])) (by kernel_rfl))
theorem tmFb7 (n : Nat) (l : List (Int × Int)) : TmplOk (cxOf n l) 58 .none [.int .i32 (.v 0)] (.int .i32 (.b .max .i64 (.v 0) (.b .min .i64 (.b .psub .i64 (.c 0) (.v 0)) (.c 2147483647)))) :=
  tmpl_n (n := 0) (tmpl_as (tmpl_one (cx := cxOf 0 l) (res := (.int .i32 (.ite (.b .lt .i64 (.v 0) (.c 0)) (.b .min .i64 (.b .psub .i64 (.c 0) (.v 0)) (.c 2147483647)) (.v 0)))) (runOf_ok (smI_ok) 0 (SV.bdsL [.int .i32 (.v 0)])) (by kernel_rfl)) (fun ρ hρ => by have h0 := hρ.hi 0 _ rfl; exact congrArg (Value.int .i32) (abs_ref h0)))
theorem tmsFb_ok (n : Nat) (l : List (Int × Int)) : TmsOk (cxOf n l) tmsFb := tms_cons (by kernel_rfl) (tmFb0 n l) (tms_cons (by kernel_rfl) (tmFb1 n l) (tms_cons (by kernel_rfl) (tmFb2 n l) (tms_cons (by kernel_rfl) (tmFb3 n l) (tms_cons (by kernel_rfl) (tmFb4 n l) (tms_cons (by kernel_rfl) (tmFb5 n l) (tms_cons (by kernel_rfl) (tmFb6 n l) (tms_cons (by kernel_rfl) (tmFb7 n l) (tms_nil _))))))))
noncomputable def smFb (n : Nat) (l : List (Int × Int)) : SM := smOr (smOf (toldT (cxOf n l) tmsFb)) (smI n l)
theorem smFb_ok (n : Nat) (l : List (Int × Int)) : SmOk (cxOf n l) (smFb n l) := smOr_ok (smOf_ok (toldT_ok (tmsFb_ok n l))) (smI_ok n l)
end Go.Proofs.YtjooaieolphomaaGreat
