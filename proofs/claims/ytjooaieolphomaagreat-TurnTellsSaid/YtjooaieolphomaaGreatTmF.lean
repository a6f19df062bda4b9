/-
  Templates of functions of numbers, group F, each by one run of the engine. Printed by program.
-/
import Derived.Test.YtjooaieolphomaaGreatTmAa
import Derived.Test.YtjooaieolphomaaGreatPlS
set_option linter.unusedVariables false
set_option linter.unusedSimpArgs false
namespace Go.Proofs.YtjooaieolphomaaGreat
open Go.Eng Go.RowKit
def tmsF : List Tm := [
  ⟨112, .none, [.int .i32 (.v 0)], (.int .i64 (.w .u32 (.v 0)))⟩,
  ⟨55, .none, [.int .i64 (.v 0)], (.int .i32 (.w .i32 (.v 0)))⟩,
  ⟨89, .none, [.int .i64 (.v 0)], (.int .i32 (.b .min .i64 (.b .max .i64 (.v 0) (.c (-2147483648))) (.c 2147483647)))⟩]
theorem tmF0 (n : Nat) (l : List (Int × Int)) : TmplOk (cxOf n l) 112 .none [.int .i32 (.v 0)] (.int .i64 (.w .u32 (.v 0))) :=
  tmpl_n (n := 0) (tmpl_as (tmpl_one (cx := cxOf 0 l) (res := (.int .i64 (.ite (.b .lt .i64 (.b .rem .i64 (.v 0) (.c 4294967296)) (.c 0)) (.b .padd .i64 (.b .rem .i64 (.v 0) (.c 4294967296)) (.c 4294967296)) (.b .rem .i64 (.v 0) (.c 4294967296))))) (runOf_ok (smAa_ok) 0 (SV.bdsL [.int .i32 (.v 0)])) (by kernel_rfl)) (fun ρ hρ => by exact congrArg (Value.int .i64) ((ite01 _ _ _).trans ((mod32 _).trans (wu32 _).symm))))
theorem tmF1 (n : Nat) (l : List (Int × Int)) : TmplOk (cxOf n l) 55 .none [.int .i64 (.v 0)] (.int .i32 (.w .i32 (.v 0))) :=
  tmpl_n (n := 0) (tmpl_as (tmpl_one (cx := cxOf 0 l) (res := (.int .i32 (.ite (.b .lt .i64 (.b .rem .i64 (.v 0) (.c 4294967296)) (.c 0)) (.ite (.b .le .i64 (.c 2147483648) (.b .padd .i64 (.b .rem .i64 (.v 0) (.c 4294967296)) (.c 4294967296))) (.w .i32 (.b .psub .i64 (.b .padd .i64 (.b .rem .i64 (.v 0) (.c 4294967296)) (.c 4294967296)) (.c 4294967296))) (.w .i32 (.b .padd .i64 (.b .rem .i64 (.v 0) (.c 4294967296)) (.c 4294967296)))) (.ite (.b .le .i64 (.c 2147483648) (.b .rem .i64 (.v 0) (.c 4294967296))) (.w .i32 (.b .psub .i64 (.b .rem .i64 (.v 0) (.c 4294967296)) (.c 4294967296))) (.w .i32 (.b .rem .i64 (.v 0) (.c 4294967296))))))) (runOf_ok (smAa_ok) 0 (SV.bdsL [.int .i64 (.v 0)])) (by kernel_rfl)) (fun ρ hρ => by exact congrArg (Value.int .i32) (low_ref _)))
theorem tmF2 (n : Nat) (l : List (Int × Int)) : TmplOk (cxOf n l) 89 .none [.int .i64 (.v 0)] (.int .i32 (.b .min .i64 (.b .max .i64 (.v 0) (.c (-2147483648))) (.c 2147483647))) :=
  tmpl_n (n := 0) (tmpl_as (tmpl_one (cx := cxOf 0 l) (res := (.int .i32 (.ite (.b .lt .i64 (.v 0) (.c (-2147483648))) (.c (-2147483648)) (.ite (.b .lt .i64 (.c 2147483647) (.v 0)) (.c 2147483647) (.w .i32 (.v 0)))))) (runOf_ok (smAa_ok) 0 (SV.bdsL [.int .i64 (.v 0)])) (by kernel_rfl)) (fun ρ hρ => by exact congrArg (Value.int .i32) (sat_ref _)))
theorem tmsF_ok (n : Nat) (l : List (Int × Int)) : TmsOk (cxOf n l) tmsF := tms_cons (by kernel_rfl) (tmF0 n l) (tms_cons (by kernel_rfl) (tmF1 n l) (tms_cons (by kernel_rfl) (tmF2 n l) (tms_nil _)))
noncomputable def smF (n : Nat) (l : List (Int × Int)) : SM := smOr (smOf (toldT (cxOf n l) tmsF)) (smAa n l)
theorem smF_ok (n : Nat) (l : List (Int × Int)) : SmOk (cxOf n l) (smF n l) := smOr_ok (smOf_ok (toldT_ok (tmsF_ok n l))) (smAa_ok n l)
end Go.Proofs.YtjooaieolphomaaGreat
