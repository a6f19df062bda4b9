/-
  Templates of functions of numbers, group W, each by one run of the engine. Printed by program.
-/
import Derived.Test.YtjooaieolphomaaBase
set_option linter.unusedVariables false
set_option linter.unusedSimpArgs false
namespace Go.Proofs.Ytjooaieolphomaa
open Go.Eng Go.RowKit
def tmsW : List Tm := [
  ⟨77, (.some 79), [.int .i32 (.v 0)], (.int .i32 (.b .psub .i64 (.c 32) (.f 0 (.w .u32 (.v 0)) (.c 0) (.c 0))))⟩,
  ⟨94, (.some 79), [.int .i32 (.v 0)], (.int .i32 (.b .max .i64 (.v 0) (.b .min .i64 (.b .max .i64 (.b .padd .i64 (.c 0) (.b .psub .i64 (.c 0) (.v 0))) (.c (-2147483648))) (.c 2147483647))))⟩,
  ⟨100, (.some 79), [.int .i32 (.v 0)], (.int .i32 (.b .shr .i32 (.v 0) (.c 31)))⟩,
  ⟨105, (.some 79), [.int .i32 (.v 0)], (.int .i32 (.b .min .i64 (.b .max .i64 (.b .padd .i64 (.c 0) (.b .psub .i64 (.c 0) (.v 0))) (.c (-2147483648))) (.c 2147483647)))⟩,
  ⟨78, (.some 79), [.int .i32 (.v 0), .int .i32 (.v 1)], (.int .i32 (.w .i32 (.b .shr .u32 (.w .u32 (.v 0)) (.b .and .i32 (.v 1) (.c 31)))))⟩,
  ⟨79, (.some 79), [.int .i32 (.v 0), .int .i32 (.v 1)], (.int .i32 (.w .i32 (.b .shl .u32 (.w .u32 (.v 0)) (.b .and .i32 (.v 1) (.c 31)))))⟩,
  ⟨80, (.some 79), [.int .i32 (.v 0), .int .i32 (.v 1)], (.int .i32 (.b .min .i64 (.b .max .i64 (.b .padd .i64 (.b .padd .i64 (.c 0) (.v 0)) (.b .psub .i64 (.c 0) (.v 1))) (.c (-2147483648))) (.c 2147483647)))⟩,
  ⟨84, (.some 79), [.int .i32 (.v 0), .int .i32 (.v 1)], (.int .i32 (.b .min .i64 (.b .max .i64 (.b .padd .i64 (.b .padd .i64 (.c 0) (.v 0)) (.v 1)) (.c (-2147483648))) (.c 2147483647)))⟩,
  ⟨85, (.some 79), [.int .i32 (.v 0), .int .i32 (.v 1)], (.int .i32 (.w .i32 (.b .psub .i64 (.v 0) (.v 1))))⟩,
  ⟨101, (.some 79), [.int .i32 (.v 0), .int .i32 (.v 1)], (.int .i32 (.w .i32 (.b .padd .i64 (.v 0) (.v 1))))⟩,
  ⟨91, (.some 79), [.int .i32 (.v 0), .int .i32 (.v 1)], (.int .i32 (.b .and .i32 (.v 0) (.v 1)))⟩,
  ⟨117, (.some 79), [.int .i32 (.v 0), .int .i32 (.v 1)], (.int .i32 (.b .or .i32 (.v 0) (.v 1)))⟩,
  ⟨116, (.some 79), [.int .i32 (.v 0), .int .i32 (.v 1)], (.int .i32 (.b .xor .i32 (.v 0) (.v 1)))⟩,
  ⟨118, (.some 79), [.int .i32 (.v 0), .int .i32 (.v 1)], (.int .i32 (.b .andNot .i32 (.v 0) (.v 1)))⟩,
  ⟨95, (.some 79), [.int .i32 (.v 0), .int .i32 (.v 1)], (.int .i32 (.b .max .i64 (.v 0) (.v 1)))⟩,
  ⟨97, (.some 79), [.int .i32 (.v 0), .int .i32 (.v 1)], (.int .i32 (.b .min .i64 (.v 0) (.v 1)))⟩,
  ⟨103, (.some 79), [.int .i32 (.v 0), .int .i32 (.v 1)], (.int .i32 (.b .shr .i32 (.v 0) (.b .and .i32 (.v 1) (.c 31))))⟩,
  ⟨106, (.some 79), [.int .i32 (.v 0), .int .i32 (.v 1)], (.int .i32 (.ite (.b .lt .i64 (.v 0) (.v 1)) (.c 1) (.c 0)))⟩,
  ⟨104, (.some 79), [.int .i32 (.v 0), .int .i32 (.v 1), .int .i32 (.v 2)], (.int .i32 (.b .or .i32 (.b .and .i32 (.v 1) (.v 0)) (.b .andNot .i32 (.v 2) (.v 0))))⟩,
  ⟨83, (.some 79), [.int .i32 (.v 0), .int .i32 (.v 1)], (.int .i32 (.f 1 (.v 0) (.v 1) (.c 0)))⟩]
theorem tmW0 (l : List (Int × Int)) : TmplOk (cxOf l) 77 (.some 79) [.int .i32 (.v 0)] (.int .i32 (.b .psub .i64 (.c 32) (.f 0 (.w .u32 (.v 0)) (.c 0) (.c 0)))) :=
  tmpl_one (cx := cxOf l) (run_ok (SV.bdsL [.int .i32 (.v 0)])) (by kernel_rfl)
theorem tmW1 (l : List (Int × Int)) : TmplOk (cxOf l) 94 (.some 79) [.int .i32 (.v 0)] (.int .i32 (.b .max .i64 (.v 0) (.b .min .i64 (.b .max .i64 (.b .padd .i64 (.c 0) (.b .psub .i64 (.c 0) (.v 0))) (.c (-2147483648))) (.c 2147483647)))) :=
  tmpl_one (cx := cxOf l) (run_ok (SV.bdsL [.int .i32 (.v 0)])) (by kernel_rfl)
theorem tmW2 (l : List (Int × Int)) : TmplOk (cxOf l) 100 (.some 79) [.int .i32 (.v 0)] (.int .i32 (.b .shr .i32 (.v 0) (.c 31))) :=
  tmpl_one (cx := cxOf l) (run_ok (SV.bdsL [.int .i32 (.v 0)])) (by kernel_rfl)
theorem tmW3 (l : List (Int × Int)) : TmplOk (cxOf l) 105 (.some 79) [.int .i32 (.v 0)] (.int .i32 (.b .min .i64 (.b .max .i64 (.b .padd .i64 (.c 0) (.b .psub .i64 (.c 0) (.v 0))) (.c (-2147483648))) (.c 2147483647))) :=
  tmpl_one (cx := cxOf l) (run_ok (SV.bdsL [.int .i32 (.v 0)])) (by kernel_rfl)
theorem tmW4 (l : List (Int × Int)) : TmplOk (cxOf l) 78 (.some 79) [.int .i32 (.v 0), .int .i32 (.v 1)] (.int .i32 (.w .i32 (.b .shr .u32 (.w .u32 (.v 0)) (.b .and .i32 (.v 1) (.c 31))))) :=
  tmpl_one (cx := cxOf l) (run_ok (SV.bdsL [.int .i32 (.v 0), .int .i32 (.v 1)])) (by kernel_rfl)
theorem tmW5 (l : List (Int × Int)) : TmplOk (cxOf l) 79 (.some 79) [.int .i32 (.v 0), .int .i32 (.v 1)] (.int .i32 (.w .i32 (.b .shl .u32 (.w .u32 (.v 0)) (.b .and .i32 (.v 1) (.c 31))))) :=
  tmpl_one (cx := cxOf l) (run_ok (SV.bdsL [.int .i32 (.v 0), .int .i32 (.v 1)])) (by kernel_rfl)
theorem tmW6 (l : List (Int × Int)) : TmplOk (cxOf l) 80 (.some 79) [.int .i32 (.v 0), .int .i32 (.v 1)] (.int .i32 (.b .min .i64 (.b .max .i64 (.b .padd .i64 (.b .padd .i64 (.c 0) (.v 0)) (.b .psub .i64 (.c 0) (.v 1))) (.c (-2147483648))) (.c 2147483647))) :=
  tmpl_one (cx := cxOf l) (run_ok (SV.bdsL [.int .i32 (.v 0), .int .i32 (.v 1)])) (by kernel_rfl)
theorem tmW7 (l : List (Int × Int)) : TmplOk (cxOf l) 84 (.some 79) [.int .i32 (.v 0), .int .i32 (.v 1)] (.int .i32 (.b .min .i64 (.b .max .i64 (.b .padd .i64 (.b .padd .i64 (.c 0) (.v 0)) (.v 1)) (.c (-2147483648))) (.c 2147483647))) :=
  tmpl_one (cx := cxOf l) (run_ok (SV.bdsL [.int .i32 (.v 0), .int .i32 (.v 1)])) (by kernel_rfl)
theorem tmW8 (l : List (Int × Int)) : TmplOk (cxOf l) 85 (.some 79) [.int .i32 (.v 0), .int .i32 (.v 1)] (.int .i32 (.w .i32 (.b .psub .i64 (.v 0) (.v 1)))) :=
  tmpl_one (cx := cxOf l) (run_ok (SV.bdsL [.int .i32 (.v 0), .int .i32 (.v 1)])) (by kernel_rfl)
theorem tmW9 (l : List (Int × Int)) : TmplOk (cxOf l) 101 (.some 79) [.int .i32 (.v 0), .int .i32 (.v 1)] (.int .i32 (.w .i32 (.b .padd .i64 (.v 0) (.v 1)))) :=
  tmpl_one (cx := cxOf l) (run_ok (SV.bdsL [.int .i32 (.v 0), .int .i32 (.v 1)])) (by kernel_rfl)
theorem tmW10 (l : List (Int × Int)) : TmplOk (cxOf l) 91 (.some 79) [.int .i32 (.v 0), .int .i32 (.v 1)] (.int .i32 (.b .and .i32 (.v 0) (.v 1))) :=
  tmpl_one (cx := cxOf l) (run_ok (SV.bdsL [.int .i32 (.v 0), .int .i32 (.v 1)])) (by kernel_rfl)
theorem tmW11 (l : List (Int × Int)) : TmplOk (cxOf l) 117 (.some 79) [.int .i32 (.v 0), .int .i32 (.v 1)] (.int .i32 (.b .or .i32 (.v 0) (.v 1))) :=
  tmpl_one (cx := cxOf l) (run_ok (SV.bdsL [.int .i32 (.v 0), .int .i32 (.v 1)])) (by kernel_rfl)
theorem tmW12 (l : List (Int × Int)) : TmplOk (cxOf l) 116 (.some 79) [.int .i32 (.v 0), .int .i32 (.v 1)] (.int .i32 (.b .xor .i32 (.v 0) (.v 1))) :=
  tmpl_one (cx := cxOf l) (run_ok (SV.bdsL [.int .i32 (.v 0), .int .i32 (.v 1)])) (by kernel_rfl)
theorem tmW13 (l : List (Int × Int)) : TmplOk (cxOf l) 118 (.some 79) [.int .i32 (.v 0), .int .i32 (.v 1)] (.int .i32 (.b .andNot .i32 (.v 0) (.v 1))) :=
  tmpl_one (cx := cxOf l) (run_ok (SV.bdsL [.int .i32 (.v 0), .int .i32 (.v 1)])) (by kernel_rfl)
theorem tmW14 (l : List (Int × Int)) : TmplOk (cxOf l) 95 (.some 79) [.int .i32 (.v 0), .int .i32 (.v 1)] (.int .i32 (.b .max .i64 (.v 0) (.v 1))) :=
  tmpl_one (cx := cxOf l) (run_ok (SV.bdsL [.int .i32 (.v 0), .int .i32 (.v 1)])) (by kernel_rfl)
theorem tmW15 (l : List (Int × Int)) : TmplOk (cxOf l) 97 (.some 79) [.int .i32 (.v 0), .int .i32 (.v 1)] (.int .i32 (.b .min .i64 (.v 0) (.v 1))) :=
  tmpl_one (cx := cxOf l) (run_ok (SV.bdsL [.int .i32 (.v 0), .int .i32 (.v 1)])) (by kernel_rfl)
theorem tmW16 (l : List (Int × Int)) : TmplOk (cxOf l) 103 (.some 79) [.int .i32 (.v 0), .int .i32 (.v 1)] (.int .i32 (.b .shr .i32 (.v 0) (.b .and .i32 (.v 1) (.c 31)))) :=
  tmpl_one (cx := cxOf l) (run_ok (SV.bdsL [.int .i32 (.v 0), .int .i32 (.v 1)])) (by kernel_rfl)
theorem tmW17 (l : List (Int × Int)) : TmplOk (cxOf l) 106 (.some 79) [.int .i32 (.v 0), .int .i32 (.v 1)] (.int .i32 (.ite (.b .lt .i64 (.v 0) (.v 1)) (.c 1) (.c 0))) :=
  tmpl_one (cx := cxOf l) (run_ok (SV.bdsL [.int .i32 (.v 0), .int .i32 (.v 1)])) (by kernel_rfl)
theorem tmW18 (l : List (Int × Int)) : TmplOk (cxOf l) 104 (.some 79) [.int .i32 (.v 0), .int .i32 (.v 1), .int .i32 (.v 2)] (.int .i32 (.b .or .i32 (.b .and .i32 (.v 1) (.v 0)) (.b .andNot .i32 (.v 2) (.v 0)))) :=
  tmpl_one (cx := cxOf l) (run_ok (SV.bdsL [.int .i32 (.v 0), .int .i32 (.v 1), .int .i32 (.v 2)])) (by kernel_rfl)
theorem tmW19 (l : List (Int × Int)) : TmplOk (cxOf l) 83 (.some 79) [.int .i32 (.v 0), .int .i32 (.v 1)] (.int .i32 (.f 1 (.v 0) (.v 1) (.c 0))) :=
  tmpl_as (tmpl_one (cx := cxOf l) (res := (.int .i32 (.b .min .i64 (.b .max .i64 (.b .padd .i64 (.b .shr .i64 (.b .pmul .i64 (.v 0) (.v 1)) (.c 30)) (.b .and .i64 (.b .shr .i64 (.b .pmul .i64 (.v 0) (.v 1)) (.c 29)) (.c 1))) (.c (-2147483648))) (.c 2147483647)))) (run_ok (SV.bdsL [.int .i32 (.v 0), .int .i32 (.v 1)])) (by kernel_rfl)) (fun ρ hρ => by simp only [SV.den, E.ev, hρ.hF, cxOf, fN]; rfl)
theorem tmsW_ok (l : List (Int × Int)) : TmsOk (cxOf l) tmsW := tms_cons (by kernel_rfl) (tmW0 l) (tms_cons (by kernel_rfl) (tmW1 l) (tms_cons (by kernel_rfl) (tmW2 l) (tms_cons (by kernel_rfl) (tmW3 l) (tms_cons (by kernel_rfl) (tmW4 l) (tms_cons (by kernel_rfl) (tmW5 l) (tms_cons (by kernel_rfl) (tmW6 l) (tms_cons (by kernel_rfl) (tmW7 l) (tms_cons (by kernel_rfl) (tmW8 l) (tms_cons (by kernel_rfl) (tmW9 l) (tms_cons (by kernel_rfl) (tmW10 l) (tms_cons (by kernel_rfl) (tmW11 l) (tms_cons (by kernel_rfl) (tmW12 l) (tms_cons (by kernel_rfl) (tmW13 l) (tms_cons (by kernel_rfl) (tmW14 l) (tms_cons (by kernel_rfl) (tmW15 l) (tms_cons (by kernel_rfl) (tmW16 l) (tms_cons (by kernel_rfl) (tmW17 l) (tms_cons (by kernel_rfl) (tmW18 l) (tms_cons (by kernel_rfl) (tmW19 l) (tms_nil _))))))))))))))))))))
noncomputable def toldW (l : List (Int × Int)) : Eng.Told := toldT (cxOf l) tmsW ++ toldB l
theorem toldW_ok (l : List (Int × Int)) : ToldOk (cxOf l) (toldW l) := told_app (toldT_ok (tmsW_ok l)) (toldB_ok l)
noncomputable def runW (l : List (Int × Int)) : CF := execFn (cxOf l) (smOf (toldW l)) (fun _ _ => .none) 40 30
theorem runW_ok (l : List (Int × Int)) : CallOk (cxOf l) (runW l) := execFn_ok (cxOf_ok l) (smOf_ok (toldW_ok l)) (xok_none _) _
end Go.Proofs.Ytjooaieolphomaa
