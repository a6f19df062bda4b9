/-
  Templates of functions of numbers, group W, each by one run of the engine. Printed by program.
-/
import Derived.Test.YtjooaieolphomaaBase
set_option linter.unusedVariables false
set_option linter.unusedSimpArgs false
namespace Go.Proofs.Ytjooaieolphomaa
open Go.Eng Go.RowKit
def tmsW : List Tm := [
  ⟨77, (.some 79), [.int .i32 (.v 0)], (.int .i32 (.b .psub .i64 (.c 32) (.f 0 (.w .u32 (.v 0)) (.c 0) (.c 0))))⟩,
  ⟨94, (.some 79), [.int .i32 (.v 0)], (.int .i32 (.b .max .i64 (.v 0) (.b .min .i64 (.b .psub .i64 (.c 0) (.v 0)) (.c 2147483647))))⟩,
  ⟨100, (.some 79), [.int .i32 (.v 0)], (.int .i32 (.b .shr .i32 (.v 0) (.c 31)))⟩,
  ⟨105, (.some 79), [.int .i32 (.v 0)], (.int .i32 (.b .min .i64 (.b .psub .i64 (.c 0) (.v 0)) (.c 2147483647)))⟩,
  ⟨78, (.some 79), [.int .i32 (.v 0), .int .i32 (.v 1)], (.int .i32 (.w .i32 (.b .shr .u32 (.w .u32 (.v 0)) (.b .and .i32 (.v 1) (.c 31)))))⟩,
  ⟨79, (.some 79), [.int .i32 (.v 0), .int .i32 (.v 1)], (.int .i32 (.w .i32 (.b .shl .u32 (.w .u32 (.v 0)) (.b .and .i32 (.v 1) (.c 31)))))⟩,
  ⟨80, (.some 79), [.int .i32 (.v 0), .int .i32 (.v 1)], (.int .i32 (.b .min .i64 (.b .max .i64 (.b .psub .i64 (.v 0) (.v 1)) (.c (-2147483648))) (.c 2147483647)))⟩,
  ⟨84, (.some 79), [.int .i32 (.v 0), .int .i32 (.v 1)], (.int .i32 (.b .min .i64 (.b .max .i64 (.b .padd .i64 (.v 0) (.v 1)) (.c (-2147483648))) (.c 2147483647)))⟩,
  ⟨85, (.some 79), [.int .i32 (.v 0), .int .i32 (.v 1)], (.int .i32 (.w .i32 (.b .psub .i64 (.v 0) (.v 1))))⟩,
  ⟨101, (.some 79), [.int .i32 (.v 0), .int .i32 (.v 1)], (.int .i32 (.w .i32 (.b .padd .i64 (.v 0) (.v 1))))⟩,
  ⟨91, (.some 79), [.int .i32 (.v 0), .int .i32 (.v 1)], (.int .i32 (.b .and .i32 (.v 0) (.v 1)))⟩,
  ⟨117, (.some 79), [.int .i32 (.v 0), .int .i32 (.v 1)], (.int .i32 (.b .or .i32 (.v 0) (.v 1)))⟩,
  ⟨116, (.some 79), [.int .i32 (.v 0), .int .i32 (.v 1)], (.int .i32 (.b .xor .i32 (.v 0) (.v 1)))⟩,
  ⟨118, (.some 79), [.int .i32 (.v 0), .int .i32 (.v 1)], (.int .i32 (.b .andNot .i32 (.v 0) (.v 1)))⟩,
  ⟨95, (.some 79), [.int .i32 (.v 0), .int .i32 (.v 1)], (.int .i32 (.b .max .i64 (.v 0) (.v 1)))⟩,
  ⟨97, (.some 79), [.int .i32 (.v 0), .int .i32 (.v 1)], (.int .i32 (.b .min .i64 (.v 0) (.v 1)))⟩,
  ⟨103, (.some 79), [.int .i32 (.v 0), .int .i32 (.v 1)], (.int .i32 (.b .shr .i32 (.v 0) (.b .and .i32 (.v 1) (.c 31))))⟩,
  ⟨106, (.some 79), [.int .i32 (.v 0), .int .i32 (.v 1)], (.int .i32 (.ite (.b .lt .i64 (.v 0) (.v 1)) (.c 1) (.c 0)))⟩,
  ⟨104, (.some 79), [.int .i32 (.v 0), .int .i32 (.v 1), .int .i32 (.v 2)], (.int .i32 (.b .or .i32 (.b .and .i32 (.v 1) (.v 0)) (.b .andNot .i32 (.v 2) (.v 0))))⟩,
  ⟨83, (.some 79), [.int .i32 (.v 0), .int .i32 (.v 1)], (.int .i32 (.f 1 (.v 0) (.v 1) (.c 0)))⟩,
  ⟨140, (.some 1000000), [.int .i32 (.v 0)], (.int .i32 (.v 0))⟩,
  ⟨82, (.some 79), [.int .i32 (.v 0), .int .i32 (.v 1)], (.int .i32 (.w .i32 (.b .shl .u32 (.w .u32 (.v 0)) (.b .and .i32 (.v 1) (.c 31)))))⟩,
  ⟨93, (.some 79), [.int .i32 (.v 0), .int .i32 (.v 1)], (.int .i32 (.b .shr .i32 (.v 0) (.b .and .i32 (.v 1) (.c 31))))⟩]
theorem tmW0 (n : Nat) (l : List (Int × Int)) : TmplOk (cxOf n l) 77 (.some 79) [.int .i32 (.v 0)] (.int .i32 (.b .psub .i64 (.c 32) (.f 0 (.w .u32 (.v 0)) (.c 0) (.c 0)))) :=
  tmpl_n (n := 0) (tmpl_one (cx := cxOf 0 l) (runOf_ok (smB_ok) 0 (SV.bdsL [.int .i32 (.v 0)])) (by kernel_rfl))
theorem tmW1 (n : Nat) (l : List (Int × Int)) : TmplOk (cxOf n l) 94 (.some 79) [.int .i32 (.v 0)] (.int .i32 (.b .max .i64 (.v 0) (.b .min .i64 (.b .psub .i64 (.c 0) (.v 0)) (.c 2147483647)))) :=
  tmpl_n (n := 0) (tmpl_one (cx := cxOf 0 l) (runOf_ok (smB_ok) 0 (SV.bdsL [.int .i32 (.v 0)])) (by kernel_rfl))
theorem tmW2 (n : Nat) (l : List (Int × Int)) : TmplOk (cxOf n l) 100 (.some 79) [.int .i32 (.v 0)] (.int .i32 (.b .shr .i32 (.v 0) (.c 31))) :=
  tmpl_n (n := 0) (tmpl_one (cx := cxOf 0 l) (runOf_ok (smB_ok) 0 (SV.bdsL [.int .i32 (.v 0)])) (by kernel_rfl))
theorem tmW3 (n : Nat) (l : List (Int × Int)) : TmplOk (cxOf n l) 105 (.some 79) [.int .i32 (.v 0)] (.int .i32 (.b .min .i64 (.b .psub .i64 (.c 0) (.v 0)) (.c 2147483647))) :=
  tmpl_n (n := 0) (tmpl_one (cx := cxOf 0 l) (runOf_ok (smB_ok) 0 (SV.bdsL [.int .i32 (.v 0)])) (by kernel_rfl))
theorem tmW4 (n : Nat) (l : List (Int × Int)) : TmplOk (cxOf n l) 78 (.some 79) [.int .i32 (.v 0), .int .i32 (.v 1)] (.int .i32 (.w .i32 (.b .shr .u32 (.w .u32 (.v 0)) (.b .and .i32 (.v 1) (.c 31))))) :=
  tmpl_n (n := 0) (tmpl_one (cx := cxOf 0 l) (runOf_ok (smB_ok) 0 (SV.bdsL [.int .i32 (.v 0), .int .i32 (.v 1)])) (by kernel_rfl))
theorem tmW5 (n : Nat) (l : List (Int × Int)) : TmplOk (cxOf n l) 79 (.some 79) [.int .i32 (.v 0), .int .i32 (.v 1)] (.int .i32 (.w .i32 (.b .shl .u32 (.w .u32 (.v 0)) (.b .and .i32 (.v 1) (.c 31))))) :=
  tmpl_n (n := 0) (tmpl_one (cx := cxOf 0 l) (runOf_ok (smB_ok) 0 (SV.bdsL [.int .i32 (.v 0), .int .i32 (.v 1)])) (by kernel_rfl))
theorem tmW6 (n : Nat) (l : List (Int × Int)) : TmplOk (cxOf n l) 80 (.some 79) [.int .i32 (.v 0), .int .i32 (.v 1)] (.int .i32 (.b .min .i64 (.b .max .i64 (.b .psub .i64 (.v 0) (.v 1)) (.c (-2147483648))) (.c 2147483647))) :=
  tmpl_n (n := 0) (tmpl_one (cx := cxOf 0 l) (runOf_ok (smB_ok) 0 (SV.bdsL [.int .i32 (.v 0), .int .i32 (.v 1)])) (by kernel_rfl))
theorem tmW7 (n : Nat) (l : List (Int × Int)) : TmplOk (cxOf n l) 84 (.some 79) [.int .i32 (.v 0), .int .i32 (.v 1)] (.int .i32 (.b .min .i64 (.b .max .i64 (.b .padd .i64 (.v 0) (.v 1)) (.c (-2147483648))) (.c 2147483647))) :=
  tmpl_n (n := 0) (tmpl_one (cx := cxOf 0 l) (runOf_ok (smB_ok) 0 (SV.bdsL [.int .i32 (.v 0), .int .i32 (.v 1)])) (by kernel_rfl))
theorem tmW8 (n : Nat) (l : List (Int × Int)) : TmplOk (cxOf n l) 85 (.some 79) [.int .i32 (.v 0), .int .i32 (.v 1)] (.int .i32 (.w .i32 (.b .psub .i64 (.v 0) (.v 1)))) :=
  tmpl_n (n := 0) (tmpl_one (cx := cxOf 0 l) (runOf_ok (smB_ok) 0 (SV.bdsL [.int .i32 (.v 0), .int .i32 (.v 1)])) (by kernel_rfl))
theorem tmW9 (n : Nat) (l : List (Int × Int)) : TmplOk (cxOf n l) 101 (.some 79) [.int .i32 (.v 0), .int .i32 (.v 1)] (.int .i32 (.w .i32 (.b .padd .i64 (.v 0) (.v 1)))) :=
  tmpl_n (n := 0) (tmpl_one (cx := cxOf 0 l) (runOf_ok (smB_ok) 0 (SV.bdsL [.int .i32 (.v 0), .int .i32 (.v 1)])) (by kernel_rfl))
theorem tmW10 (n : Nat) (l : List (Int × Int)) : TmplOk (cxOf n l) 91 (.some 79) [.int .i32 (.v 0), .int .i32 (.v 1)] (.int .i32 (.b .and .i32 (.v 0) (.v 1))) :=
  tmpl_n (n := 0) (tmpl_one (cx := cxOf 0 l) (runOf_ok (smB_ok) 0 (SV.bdsL [.int .i32 (.v 0), .int .i32 (.v 1)])) (by kernel_rfl))
theorem tmW11 (n : Nat) (l : List (Int × Int)) : TmplOk (cxOf n l) 117 (.some 79) [.int .i32 (.v 0), .int .i32 (.v 1)] (.int .i32 (.b .or .i32 (.v 0) (.v 1))) :=
  tmpl_n (n := 0) (tmpl_one (cx := cxOf 0 l) (runOf_ok (smB_ok) 0 (SV.bdsL [.int .i32 (.v 0), .int .i32 (.v 1)])) (by kernel_rfl))
theorem tmW12 (n : Nat) (l : List (Int × Int)) : TmplOk (cxOf n l) 116 (.some 79) [.int .i32 (.v 0), .int .i32 (.v 1)] (.int .i32 (.b .xor .i32 (.v 0) (.v 1))) :=
  tmpl_n (n := 0) (tmpl_one (cx := cxOf 0 l) (runOf_ok (smB_ok) 0 (SV.bdsL [.int .i32 (.v 0), .int .i32 (.v 1)])) (by kernel_rfl))
theorem tmW13 (n : Nat) (l : List (Int × Int)) : TmplOk (cxOf n l) 118 (.some 79) [.int .i32 (.v 0), .int .i32 (.v 1)] (.int .i32 (.b .andNot .i32 (.v 0) (.v 1))) :=
  tmpl_n (n := 0) (tmpl_one (cx := cxOf 0 l) (runOf_ok (smB_ok) 0 (SV.bdsL [.int .i32 (.v 0), .int .i32 (.v 1)])) (by kernel_rfl))
theorem tmW14 (n : Nat) (l : List (Int × Int)) : TmplOk (cxOf n l) 95 (.some 79) [.int .i32 (.v 0), .int .i32 (.v 1)] (.int .i32 (.b .max .i64 (.v 0) (.v 1))) :=
  tmpl_n (n := 0) (tmpl_one (cx := cxOf 0 l) (runOf_ok (smB_ok) 0 (SV.bdsL [.int .i32 (.v 0), .int .i32 (.v 1)])) (by kernel_rfl))
theorem tmW15 (n : Nat) (l : List (Int × Int)) : TmplOk (cxOf n l) 97 (.some 79) [.int .i32 (.v 0), .int .i32 (.v 1)] (.int .i32 (.b .min .i64 (.v 0) (.v 1))) :=
  tmpl_n (n := 0) (tmpl_one (cx := cxOf 0 l) (runOf_ok (smB_ok) 0 (SV.bdsL [.int .i32 (.v 0), .int .i32 (.v 1)])) (by kernel_rfl))
theorem tmW16 (n : Nat) (l : List (Int × Int)) : TmplOk (cxOf n l) 103 (.some 79) [.int .i32 (.v 0), .int .i32 (.v 1)] (.int .i32 (.b .shr .i32 (.v 0) (.b .and .i32 (.v 1) (.c 31)))) :=
  tmpl_n (n := 0) (tmpl_one (cx := cxOf 0 l) (runOf_ok (smB_ok) 0 (SV.bdsL [.int .i32 (.v 0), .int .i32 (.v 1)])) (by kernel_rfl))
theorem tmW17 (n : Nat) (l : List (Int × Int)) : TmplOk (cxOf n l) 106 (.some 79) [.int .i32 (.v 0), .int .i32 (.v 1)] (.int .i32 (.ite (.b .lt .i64 (.v 0) (.v 1)) (.c 1) (.c 0))) :=
  tmpl_n (n := 0) (tmpl_one (cx := cxOf 0 l) (runOf_ok (smB_ok) 0 (SV.bdsL [.int .i32 (.v 0), .int .i32 (.v 1)])) (by kernel_rfl))
theorem tmW18 (n : Nat) (l : List (Int × Int)) : TmplOk (cxOf n l) 104 (.some 79) [.int .i32 (.v 0), .int .i32 (.v 1), .int .i32 (.v 2)] (.int .i32 (.b .or .i32 (.b .and .i32 (.v 1) (.v 0)) (.b .andNot .i32 (.v 2) (.v 0)))) :=
  tmpl_n (n := 0) (tmpl_one (cx := cxOf 0 l) (runOf_ok (smB_ok) 0 (SV.bdsL [.int .i32 (.v 0), .int .i32 (.v 1), .int .i32 (.v 2)])) (by kernel_rfl))
theorem tmW19 (n : Nat) (l : List (Int × Int)) : TmplOk (cxOf n l) 83 (.some 79) [.int .i32 (.v 0), .int .i32 (.v 1)] (.int .i32 (.f 1 (.v 0) (.v 1) (.c 0))) :=
  tmpl_n (n := 0) (tmpl_as (tmpl_one (cx := cxOf 0 l) (res := (.int .i32 (.b .min .i64 (.b .max .i64 (.b .padd .i64 (.b .shr .i64 (.b .pmul .i64 (.v 0) (.v 1)) (.c 30)) (.b .and .i64 (.b .shr .i64 (.b .pmul .i64 (.v 0) (.v 1)) (.c 29)) (.c 1))) (.c (-2147483648))) (.c 2147483647)))) (runOf_ok (smB_ok) 0 (SV.bdsL [.int .i32 (.v 0), .int .i32 (.v 1)])) (by kernel_rfl)) (fun ρ hρ => by simp only [SV.den, E.ev, hρ.hF, cxOf, fN]; rfl))
theorem tmW20 (n : Nat) (l : List (Int × Int)) : TmplOk (cxOf n l) 140 (.some 1000000) [.int .i32 (.v 0)] (.int .i32 (.v 0)) :=
  tmpl_n (n := 0) (tmpl_one (cx := cxOf 0 l) (runOf_ok (smB_ok) 0 (SV.bdsL [.int .i32 (.v 0)])) (by kernel_rfl))
theorem tmW21 (n : Nat) (l : List (Int × Int)) : TmplOk (cxOf n l) 82 (.some 79) [.int .i32 (.v 0), .int .i32 (.v 1)] (.int .i32 (.w .i32 (.b .shl .u32 (.w .u32 (.v 0)) (.b .and .i32 (.v 1) (.c 31))))) :=
  tmpl_n (n := 0) (tmpl_one (cx := cxOf 0 l) (runOf_ok (smB_ok) 0 (SV.bdsL [.int .i32 (.v 0), .int .i32 (.v 1)])) (by kernel_rfl))
theorem tmW22 (n : Nat) (l : List (Int × Int)) : TmplOk (cxOf n l) 93 (.some 79) [.int .i32 (.v 0), .int .i32 (.v 1)] (.int .i32 (.b .shr .i32 (.v 0) (.b .and .i32 (.v 1) (.c 31)))) :=
  tmpl_n (n := 0) (tmpl_one (cx := cxOf 0 l) (runOf_ok (smB_ok) 0 (SV.bdsL [.int .i32 (.v 0), .int .i32 (.v 1)])) (by kernel_rfl))
theorem tmsW_ok (n : Nat) (l : List (Int × Int)) : TmsOk (cxOf n l) tmsW := tms_cons (by kernel_rfl) (tmW0 n l) (tms_cons (by kernel_rfl) (tmW1 n l) (tms_cons (by kernel_rfl) (tmW2 n l) (tms_cons (by kernel_rfl) (tmW3 n l) (tms_cons (by kernel_rfl) (tmW4 n l) (tms_cons (by kernel_rfl) (tmW5 n l) (tms_cons (by kernel_rfl) (tmW6 n l) (tms_cons (by kernel_rfl) (tmW7 n l) (tms_cons (by kernel_rfl) (tmW8 n l) (tms_cons (by kernel_rfl) (tmW9 n l) (tms_cons (by kernel_rfl) (tmW10 n l) (tms_cons (by kernel_rfl) (tmW11 n l) (tms_cons (by kernel_rfl) (tmW12 n l) (tms_cons (by kernel_rfl) (tmW13 n l) (tms_cons (by kernel_rfl) (tmW14 n l) (tms_cons (by kernel_rfl) (tmW15 n l) (tms_cons (by kernel_rfl) (tmW16 n l) (tms_cons (by kernel_rfl) (tmW17 n l) (tms_cons (by kernel_rfl) (tmW18 n l) (tms_cons (by kernel_rfl) (tmW19 n l) (tms_cons (by kernel_rfl) (tmW20 n l) (tms_cons (by kernel_rfl) (tmW21 n l) (tms_cons (by kernel_rfl) (tmW22 n l) (tms_nil _)))))))))))))))))))))))
noncomputable def smW (n : Nat) (l : List (Int × Int)) : SM := smOr (smOf (toldT (cxOf n l) tmsW)) (smB n l)
theorem smW_ok (n : Nat) (l : List (Int × Int)) : SmOk (cxOf n l) (smW n l) := smOr_ok (smOf_ok (toldT_ok (tmsW_ok n l))) (smB_ok n l)
end Go.Proofs.Ytjooaieolphomaa
