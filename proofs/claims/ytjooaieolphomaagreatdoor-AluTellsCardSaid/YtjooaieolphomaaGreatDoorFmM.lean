/-
  The reference's number of bits, and its turn round. Printed by program.
-/
import Derived.Test.YtjooaieolphomaaGreatDoorFmMa
import Derived.Test.YtjooaieolphomaaGreatDoorFmMb
import Derived.Test.YtjooaieolphomaaGreatDoorFmMc
import Derived.Test.YtjooaieolphomaaGreatDoorEu5
import Derived.Test.YtjooaieolphomaaGreatDoorEu4
set_option linter.unusedVariables false
set_option linter.unusedSimpArgs false
namespace Go.Proofs.YtjooaieolphomaaGreatDoor
open Go.Eng Go.RowKit
theorem kM_all : ∀ k, k ≤ 31 → isI32 (runK k 54 [.int .i32 (.v 0), .int .i32 (nE k)] ⟨[], []⟩) (rolX (cxOf 0 gam []) k) = true
  | 0, _ => kM0
  | 1, _ => kM1
  | 2, _ => kM2
  | 3, _ => kM3
  | 4, _ => kM4
  | 5, _ => kM5
  | 6, _ => kM6
  | 7, _ => kM7
  | 8, _ => kM8
  | 9, _ => kM9
  | 10, _ => kM10
  | 11, _ => kM11
  | 12, _ => kM12
  | 13, _ => kM13
  | 14, _ => kM14
  | 15, _ => kM15
  | 16, _ => kM16
  | 17, _ => kM17
  | 18, _ => kM18
  | 19, _ => kM19
  | 20, _ => kM20
  | 21, _ => kM21
  | 22, _ => kM22
  | 23, _ => kM23
  | 24, _ => kM24
  | 25, _ => kM25
  | 26, _ => kM26
  | 27, _ => kM27
  | 28, _ => kM28
  | 29, _ => kM29
  | 30, _ => kM30
  | 31, _ => kM31
  | k + 32, h => absurd h (by omega)
theorem rolT (n : Nat) (l : List (Int × Int)) (ins : List InD) : TmplOk (cxOf n l ins) 54 .none [.int .i32 (.v 0), .int .i32 (.v 1)] rolR :=
  tmpl_n (n := 0) (l := []) (ins := []) (shift_tmpl (cx := cxOf 0 [] []) (L := rolX (cxOf 0 gam [])) rfl runK_ok kM_all (fun ρ k hk hf hK h0 h0' h1 h1' hm => rol_res ρ k hk hf hK h0 h0' h1 h1' hm))
def tmsM : List Tm := [⟨24, .none, [.int .i64 (.v 0)], bitsR⟩, ⟨54, .none, [.int .i32 (.v 0), .int .i32 (.v 1)], rolR⟩]
theorem tmsM_ok (n : Nat) (l : List (Int × Int)) (ins : List InD) : TmsOk (cxOf n l ins) tmsM := tms_cons (by kernel_rfl) (bitsT n l ins) (tms_cons (by kernel_rfl) (rolT n l ins) (tms_nil _))
noncomputable def smM (n : Nat) (l : List (Int × Int)) (ins : List InD) : SM := smOr (smOf (toldT (cxOf n l ins) tmsM)) (smJ n l ins)
theorem smM_ok (n : Nat) (l : List (Int × Int)) (ins : List InD) : SmOk (cxOf n l ins) (smM n l ins) := smOr_ok (smOf_ok (toldT_ok (tmsM_ok n l ins))) (smJ_ok n l ins)
end Go.Proofs.YtjooaieolphomaaGreatDoor
