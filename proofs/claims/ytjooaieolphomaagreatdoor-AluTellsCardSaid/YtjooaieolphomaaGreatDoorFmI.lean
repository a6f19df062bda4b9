/-
  The reference's shift down. Printed by program.
-/
import Derived.Test.YtjooaieolphomaaGreatDoorFmH
import Derived.Test.YtjooaieolphomaaGreatDoorEu5
set_option linter.unusedVariables false
set_option linter.unusedSimpArgs false
namespace Go.Proofs.YtjooaieolphomaaGreatDoor
open Go.Eng Go.RowKit
theorem kI0 : isI32 (runK 0 53 [.int .i32 (.v 0), .int .i32 (nE 0)] ⟨[], []⟩) (shrX (cxOf 0 gam []) 0) = true := by kernel_rfl
theorem kI1 : isI32 (runK 1 53 [.int .i32 (.v 0), .int .i32 (nE 1)] ⟨[], []⟩) (shrX (cxOf 0 gam []) 1) = true := by kernel_rfl
theorem kI2 : isI32 (runK 2 53 [.int .i32 (.v 0), .int .i32 (nE 2)] ⟨[], []⟩) (shrX (cxOf 0 gam []) 2) = true := by kernel_rfl
theorem kI3 : isI32 (runK 3 53 [.int .i32 (.v 0), .int .i32 (nE 3)] ⟨[], []⟩) (shrX (cxOf 0 gam []) 3) = true := by kernel_rfl
theorem kI4 : isI32 (runK 4 53 [.int .i32 (.v 0), .int .i32 (nE 4)] ⟨[], []⟩) (shrX (cxOf 0 gam []) 4) = true := by kernel_rfl
theorem kI5 : isI32 (runK 5 53 [.int .i32 (.v 0), .int .i32 (nE 5)] ⟨[], []⟩) (shrX (cxOf 0 gam []) 5) = true := by kernel_rfl
theorem kI6 : isI32 (runK 6 53 [.int .i32 (.v 0), .int .i32 (nE 6)] ⟨[], []⟩) (shrX (cxOf 0 gam []) 6) = true := by kernel_rfl
theorem kI7 : isI32 (runK 7 53 [.int .i32 (.v 0), .int .i32 (nE 7)] ⟨[], []⟩) (shrX (cxOf 0 gam []) 7) = true := by kernel_rfl
theorem kI8 : isI32 (runK 8 53 [.int .i32 (.v 0), .int .i32 (nE 8)] ⟨[], []⟩) (shrX (cxOf 0 gam []) 8) = true := by kernel_rfl
theorem kI9 : isI32 (runK 9 53 [.int .i32 (.v 0), .int .i32 (nE 9)] ⟨[], []⟩) (shrX (cxOf 0 gam []) 9) = true := by kernel_rfl
theorem kI10 : isI32 (runK 10 53 [.int .i32 (.v 0), .int .i32 (nE 10)] ⟨[], []⟩) (shrX (cxOf 0 gam []) 10) = true := by kernel_rfl
theorem kI11 : isI32 (runK 11 53 [.int .i32 (.v 0), .int .i32 (nE 11)] ⟨[], []⟩) (shrX (cxOf 0 gam []) 11) = true := by kernel_rfl
theorem kI12 : isI32 (runK 12 53 [.int .i32 (.v 0), .int .i32 (nE 12)] ⟨[], []⟩) (shrX (cxOf 0 gam []) 12) = true := by kernel_rfl
theorem kI13 : isI32 (runK 13 53 [.int .i32 (.v 0), .int .i32 (nE 13)] ⟨[], []⟩) (shrX (cxOf 0 gam []) 13) = true := by kernel_rfl
theorem kI14 : isI32 (runK 14 53 [.int .i32 (.v 0), .int .i32 (nE 14)] ⟨[], []⟩) (shrX (cxOf 0 gam []) 14) = true := by kernel_rfl
theorem kI15 : isI32 (runK 15 53 [.int .i32 (.v 0), .int .i32 (nE 15)] ⟨[], []⟩) (shrX (cxOf 0 gam []) 15) = true := by kernel_rfl
theorem kI16 : isI32 (runK 16 53 [.int .i32 (.v 0), .int .i32 (nE 16)] ⟨[], []⟩) (shrX (cxOf 0 gam []) 16) = true := by kernel_rfl
theorem kI17 : isI32 (runK 17 53 [.int .i32 (.v 0), .int .i32 (nE 17)] ⟨[], []⟩) (shrX (cxOf 0 gam []) 17) = true := by kernel_rfl
theorem kI18 : isI32 (runK 18 53 [.int .i32 (.v 0), .int .i32 (nE 18)] ⟨[], []⟩) (shrX (cxOf 0 gam []) 18) = true := by kernel_rfl
theorem kI19 : isI32 (runK 19 53 [.int .i32 (.v 0), .int .i32 (nE 19)] ⟨[], []⟩) (shrX (cxOf 0 gam []) 19) = true := by kernel_rfl
theorem kI20 : isI32 (runK 20 53 [.int .i32 (.v 0), .int .i32 (nE 20)] ⟨[], []⟩) (shrX (cxOf 0 gam []) 20) = true := by kernel_rfl
theorem kI21 : isI32 (runK 21 53 [.int .i32 (.v 0), .int .i32 (nE 21)] ⟨[], []⟩) (shrX (cxOf 0 gam []) 21) = true := by kernel_rfl
theorem kI22 : isI32 (runK 22 53 [.int .i32 (.v 0), .int .i32 (nE 22)] ⟨[], []⟩) (shrX (cxOf 0 gam []) 22) = true := by kernel_rfl
theorem kI23 : isI32 (runK 23 53 [.int .i32 (.v 0), .int .i32 (nE 23)] ⟨[], []⟩) (shrX (cxOf 0 gam []) 23) = true := by kernel_rfl
theorem kI24 : isI32 (runK 24 53 [.int .i32 (.v 0), .int .i32 (nE 24)] ⟨[], []⟩) (shrX (cxOf 0 gam []) 24) = true := by kernel_rfl
theorem kI25 : isI32 (runK 25 53 [.int .i32 (.v 0), .int .i32 (nE 25)] ⟨[], []⟩) (shrX (cxOf 0 gam []) 25) = true := by kernel_rfl
theorem kI26 : isI32 (runK 26 53 [.int .i32 (.v 0), .int .i32 (nE 26)] ⟨[], []⟩) (shrX (cxOf 0 gam []) 26) = true := by kernel_rfl
theorem kI27 : isI32 (runK 27 53 [.int .i32 (.v 0), .int .i32 (nE 27)] ⟨[], []⟩) (shrX (cxOf 0 gam []) 27) = true := by kernel_rfl
theorem kI28 : isI32 (runK 28 53 [.int .i32 (.v 0), .int .i32 (nE 28)] ⟨[], []⟩) (shrX (cxOf 0 gam []) 28) = true := by kernel_rfl
theorem kI29 : isI32 (runK 29 53 [.int .i32 (.v 0), .int .i32 (nE 29)] ⟨[], []⟩) (shrX (cxOf 0 gam []) 29) = true := by kernel_rfl
theorem kI30 : isI32 (runK 30 53 [.int .i32 (.v 0), .int .i32 (nE 30)] ⟨[], []⟩) (shrX (cxOf 0 gam []) 30) = true := by kernel_rfl
theorem kI31 : isI32 (runK 31 53 [.int .i32 (.v 0), .int .i32 (nE 31)] ⟨[], []⟩) (shrX (cxOf 0 gam []) 31) = true := by kernel_rfl
theorem kI_all : ∀ k, k ≤ 31 → isI32 (runK k 53 [.int .i32 (.v 0), .int .i32 (nE k)] ⟨[], []⟩) (shrX (cxOf 0 gam []) k) = true
  | 0, _ => kI0
  | 1, _ => kI1
  | 2, _ => kI2
  | 3, _ => kI3
  | 4, _ => kI4
  | 5, _ => kI5
  | 6, _ => kI6
  | 7, _ => kI7
  | 8, _ => kI8
  | 9, _ => kI9
  | 10, _ => kI10
  | 11, _ => kI11
  | 12, _ => kI12
  | 13, _ => kI13
  | 14, _ => kI14
  | 15, _ => kI15
  | 16, _ => kI16
  | 17, _ => kI17
  | 18, _ => kI18
  | 19, _ => kI19
  | 20, _ => kI20
  | 21, _ => kI21
  | 22, _ => kI22
  | 23, _ => kI23
  | 24, _ => kI24
  | 25, _ => kI25
  | 26, _ => kI26
  | 27, _ => kI27
  | 28, _ => kI28
  | 29, _ => kI29
  | 30, _ => kI30
  | 31, _ => kI31
  | k + 32, h => absurd h (by omega)
theorem tI (n : Nat) (l : List (Int × Int)) (ins : List InD) : TmplOk (cxOf n l ins) 53 .none [.int .i32 (.v 0), .int .i32 (.v 1)] shrR :=
  tmpl_n (n := 0) (shift_tmpl (cx := cxOf 0 l []) (L := shrX (cxOf 0 gam [])) rfl runK_ok kI_all (fun ρ k hk hf hK h0 h0' h1 h1' hm => shr_res ρ k hk hf hK h0 h0' h1 h1' hm))
def tmsI : List Tm := [⟨53, .none, [.int .i32 (.v 0), .int .i32 (.v 1)], shrR⟩]
theorem tmsI_ok (n : Nat) (l : List (Int × Int)) (ins : List InD) : TmsOk (cxOf n l ins) tmsI := tms_cons (by kernel_rfl) (tI n l ins) (tms_nil _)
noncomputable def smI (n : Nat) (l : List (Int × Int)) (ins : List InD) : SM := smOr (smOf (toldT (cxOf n l ins) tmsI)) (smH n l ins)
theorem smI_ok (n : Nat) (l : List (Int × Int)) (ins : List InD) : SmOk (cxOf n l ins) (smI n l ins) := smOr_ok (smOf_ok (toldT_ok (tmsI_ok n l ins))) (smH_ok n l ins)
end Go.Proofs.YtjooaieolphomaaGreatDoor
