/-
  The reference's shift up. Printed by program.
-/
import Derived.Test.YtjooaieolphomaaGreatDoorEu6
import Derived.Test.YtjooaieolphomaaGreatDoorEu5
set_option linter.unusedVariables false
set_option linter.unusedSimpArgs false
namespace Go.Proofs.YtjooaieolphomaaGreatDoor
open Go.Eng Go.RowKit
theorem kH0 : isI32 (runK 0 52 [.int .i32 (.v 0), .int .i32 (nE 0)] ⟨[], []⟩) (shlX (cxOf 0 gam []) 0) = true := by kernel_rfl
theorem kH1 : isI32 (runK 1 52 [.int .i32 (.v 0), .int .i32 (nE 1)] ⟨[], []⟩) (shlX (cxOf 0 gam []) 1) = true := by kernel_rfl
theorem kH2 : isI32 (runK 2 52 [.int .i32 (.v 0), .int .i32 (nE 2)] ⟨[], []⟩) (shlX (cxOf 0 gam []) 2) = true := by kernel_rfl
theorem kH3 : isI32 (runK 3 52 [.int .i32 (.v 0), .int .i32 (nE 3)] ⟨[], []⟩) (shlX (cxOf 0 gam []) 3) = true := by kernel_rfl
theorem kH4 : isI32 (runK 4 52 [.int .i32 (.v 0), .int .i32 (nE 4)] ⟨[], []⟩) (shlX (cxOf 0 gam []) 4) = true := by kernel_rfl
theorem kH5 : isI32 (runK 5 52 [.int .i32 (.v 0), .int .i32 (nE 5)] ⟨[], []⟩) (shlX (cxOf 0 gam []) 5) = true := by kernel_rfl
theorem kH6 : isI32 (runK 6 52 [.int .i32 (.v 0), .int .i32 (nE 6)] ⟨[], []⟩) (shlX (cxOf 0 gam []) 6) = true := by kernel_rfl
theorem kH7 : isI32 (runK 7 52 [.int .i32 (.v 0), .int .i32 (nE 7)] ⟨[], []⟩) (shlX (cxOf 0 gam []) 7) = true := by kernel_rfl
theorem kH8 : isI32 (runK 8 52 [.int .i32 (.v 0), .int .i32 (nE 8)] ⟨[], []⟩) (shlX (cxOf 0 gam []) 8) = true := by kernel_rfl
theorem kH9 : isI32 (runK 9 52 [.int .i32 (.v 0), .int .i32 (nE 9)] ⟨[], []⟩) (shlX (cxOf 0 gam []) 9) = true := by kernel_rfl
theorem kH10 : isI32 (runK 10 52 [.int .i32 (.v 0), .int .i32 (nE 10)] ⟨[], []⟩) (shlX (cxOf 0 gam []) 10) = true := by kernel_rfl
theorem kH11 : isI32 (runK 11 52 [.int .i32 (.v 0), .int .i32 (nE 11)] ⟨[], []⟩) (shlX (cxOf 0 gam []) 11) = true := by kernel_rfl
theorem kH12 : isI32 (runK 12 52 [.int .i32 (.v 0), .int .i32 (nE 12)] ⟨[], []⟩) (shlX (cxOf 0 gam []) 12) = true := by kernel_rfl
theorem kH13 : isI32 (runK 13 52 [.int .i32 (.v 0), .int .i32 (nE 13)] ⟨[], []⟩) (shlX (cxOf 0 gam []) 13) = true := by kernel_rfl
theorem kH14 : isI32 (runK 14 52 [.int .i32 (.v 0), .int .i32 (nE 14)] ⟨[], []⟩) (shlX (cxOf 0 gam []) 14) = true := by kernel_rfl
theorem kH15 : isI32 (runK 15 52 [.int .i32 (.v 0), .int .i32 (nE 15)] ⟨[], []⟩) (shlX (cxOf 0 gam []) 15) = true := by kernel_rfl
theorem kH16 : isI32 (runK 16 52 [.int .i32 (.v 0), .int .i32 (nE 16)] ⟨[], []⟩) (shlX (cxOf 0 gam []) 16) = true := by kernel_rfl
theorem kH17 : isI32 (runK 17 52 [.int .i32 (.v 0), .int .i32 (nE 17)] ⟨[], []⟩) (shlX (cxOf 0 gam []) 17) = true := by kernel_rfl
theorem kH18 : isI32 (runK 18 52 [.int .i32 (.v 0), .int .i32 (nE 18)] ⟨[], []⟩) (shlX (cxOf 0 gam []) 18) = true := by kernel_rfl
theorem kH19 : isI32 (runK 19 52 [.int .i32 (.v 0), .int .i32 (nE 19)] ⟨[], []⟩) (shlX (cxOf 0 gam []) 19) = true := by kernel_rfl
theorem kH20 : isI32 (runK 20 52 [.int .i32 (.v 0), .int .i32 (nE 20)] ⟨[], []⟩) (shlX (cxOf 0 gam []) 20) = true := by kernel_rfl
theorem kH21 : isI32 (runK 21 52 [.int .i32 (.v 0), .int .i32 (nE 21)] ⟨[], []⟩) (shlX (cxOf 0 gam []) 21) = true := by kernel_rfl
theorem kH22 : isI32 (runK 22 52 [.int .i32 (.v 0), .int .i32 (nE 22)] ⟨[], []⟩) (shlX (cxOf 0 gam []) 22) = true := by kernel_rfl
theorem kH23 : isI32 (runK 23 52 [.int .i32 (.v 0), .int .i32 (nE 23)] ⟨[], []⟩) (shlX (cxOf 0 gam []) 23) = true := by kernel_rfl
theorem kH24 : isI32 (runK 24 52 [.int .i32 (.v 0), .int .i32 (nE 24)] ⟨[], []⟩) (shlX (cxOf 0 gam []) 24) = true := by kernel_rfl
theorem kH25 : isI32 (runK 25 52 [.int .i32 (.v 0), .int .i32 (nE 25)] ⟨[], []⟩) (shlX (cxOf 0 gam []) 25) = true := by kernel_rfl
theorem kH26 : isI32 (runK 26 52 [.int .i32 (.v 0), .int .i32 (nE 26)] ⟨[], []⟩) (shlX (cxOf 0 gam []) 26) = true := by kernel_rfl
theorem kH27 : isI32 (runK 27 52 [.int .i32 (.v 0), .int .i32 (nE 27)] ⟨[], []⟩) (shlX (cxOf 0 gam []) 27) = true := by kernel_rfl
theorem kH28 : isI32 (runK 28 52 [.int .i32 (.v 0), .int .i32 (nE 28)] ⟨[], []⟩) (shlX (cxOf 0 gam []) 28) = true := by kernel_rfl
theorem kH29 : isI32 (runK 29 52 [.int .i32 (.v 0), .int .i32 (nE 29)] ⟨[], []⟩) (shlX (cxOf 0 gam []) 29) = true := by kernel_rfl
theorem kH30 : isI32 (runK 30 52 [.int .i32 (.v 0), .int .i32 (nE 30)] ⟨[], []⟩) (shlX (cxOf 0 gam []) 30) = true := by kernel_rfl
theorem kH31 : isI32 (runK 31 52 [.int .i32 (.v 0), .int .i32 (nE 31)] ⟨[], []⟩) (shlX (cxOf 0 gam []) 31) = true := by kernel_rfl
theorem kH_all : ∀ k, k ≤ 31 → isI32 (runK k 52 [.int .i32 (.v 0), .int .i32 (nE k)] ⟨[], []⟩) (shlX (cxOf 0 gam []) k) = true
  | 0, _ => kH0
  | 1, _ => kH1
  | 2, _ => kH2
  | 3, _ => kH3
  | 4, _ => kH4
  | 5, _ => kH5
  | 6, _ => kH6
  | 7, _ => kH7
  | 8, _ => kH8
  | 9, _ => kH9
  | 10, _ => kH10
  | 11, _ => kH11
  | 12, _ => kH12
  | 13, _ => kH13
  | 14, _ => kH14
  | 15, _ => kH15
  | 16, _ => kH16
  | 17, _ => kH17
  | 18, _ => kH18
  | 19, _ => kH19
  | 20, _ => kH20
  | 21, _ => kH21
  | 22, _ => kH22
  | 23, _ => kH23
  | 24, _ => kH24
  | 25, _ => kH25
  | 26, _ => kH26
  | 27, _ => kH27
  | 28, _ => kH28
  | 29, _ => kH29
  | 30, _ => kH30
  | 31, _ => kH31
  | k + 32, h => absurd h (by omega)
theorem tH (n : Nat) (l : List (Int × Int)) (ins : List InD) : TmplOk (cxOf n l ins) 52 .none [.int .i32 (.v 0), .int .i32 (.v 1)] shlR :=
  tmpl_n (n := 0) (shift_tmpl (cx := cxOf 0 l []) (L := shlX (cxOf 0 gam [])) rfl runK_ok kH_all (fun ρ k hk hf hK h0 h0' h1 h1' hm => shl_res ρ k hk hf hK h0 h0' h1 h1' hm))
def tmsH : List Tm := [⟨52, .none, [.int .i32 (.v 0), .int .i32 (.v 1)], shlR⟩]
theorem tmsH_ok (n : Nat) (l : List (Int × Int)) (ins : List InD) : TmsOk (cxOf n l ins) tmsH := tms_cons (by kernel_rfl) (tH n l ins) (tms_nil _)
noncomputable def smH (n : Nat) (l : List (Int × Int)) (ins : List InD) : SM := smOr (smOf (toldT (cxOf n l ins) tmsH)) (smG n l ins)
theorem smH_ok (n : Nat) (l : List (Int × Int)) (ins : List InD) : SmOk (cxOf n l ins) (smH n l ins) := smOr_ok (smOf_ok (toldT_ok (tmsH_ok n l ins))) (smG_ok n l ins)
end Go.Proofs.YtjooaieolphomaaGreatDoor
