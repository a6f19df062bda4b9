/-
  The reference's shift down with the sign. Printed by program.
-/
import Derived.Test.YtjooaieolphomaaGreatDoorFmFb
import Derived.Test.YtjooaieolphomaaGreatDoorEu5
set_option linter.unusedVariables false
set_option linter.unusedSimpArgs false
namespace Go.Proofs.YtjooaieolphomaaGreatDoor
open Go.Eng Go.RowKit
theorem kJ0 : oneIs (runK 0 47 [.int .i32 (.v 0), .int .i32 (nE 0)] ⟨[], []⟩) (.int .i32 (sarX (cxOf 0 gam []) 0)) = true := by kernel_rfl
theorem kJ1 : oneIs (runK 1 47 [.int .i32 (.v 0), .int .i32 (nE 1)] ⟨[], []⟩) (.int .i32 (sarX (cxOf 0 gam []) 1)) = true := by kernel_rfl
theorem kJ2 : oneIs (runK 2 47 [.int .i32 (.v 0), .int .i32 (nE 2)] ⟨[], []⟩) (.int .i32 (sarX (cxOf 0 gam []) 2)) = true := by kernel_rfl
theorem kJ3 : oneIs (runK 3 47 [.int .i32 (.v 0), .int .i32 (nE 3)] ⟨[], []⟩) (.int .i32 (sarX (cxOf 0 gam []) 3)) = true := by kernel_rfl
theorem kJ4 : oneIs (runK 4 47 [.int .i32 (.v 0), .int .i32 (nE 4)] ⟨[], []⟩) (.int .i32 (sarX (cxOf 0 gam []) 4)) = true := by kernel_rfl
theorem kJ5 : oneIs (runK 5 47 [.int .i32 (.v 0), .int .i32 (nE 5)] ⟨[], []⟩) (.int .i32 (sarX (cxOf 0 gam []) 5)) = true := by kernel_rfl
theorem kJ6 : oneIs (runK 6 47 [.int .i32 (.v 0), .int .i32 (nE 6)] ⟨[], []⟩) (.int .i32 (sarX (cxOf 0 gam []) 6)) = true := by kernel_rfl
theorem kJ7 : oneIs (runK 7 47 [.int .i32 (.v 0), .int .i32 (nE 7)] ⟨[], []⟩) (.int .i32 (sarX (cxOf 0 gam []) 7)) = true := by kernel_rfl
theorem kJ8 : oneIs (runK 8 47 [.int .i32 (.v 0), .int .i32 (nE 8)] ⟨[], []⟩) (.int .i32 (sarX (cxOf 0 gam []) 8)) = true := by kernel_rfl
theorem kJ9 : oneIs (runK 9 47 [.int .i32 (.v 0), .int .i32 (nE 9)] ⟨[], []⟩) (.int .i32 (sarX (cxOf 0 gam []) 9)) = true := by kernel_rfl
theorem kJ10 : oneIs (runK 10 47 [.int .i32 (.v 0), .int .i32 (nE 10)] ⟨[], []⟩) (.int .i32 (sarX (cxOf 0 gam []) 10)) = true := by kernel_rfl
theorem kJ11 : oneIs (runK 11 47 [.int .i32 (.v 0), .int .i32 (nE 11)] ⟨[], []⟩) (.int .i32 (sarX (cxOf 0 gam []) 11)) = true := by kernel_rfl
theorem kJ12 : oneIs (runK 12 47 [.int .i32 (.v 0), .int .i32 (nE 12)] ⟨[], []⟩) (.int .i32 (sarX (cxOf 0 gam []) 12)) = true := by kernel_rfl
theorem kJ13 : oneIs (runK 13 47 [.int .i32 (.v 0), .int .i32 (nE 13)] ⟨[], []⟩) (.int .i32 (sarX (cxOf 0 gam []) 13)) = true := by kernel_rfl
theorem kJ14 : oneIs (runK 14 47 [.int .i32 (.v 0), .int .i32 (nE 14)] ⟨[], []⟩) (.int .i32 (sarX (cxOf 0 gam []) 14)) = true := by kernel_rfl
theorem kJ15 : oneIs (runK 15 47 [.int .i32 (.v 0), .int .i32 (nE 15)] ⟨[], []⟩) (.int .i32 (sarX (cxOf 0 gam []) 15)) = true := by kernel_rfl
theorem kJ16 : oneIs (runK 16 47 [.int .i32 (.v 0), .int .i32 (nE 16)] ⟨[], []⟩) (.int .i32 (sarX (cxOf 0 gam []) 16)) = true := by kernel_rfl
theorem kJ17 : oneIs (runK 17 47 [.int .i32 (.v 0), .int .i32 (nE 17)] ⟨[], []⟩) (.int .i32 (sarX (cxOf 0 gam []) 17)) = true := by kernel_rfl
theorem kJ18 : oneIs (runK 18 47 [.int .i32 (.v 0), .int .i32 (nE 18)] ⟨[], []⟩) (.int .i32 (sarX (cxOf 0 gam []) 18)) = true := by kernel_rfl
theorem kJ19 : oneIs (runK 19 47 [.int .i32 (.v 0), .int .i32 (nE 19)] ⟨[], []⟩) (.int .i32 (sarX (cxOf 0 gam []) 19)) = true := by kernel_rfl
theorem kJ20 : oneIs (runK 20 47 [.int .i32 (.v 0), .int .i32 (nE 20)] ⟨[], []⟩) (.int .i32 (sarX (cxOf 0 gam []) 20)) = true := by kernel_rfl
theorem kJ21 : oneIs (runK 21 47 [.int .i32 (.v 0), .int .i32 (nE 21)] ⟨[], []⟩) (.int .i32 (sarX (cxOf 0 gam []) 21)) = true := by kernel_rfl
theorem kJ22 : oneIs (runK 22 47 [.int .i32 (.v 0), .int .i32 (nE 22)] ⟨[], []⟩) (.int .i32 (sarX (cxOf 0 gam []) 22)) = true := by kernel_rfl
theorem kJ23 : oneIs (runK 23 47 [.int .i32 (.v 0), .int .i32 (nE 23)] ⟨[], []⟩) (.int .i32 (sarX (cxOf 0 gam []) 23)) = true := by kernel_rfl
theorem kJ24 : oneIs (runK 24 47 [.int .i32 (.v 0), .int .i32 (nE 24)] ⟨[], []⟩) (.int .i32 (sarX (cxOf 0 gam []) 24)) = true := by kernel_rfl
theorem kJ25 : oneIs (runK 25 47 [.int .i32 (.v 0), .int .i32 (nE 25)] ⟨[], []⟩) (.int .i32 (sarX (cxOf 0 gam []) 25)) = true := by kernel_rfl
theorem kJ26 : oneIs (runK 26 47 [.int .i32 (.v 0), .int .i32 (nE 26)] ⟨[], []⟩) (.int .i32 (sarX (cxOf 0 gam []) 26)) = true := by kernel_rfl
theorem kJ27 : oneIs (runK 27 47 [.int .i32 (.v 0), .int .i32 (nE 27)] ⟨[], []⟩) (.int .i32 (sarX (cxOf 0 gam []) 27)) = true := by kernel_rfl
theorem kJ28 : oneIs (runK 28 47 [.int .i32 (.v 0), .int .i32 (nE 28)] ⟨[], []⟩) (.int .i32 (sarX (cxOf 0 gam []) 28)) = true := by kernel_rfl
theorem kJ29 : oneIs (runK 29 47 [.int .i32 (.v 0), .int .i32 (nE 29)] ⟨[], []⟩) (.int .i32 (sarX (cxOf 0 gam []) 29)) = true := by kernel_rfl
theorem kJ30 : oneIs (runK 30 47 [.int .i32 (.v 0), .int .i32 (nE 30)] ⟨[], []⟩) (.int .i32 (sarX (cxOf 0 gam []) 30)) = true := by kernel_rfl
theorem kJ31 : oneIs (runK 31 47 [.int .i32 (.v 0), .int .i32 (nE 31)] ⟨[], []⟩) (.int .i32 (sarX (cxOf 0 gam []) 31)) = true := by kernel_rfl
theorem kJ_all : ∀ k, k ≤ 31 → oneIs (runK k 47 [.int .i32 (.v 0), .int .i32 (nE k)] ⟨[], []⟩) (.int .i32 (sarX (cxOf 0 gam []) k)) = true
  | 0, _ => kJ0
  | 1, _ => kJ1
  | 2, _ => kJ2
  | 3, _ => kJ3
  | 4, _ => kJ4
  | 5, _ => kJ5
  | 6, _ => kJ6
  | 7, _ => kJ7
  | 8, _ => kJ8
  | 9, _ => kJ9
  | 10, _ => kJ10
  | 11, _ => kJ11
  | 12, _ => kJ12
  | 13, _ => kJ13
  | 14, _ => kJ14
  | 15, _ => kJ15
  | 16, _ => kJ16
  | 17, _ => kJ17
  | 18, _ => kJ18
  | 19, _ => kJ19
  | 20, _ => kJ20
  | 21, _ => kJ21
  | 22, _ => kJ22
  | 23, _ => kJ23
  | 24, _ => kJ24
  | 25, _ => kJ25
  | 26, _ => kJ26
  | 27, _ => kJ27
  | 28, _ => kJ28
  | 29, _ => kJ29
  | 30, _ => kJ30
  | 31, _ => kJ31
  | k + 32, h => absurd h (by omega)
theorem tJ (n : Nat) (l : List (Int × Int)) (ins : List InD) : TmplOk (cxOf n l ins) 47 .none [.int .i32 (.v 0), .int .i32 (.v 1)] sarR :=
  tmpl_n (n := 0) (shift_one (cx := cxOf 0 l []) (L := sarX (cxOf 0 gam [])) rfl runK_ok kJ_all (fun ρ k hk hf hK h0 h0' h1 h1' hm => sar_res ρ k hk hf hK h0 h0' h1 h1' hm))
def tmsJ : List Tm := [⟨47, .none, [.int .i32 (.v 0), .int .i32 (.v 1)], sarR⟩]
theorem tmsJ_ok (n : Nat) (l : List (Int × Int)) (ins : List InD) : TmsOk (cxOf n l ins) tmsJ := tms_cons (by kernel_rfl) (tJ n l ins) (tms_nil _)
noncomputable def smJ (n : Nat) (l : List (Int × Int)) (ins : List InD) : SM := smOr (smOf (toldT (cxOf n l ins) tmsJ)) (smFb n l ins)
theorem smJ_ok (n : Nat) (l : List (Int × Int)) (ins : List InD) : SmOk (cxOf n l ins) (smJ n l ins) := smOr_ok (smOf_ok (toldT_ok (tmsJ_ok n l ins))) (smFb_ok n l ins)
end Go.Proofs.YtjooaieolphomaaGreatDoor
