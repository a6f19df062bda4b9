/-
  The reference's number of bits, and its turn round. Printed by program.
-/
import Derived.Test.YtjooaieolphomaaGreatDoorFmJ
import Derived.Test.YtjooaieolphomaaGreatDoorEu5
import Derived.Test.YtjooaieolphomaaGreatDoorEu4
set_option linter.unusedVariables false
set_option linter.unusedSimpArgs false
namespace Go.Proofs.YtjooaieolphomaaGreatDoor
open Go.Eng Go.RowKit
theorem kM0 : isI32 (runK 0 54 [.int .i32 (.v 0), .int .i32 (nE 0)] ⟨[], []⟩) (rolX (cxOf 0 gam []) 0) = true := by kernel_rfl
theorem kM1 : isI32 (runK 1 54 [.int .i32 (.v 0), .int .i32 (nE 1)] ⟨[], []⟩) (rolX (cxOf 0 gam []) 1) = true := by kernel_rfl
theorem kM2 : isI32 (runK 2 54 [.int .i32 (.v 0), .int .i32 (nE 2)] ⟨[], []⟩) (rolX (cxOf 0 gam []) 2) = true := by kernel_rfl
theorem kM3 : isI32 (runK 3 54 [.int .i32 (.v 0), .int .i32 (nE 3)] ⟨[], []⟩) (rolX (cxOf 0 gam []) 3) = true := by kernel_rfl
theorem kM4 : isI32 (runK 4 54 [.int .i32 (.v 0), .int .i32 (nE 4)] ⟨[], []⟩) (rolX (cxOf 0 gam []) 4) = true := by kernel_rfl
theorem kM5 : isI32 (runK 5 54 [.int .i32 (.v 0), .int .i32 (nE 5)] ⟨[], []⟩) (rolX (cxOf 0 gam []) 5) = true := by kernel_rfl
theorem kM6 : isI32 (runK 6 54 [.int .i32 (.v 0), .int .i32 (nE 6)] ⟨[], []⟩) (rolX (cxOf 0 gam []) 6) = true := by kernel_rfl
theorem kM7 : isI32 (runK 7 54 [.int .i32 (.v 0), .int .i32 (nE 7)] ⟨[], []⟩) (rolX (cxOf 0 gam []) 7) = true := by kernel_rfl
theorem kM8 : isI32 (runK 8 54 [.int .i32 (.v 0), .int .i32 (nE 8)] ⟨[], []⟩) (rolX (cxOf 0 gam []) 8) = true := by kernel_rfl
theorem kM9 : isI32 (runK 9 54 [.int .i32 (.v 0), .int .i32 (nE 9)] ⟨[], []⟩) (rolX (cxOf 0 gam []) 9) = true := by kernel_rfl
theorem kM10 : isI32 (runK 10 54 [.int .i32 (.v 0), .int .i32 (nE 10)] ⟨[], []⟩) (rolX (cxOf 0 gam []) 10) = true := by kernel_rfl
theorem kM11 : isI32 (runK 11 54 [.int .i32 (.v 0), .int .i32 (nE 11)] ⟨[], []⟩) (rolX (cxOf 0 gam []) 11) = true := by kernel_rfl
theorem kM12 : isI32 (runK 12 54 [.int .i32 (.v 0), .int .i32 (nE 12)] ⟨[], []⟩) (rolX (cxOf 0 gam []) 12) = true := by kernel_rfl
theorem kM13 : isI32 (runK 13 54 [.int .i32 (.v 0), .int .i32 (nE 13)] ⟨[], []⟩) (rolX (cxOf 0 gam []) 13) = true := by kernel_rfl
theorem kM14 : isI32 (runK 14 54 [.int .i32 (.v 0), .int .i32 (nE 14)] ⟨[], []⟩) (rolX (cxOf 0 gam []) 14) = true := by kernel_rfl
theorem kM15 : isI32 (runK 15 54 [.int .i32 (.v 0), .int .i32 (nE 15)] ⟨[], []⟩) (rolX (cxOf 0 gam []) 15) = true := by kernel_rfl
end Go.Proofs.YtjooaieolphomaaGreatDoor
