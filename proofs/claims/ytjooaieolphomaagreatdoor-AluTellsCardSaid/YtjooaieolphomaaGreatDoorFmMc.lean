/-
  The reference's number of bits, and its turn round. Printed by program.
-/
import Derived.Test.YtjooaieolphomaaGreatDoorFmJ
import Derived.Test.YtjooaieolphomaaGreatDoorEu5
import Derived.Test.YtjooaieolphomaaGreatDoorEu4
set_option linter.unusedVariables false
set_option linter.unusedSimpArgs false
namespace Go.Proofs.YtjooaieolphomaaGreatDoor
open Go.Eng Go.RowKit
theorem kM16 : isI32 (runK 16 54 [.int .i32 (.v 0), .int .i32 (nE 16)] ⟨[], []⟩) (rolX (cxOf 0 gam []) 16) = true := by kernel_rfl
theorem kM17 : isI32 (runK 17 54 [.int .i32 (.v 0), .int .i32 (nE 17)] ⟨[], []⟩) (rolX (cxOf 0 gam []) 17) = true := by kernel_rfl
theorem kM18 : isI32 (runK 18 54 [.int .i32 (.v 0), .int .i32 (nE 18)] ⟨[], []⟩) (rolX (cxOf 0 gam []) 18) = true := by kernel_rfl
theorem kM19 : isI32 (runK 19 54 [.int .i32 (.v 0), .int .i32 (nE 19)] ⟨[], []⟩) (rolX (cxOf 0 gam []) 19) = true := by kernel_rfl
theorem kM20 : isI32 (runK 20 54 [.int .i32 (.v 0), .int .i32 (nE 20)] ⟨[], []⟩) (rolX (cxOf 0 gam []) 20) = true := by kernel_rfl
theorem kM21 : isI32 (runK 21 54 [.int .i32 (.v 0), .int .i32 (nE 21)] ⟨[], []⟩) (rolX (cxOf 0 gam []) 21) = true := by kernel_rfl
theorem kM22 : isI32 (runK 22 54 [.int .i32 (.v 0), .int .i32 (nE 22)] ⟨[], []⟩) (rolX (cxOf 0 gam []) 22) = true := by kernel_rfl
theorem kM23 : isI32 (runK 23 54 [.int .i32 (.v 0), .int .i32 (nE 23)] ⟨[], []⟩) (rolX (cxOf 0 gam []) 23) = true := by kernel_rfl
theorem kM24 : isI32 (runK 24 54 [.int .i32 (.v 0), .int .i32 (nE 24)] ⟨[], []⟩) (rolX (cxOf 0 gam []) 24) = true := by kernel_rfl
theorem kM25 : isI32 (runK 25 54 [.int .i32 (.v 0), .int .i32 (nE 25)] ⟨[], []⟩) (rolX (cxOf 0 gam []) 25) = true := by kernel_rfl
theorem kM26 : isI32 (runK 26 54 [.int .i32 (.v 0), .int .i32 (nE 26)] ⟨[], []⟩) (rolX (cxOf 0 gam []) 26) = true := by kernel_rfl
theorem kM27 : isI32 (runK 27 54 [.int .i32 (.v 0), .int .i32 (nE 27)] ⟨[], []⟩) (rolX (cxOf 0 gam []) 27) = true := by kernel_rfl
theorem kM28 : isI32 (runK 28 54 [.int .i32 (.v 0), .int .i32 (nE 28)] ⟨[], []⟩) (rolX (cxOf 0 gam []) 28) = true := by kernel_rfl
theorem kM29 : isI32 (runK 29 54 [.int .i32 (.v 0), .int .i32 (nE 29)] ⟨[], []⟩) (rolX (cxOf 0 gam []) 29) = true := by kernel_rfl
theorem kM30 : isI32 (runK 30 54 [.int .i32 (.v 0), .int .i32 (nE 30)] ⟨[], []⟩) (rolX (cxOf 0 gam []) 30) = true := by kernel_rfl
theorem kM31 : isI32 (runK 31 54 [.int .i32 (.v 0), .int .i32 (nE 31)] ⟨[], []⟩) (rolX (cxOf 0 gam []) 31) = true := by kernel_rfl
end Go.Proofs.YtjooaieolphomaaGreatDoor
