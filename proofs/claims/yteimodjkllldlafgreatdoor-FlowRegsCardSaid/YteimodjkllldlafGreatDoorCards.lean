/-
  DERIVED. GIVEN WITH THE SEED: THE CARDS: each row of YteimodjkllldlafGreatDoorRows.lean that lists a variable, with what it lists TIED to the program's text (the seventh form; the later family's looks); each row that meets fmt, with fmt's text TOLD by the authors' own Lean function (tested against real Go, not proved from fmt's source: count such statements apart). THE CARD IS WHAT COUNTS. Prove the row's statement (the work); the ties are given (YteimodjkllldlafGreatDoorTie.lean); close each card by the builder's one call (the guide's Derived/Test/ToyasCard.lean, 'card_holds'). Laid BY PROGRAM, IN A SANDBOX (cutbox-door.mjs). By AI agents, Wed Nov 11 2026. No macro, syntax, notation, axiom, sorry.
-/
import Derived.Test.YteimodjkllldlafGreatDoorRows
import GoSem.ClaimSeven
namespace Go.Proofs.YteimodjkllldlafGreatDoor
namespace Rows

/-- THE TIED CARD OF 'astrolabelaw24.FlowRegs'. -/
def flowRegsCard : Claim7 := { stood := { row := flowRegsRow, standIns := [], harness := (true, "fe16ccaf7679f17fd8c2d1148c6487f06bfcefc0a9ffeff086c94b0ba25161e2"), looks := true }, kinds := [], alts := [], laidByText := true, laidKinds := [.data], laidTests := true, laidLooks := .later }
def FlowRegsCardSaid : Prop := Claim7.holds Tryz.pinned (.plain (OpenSpec.ofChange flowRegsSpec)) flowRegsCard

/-- THE SECOND FORM's CARD OF 'astrolabelaw24.FlowRegs'. -/
def flowRegsUptoCard : Claim7 := { stood := { row := flowRegsUptoRow, standIns := [], harness := (true, "fe16ccaf7679f17fd8c2d1148c6487f06bfcefc0a9ffeff086c94b0ba25161e2"), looks := true }, kinds := [], alts := [], laidByText := true, laidKinds := [.data], laidTests := true, laidLooks := .later }
def FlowRegsUptoCardSaid : Prop := Claim7.holds Tryz.pinned (.plain (OpenSpec.upto flowRegsSpec)) flowRegsUptoCard
end Rows
end Go.Proofs.YteimodjkllldlafGreatDoor
