/-
  DERIVED. GIVEN WITH THE SEED: THE CARDS: each row of YteimodjkllldlaeGreatDoorRows.lean that lists a variable, with what it lists TIED to the program's text (the seventh form; the later family's looks); each row that meets fmt, with fmt's text TOLD by the authors' own Lean function (tested against real Go, not proved from fmt's source: count such statements apart). THE CARD IS WHAT COUNTS. Prove the row's statement (the work); the ties are given (YteimodjkllldlaeGreatDoorTie.lean); close each card by the builder's one call (the guide's Derived/Test/ToyasCard.lean, 'card_holds'). Laid BY PROGRAM, IN A SANDBOX (cutbox-door.mjs). By AI agents, Wed Nov 11 2026. No macro, syntax, notation, axiom, sorry.
-/
import Derived.Test.YteimodjkllldlaeGreatDoorRows
import GoSem.ClaimSeven
namespace Go.Proofs.YteimodjkllldlaeGreatDoor
namespace Rows

/-- THE TIED CARD OF 'astrolabelaw24.FlowSound'. -/
def flowSoundCard : Claim7 := { stood := { row := flowSoundRow, standIns := [], harness := (true, "4d07fcd5c1e205141eb59cbe520efb30f802cbd955c6a3830ce1fa2f5fa2ff17"), looks := true }, kinds := [], alts := [], laidByText := true, laidKinds := [.data], laidTests := true, laidLooks := .later }
def FlowSoundCardSaid : Prop := Claim7.holds Tryz.pinned (.plain (OpenSpec.ofChange flowSoundSpec)) flowSoundCard

/-- THE SECOND FORM's CARD OF 'astrolabelaw24.FlowSound'. -/
def flowSoundUptoCard : Claim7 := { stood := { row := flowSoundUptoRow, standIns := [], harness := (true, "4d07fcd5c1e205141eb59cbe520efb30f802cbd955c6a3830ce1fa2f5fa2ff17"), looks := true }, kinds := [], alts := [], laidByText := true, laidKinds := [.data], laidTests := true, laidLooks := .later }
def FlowSoundUptoCardSaid : Prop := Claim7.holds Tryz.pinned (.plain (OpenSpec.upto flowSoundSpec)) flowSoundUptoCard
end Rows
end Go.Proofs.YteimodjkllldlaeGreatDoor
