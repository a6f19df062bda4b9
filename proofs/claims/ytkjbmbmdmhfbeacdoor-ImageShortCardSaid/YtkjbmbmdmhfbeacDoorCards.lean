/-
  DERIVED. GIVEN WITH THE SEED: THE CARDS: each row of YtkjbmbmdmhfbeacDoorRows.lean that lists a variable, with what it lists TIED to the program's text (the seventh form; the later family's looks); each row that meets fmt, with fmt's text TOLD by the authors' own Lean function (tested against real Go, not proved from fmt's source: count such statements apart). THE CARD IS WHAT COUNTS. Prove the row's statement (the work); the ties are given (YtkjbmbmdmhfbeacDoorTie.lean); close each card by the builder's one call (the guide's Derived/Test/ToyasCard.lean, 'card_holds'). Laid BY PROGRAM, IN A SANDBOX (cutbox-door.mjs). By AI agents, Wed Nov 11 2026. No macro, syntax, notation, axiom, sorry.
-/
import Derived.Test.YtkjbmbmdmhfbeacDoorRows
import GoSem.ClaimSeven
namespace Go.Proofs.YtkjbmbmdmhfbeacDoor
namespace Rows

/-- THE TIED CARD OF 'astrolabelaw22.ImageShort'. -/
def imageShortCard : Claim7 := { stood := { row := imageShortRow, standIns := [], harness := (true, "1c525066835f2bb1417f890dfa84707824a61b34b5f422b13fcac4f0475469f8"), looks := true }, kinds := [], alts := [], laidByText := true, laidKinds := [.data], laidTests := true, laidLooks := .later }
def ImageShortCardSaid : Prop := Claim7.holds Tryd.pinned (.plain (OpenSpec.ofChange imageShortSpec)) imageShortCard

/-- THE SECOND FORM's CARD OF 'astrolabelaw22.ImageShort'. -/
def imageShortUptoCard : Claim7 := { stood := { row := imageShortUptoRow, standIns := [], harness := (true, "1c525066835f2bb1417f890dfa84707824a61b34b5f422b13fcac4f0475469f8"), looks := true }, kinds := [], alts := [], laidByText := true, laidKinds := [.data], laidTests := true, laidLooks := .later }
def ImageShortUptoCardSaid : Prop := Claim7.holds Tryd.pinned (.plain (OpenSpec.upto imageShortSpec)) imageShortUptoCard
end Rows
end Go.Proofs.YtkjbmbmdmhfbeacDoor
