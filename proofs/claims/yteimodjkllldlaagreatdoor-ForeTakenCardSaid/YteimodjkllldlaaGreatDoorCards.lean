/-
  DERIVED. GIVEN WITH THE SEED: THE CARDS: each row of YteimodjkllldlaaGreatDoorRows.lean that lists a variable, with what it lists TIED to the program's text (the seventh form; the later family's looks); each row that meets fmt, with fmt's text TOLD by the authors' own Lean function (tested against real Go, not proved from fmt's source: count such statements apart). THE CARD IS WHAT COUNTS. Prove the row's statement (the work); the ties are given (YteimodjkllldlaaGreatDoorTie.lean); close each card by the builder's one call (the guide's Derived/Test/ToyasCard.lean, 'card_holds'). Laid BY PROGRAM, IN A SANDBOX (cutbox-door.mjs). By AI agents, Wed Nov 11 2026. No macro, syntax, notation, axiom, sorry.
-/
import Derived.Test.YteimodjkllldlaaGreatDoorRows
import GoSem.ClaimSeven
namespace Go.Proofs.YteimodjkllldlaaGreatDoor
namespace Rows

/-- THE TIED CARD OF 'astrolabelaw25.ForeTaken'. -/
def foreTakenCard : Claim7 := { stood := { row := foreTakenRow, standIns := [], harness := (true, "04bf60e6d4e421b6714fdef0a7bfba170f6979a408e77424bd14a88f3b02604c"), looks := false }, kinds := [], alts := [], laidByText := true, laidKinds := [.listed, .data, .data], laidTests := true, laidLooks := .later }
def ForeTakenCardSaid : Prop := Claim7.holds Tryz.pinned (.plain (OpenSpec.ofChange foreTakenSpec)) foreTakenCard

/-- THE SECOND FORM's CARD OF 'astrolabelaw25.ForeTaken'. -/
def foreTakenUptoCard : Claim7 := { stood := { row := foreTakenUptoRow, standIns := [], harness := (true, "04bf60e6d4e421b6714fdef0a7bfba170f6979a408e77424bd14a88f3b02604c"), looks := false }, kinds := [], alts := [], laidByText := true, laidKinds := [.listed, .data, .data], laidTests := true, laidLooks := .later }
def ForeTakenUptoCardSaid : Prop := Claim7.holds Tryz.pinned (.plain (OpenSpec.upto foreTakenSpec)) foreTakenUptoCard
end Rows
end Go.Proofs.YteimodjkllldlaaGreatDoor
