/-
  DERIVED. GIVEN WITH THE SEED: THE CARDS: each row of YtfkdlidcogpncaaGreatDoorRows.lean that lists a variable, with what it lists TIED to the program's text (the seventh form; the later family's looks); each row that meets fmt, with fmt's text TOLD by the authors' own Lean function (tested against real Go, not proved from fmt's source: count such statements apart). THE CARD IS WHAT COUNTS. Prove the row's statement (the work); the ties are given (YtfkdlidcogpncaaGreatDoorTie.lean); close each card by the builder's one call (the guide's Derived/Test/ToyasCard.lean, 'card_holds'). Laid BY PROGRAM, IN A SANDBOX (cutbox-door.mjs). By AI agents, Wed Nov 11 2026. No macro, syntax, notation, axiom, sorry.
-/
import Derived.Test.YtfkdlidcogpncaaGreatDoorRows
import GoSem.ClaimSeven
namespace Go.Proofs.YtfkdlidcogpncaaGreatDoor
namespace Rows

/-- THE TIED CARD OF 'astrolabelaw25.ForeTells'. -/
def foreTellsCard : Claim7 := { stood := { row := foreTellsRow, standIns := [], harness := (true, "35f99ba368d063352bfad21a5ea1bccf6dd7297f46226c2108e597e8c44e3f6b"), looks := false }, kinds := [], alts := [], laidByText := true, laidKinds := [.listed, .data, .data], laidTests := true, laidLooks := .later }
def ForeTellsCardSaid : Prop := Claim7.holds Tryz.pinned (.plain (OpenSpec.ofChange foreTellsSpec)) foreTellsCard

/-- THE SECOND FORM's CARD OF 'astrolabelaw25.ForeTells'. -/
def foreTellsUptoCard : Claim7 := { stood := { row := foreTellsUptoRow, standIns := [], harness := (true, "35f99ba368d063352bfad21a5ea1bccf6dd7297f46226c2108e597e8c44e3f6b"), looks := false }, kinds := [], alts := [], laidByText := true, laidKinds := [.listed, .data, .data], laidTests := true, laidLooks := .later }
def ForeTellsUptoCardSaid : Prop := Claim7.holds Tryz.pinned (.plain (OpenSpec.upto foreTellsSpec)) foreTellsUptoCard
end Rows
end Go.Proofs.YtfkdlidcogpncaaGreatDoor
