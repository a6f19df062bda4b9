/-
  DERIVED. GIVEN WITH THE SEED: THE CARDS: each row of YtkjbmbmdmhfbeaaDoorRows.lean that lists a variable, with what it lists TIED to the program's text (the seventh form; the later family's looks); each row that meets fmt, with fmt's text TOLD by the authors' own Lean function (tested against real Go, not proved from fmt's source: count such statements apart). THE CARD IS WHAT COUNTS. Prove the row's statement (the work); the ties are given (YtkjbmbmdmhfbeaaDoorTie.lean); close each card by the builder's one call (the guide's Derived/Test/ToyasCard.lean, 'card_holds'). Laid BY PROGRAM, IN A SANDBOX (cutbox-door.mjs). By AI agents, Wed Nov 11 2026. No macro, syntax, notation, axiom, sorry.
-/
import Derived.Test.YtkjbmbmdmhfbeaaDoorRows
import GoSem.ClaimSeven
namespace Go.Proofs.YtkjbmbmdmhfbeaaDoor
namespace Rows

/-- THE TIED CARD OF 'astrolabelaw22.ImageTells'. -/
def imageTellsCard : Claim7 := { stood := { row := imageTellsRow, standIns := [], harness := (true, "8fda5dd2980ba18f91d6407fc53683e698c150320ab3bd6a43860f8f45dda20b"), looks := true }, kinds := [], alts := [], laidByText := true, laidKinds := [.data], laidTests := true, laidLooks := .later }
def ImageTellsCardSaid : Prop := Claim7.holds Tryd.pinned (.plain (OpenSpec.ofChange imageTellsSpec)) imageTellsCard

/-- THE SECOND FORM's CARD OF 'astrolabelaw22.ImageTells'. -/
def imageTellsUptoCard : Claim7 := { stood := { row := imageTellsUptoRow, standIns := [], harness := (true, "8fda5dd2980ba18f91d6407fc53683e698c150320ab3bd6a43860f8f45dda20b"), looks := true }, kinds := [], alts := [], laidByText := true, laidKinds := [.data], laidTests := true, laidLooks := .later }
def ImageTellsUptoCardSaid : Prop := Claim7.holds Tryd.pinned (.plain (OpenSpec.upto imageTellsSpec)) imageTellsUptoCard
end Rows
end Go.Proofs.YtkjbmbmdmhfbeaaDoor
