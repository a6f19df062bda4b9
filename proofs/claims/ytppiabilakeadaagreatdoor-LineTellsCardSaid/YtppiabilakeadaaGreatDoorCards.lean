/-
  DERIVED. GIVEN WITH THE SEED: THE CARDS: each row of YtppiabilakeadaaGreatDoorRows.lean that lists a variable, with what it lists TIED to the program's text (the seventh form; the later family's looks); each row that meets fmt, with fmt's text TOLD by the authors' own Lean function (tested against real Go, not proved from fmt's source: count such statements apart). THE CARD IS WHAT COUNTS. Prove the row's statement (the work); the ties are given (YtppiabilakeadaaGreatDoorTie.lean); close each card by the builder's one call (the guide's Derived/Test/ToyasCard.lean, 'card_holds'). Laid BY PROGRAM, IN A SANDBOX (cutbox-door.mjs). By AI agents, Wed Nov 11 2026. No macro, syntax, notation, axiom, sorry.
-/
import Derived.Test.YtppiabilakeadaaGreatDoorRows
import GoSem.ClaimSeven
namespace Go.Proofs.YtppiabilakeadaaGreatDoor
namespace Rows

/-- THE TIED CARD OF 'astrolabelaw14.LineTells'. -/
def lineTellsCard : Claim7 := { stood := { row := lineTellsRow, standIns := [], harness := (true, "9ae628a0694c5d572f8c2f92c75f087369d38e139006cebf72ccfe3043863018"), looks := true }, kinds := [], alts := [], laidByText := true, laidKinds := [.data, .data, .data, .data, .sentinel, .sentinel, .listed, .data, .pinned], laidTests := true, laidLooks := .later }
def LineTellsCardSaid : Prop := Claim7.holds Tryz.pinned (.plain (OpenSpec.ofChange lineTellsSpec)) lineTellsCard

/-- THE SECOND FORM's CARD OF 'astrolabelaw14.LineTells'. -/
def lineTellsUptoCard : Claim7 := { stood := { row := lineTellsUptoRow, standIns := [], harness := (true, "9ae628a0694c5d572f8c2f92c75f087369d38e139006cebf72ccfe3043863018"), looks := true }, kinds := [], alts := [], laidByText := true, laidKinds := [.data, .data, .data, .data, .sentinel, .sentinel, .listed, .data, .pinned], laidTests := true, laidLooks := .later }
def LineTellsUptoCardSaid : Prop := Claim7.holds Tryz.pinned (.plain (OpenSpec.upto lineTellsSpec)) lineTellsUptoCard
end Rows
end Go.Proofs.YtppiabilakeadaaGreatDoor
