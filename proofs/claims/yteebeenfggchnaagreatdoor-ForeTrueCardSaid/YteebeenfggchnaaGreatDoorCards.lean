/-
  DERIVED. GIVEN WITH THE SEED: THE CARDS: each row of YteebeenfggchnaaGreatDoorRows.lean that lists a variable, with what it lists TIED to the program's text (the seventh form; the later family's looks); each row that meets fmt, with fmt's text TOLD by the authors' own Lean function (tested against real Go, not proved from fmt's source: count such statements apart). THE CARD IS WHAT COUNTS. Prove the row's statement (the work); the ties are given (YteebeenfggchnaaGreatDoorTie.lean); close each card by the builder's one call (the guide's Derived/Test/ToyasCard.lean, 'card_holds'). Laid BY PROGRAM, IN A SANDBOX (cutbox-door.mjs). By AI agents, Wed Nov 11 2026. No macro, syntax, notation, axiom, sorry.
-/
import Derived.Test.YteebeenfggchnaaGreatDoorRows
import GoSem.ClaimSeven
namespace Go.Proofs.YteebeenfggchnaaGreatDoor
namespace Rows

/-- THE TIED CARD OF 'astrolabelaw25.ForeTrue'. -/
def foreTrueCard : Claim7 := { stood := { row := foreTrueRow, standIns := [], harness := (true, "8fe3fac73ea8bec5cbafadfd954b2cd512213055d3ad40db22a0a1be3d7eea9e"), looks := false }, kinds := [], alts := [], laidByText := true, laidKinds := [.listed, .data, .data], laidTests := true, laidLooks := .later }
def ForeTrueCardSaid : Prop := Claim7.holds Tryz.pinned (.plain (OpenSpec.ofChange foreTrueSpec)) foreTrueCard

/-- THE SECOND FORM's CARD OF 'astrolabelaw25.ForeTrue'. -/
def foreTrueUptoCard : Claim7 := { stood := { row := foreTrueUptoRow, standIns := [], harness := (true, "8fe3fac73ea8bec5cbafadfd954b2cd512213055d3ad40db22a0a1be3d7eea9e"), looks := false }, kinds := [], alts := [], laidByText := true, laidKinds := [.listed, .data, .data], laidTests := true, laidLooks := .later }
def ForeTrueUptoCardSaid : Prop := Claim7.holds Tryz.pinned (.plain (OpenSpec.upto foreTrueSpec)) foreTrueUptoCard
end Rows
end Go.Proofs.YteebeenfggchnaaGreatDoor
