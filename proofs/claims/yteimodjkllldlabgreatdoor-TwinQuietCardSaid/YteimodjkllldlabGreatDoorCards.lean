/-
  DERIVED. GIVEN WITH THE SEED: THE CARDS: each row of YteimodjkllldlabGreatDoorRows.lean that lists a variable, with what it lists TIED to the program's text (the seventh form; the later family's looks); each row that meets fmt, with fmt's text TOLD by the authors' own Lean function (tested against real Go, not proved from fmt's source: count such statements apart). THE CARD IS WHAT COUNTS. Prove the row's statement (the work); the ties are given (YteimodjkllldlabGreatDoorTie.lean); close each card by the builder's one call (the guide's Derived/Test/ToyasCard.lean, 'card_holds'). Laid BY PROGRAM, IN A SANDBOX (cutbox-door.mjs). By AI agents, Wed Nov 11 2026. No macro, syntax, notation, axiom, sorry.
-/
import Derived.Test.YteimodjkllldlabGreatDoorRows
import GoSem.ClaimSeven
namespace Go.Proofs.YteimodjkllldlabGreatDoor
namespace Rows

/-- THE TIED CARD OF 'astrolabelaw26.TwinQuiet'. -/
def twinQuietCard : Claim7 := { stood := { row := twinQuietRow, standIns := [], harness := (true, "cfd5e8f370aac776a36069281a21bc87a3ceaa2b716b9e8dd14b1deebcad7bf1"), looks := false }, kinds := [], alts := [], laidByText := true, laidKinds := [.data], laidTests := true, laidLooks := .later }
def TwinQuietCardSaid : Prop := Claim7.holds Tryz.pinned (.plain (OpenSpec.ofChange twinQuietSpec)) twinQuietCard

/-- THE SECOND FORM's CARD OF 'astrolabelaw26.TwinQuiet'. -/
def twinQuietUptoCard : Claim7 := { stood := { row := twinQuietUptoRow, standIns := [], harness := (true, "cfd5e8f370aac776a36069281a21bc87a3ceaa2b716b9e8dd14b1deebcad7bf1"), looks := false }, kinds := [], alts := [], laidByText := true, laidKinds := [.data], laidTests := true, laidLooks := .later }
def TwinQuietUptoCardSaid : Prop := Claim7.holds Tryz.pinned (.plain (OpenSpec.upto twinQuietSpec)) twinQuietUptoCard
end Rows
end Go.Proofs.YteimodjkllldlabGreatDoor
