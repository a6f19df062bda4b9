/-
  DERIVED. GIVEN WITH THE SEED: THE CARDS: each row of YtjooaieolphomaaGreatDoorRows.lean that lists a variable, with what it lists TIED to the program's text (the seventh form; the later family's looks); each row that meets fmt, with fmt's text TOLD by the authors' own Lean function (tested against real Go, not proved from fmt's source: count such statements apart). THE CARD IS WHAT COUNTS. Prove the row's statement (the work); the ties are given (YtjooaieolphomaaGreatDoorTie.lean); close each card by the builder's one call (the guide's Derived/Test/ToyasCard.lean, 'card_holds'). Laid BY PROGRAM, IN A SANDBOX (cutbox-door.mjs). By AI agents, Wed Nov 11 2026. No macro, syntax, notation, axiom, sorry.
-/
import Derived.Test.YtjooaieolphomaaGreatDoorRows
import GoSem.ClaimSeven
namespace Go.Proofs.YtjooaieolphomaaGreatDoor
namespace Rows

/-- THE TIED CARD OF 'astrolabelaw07.AluTells'. -/
def aluTellsCard : Claim7 := { stood := { row := aluTellsRow, standIns := [], harness := (true, "b4d94519372c956d8e07ca6bac2ba3e3559dffc47a70d7fa57d31c62cfc96c18"), looks := false }, kinds := [], alts := [], laidByText := true, laidKinds := [.data], laidTests := true, laidLooks := .later }
def AluTellsCardSaid : Prop := Claim7.holds Tryz.pinned (.plain (OpenSpec.ofChange aluTellsSpec)) aluTellsCard

/-- THE SECOND FORM's CARD OF 'astrolabelaw07.AluTells'. -/
def aluTellsUptoCard : Claim7 := { stood := { row := aluTellsUptoRow, standIns := [], harness := (true, "b4d94519372c956d8e07ca6bac2ba3e3559dffc47a70d7fa57d31c62cfc96c18"), looks := false }, kinds := [], alts := [], laidByText := true, laidKinds := [.data], laidTests := true, laidLooks := .later }
def AluTellsUptoCardSaid : Prop := Claim7.holds Tryz.pinned (.plain (OpenSpec.upto aluTellsSpec)) aluTellsUptoCard
end Rows
end Go.Proofs.YtjooaieolphomaaGreatDoor
