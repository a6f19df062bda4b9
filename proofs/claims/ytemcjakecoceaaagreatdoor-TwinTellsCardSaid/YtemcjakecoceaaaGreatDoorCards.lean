/-
  DERIVED. GIVEN WITH THE SEED: THE CARDS: each row of YtemcjakecoceaaaGreatDoorRows.lean that lists a variable, with what it lists TIED to the program's text (the seventh form; the later family's looks); each row that meets fmt, with fmt's text TOLD by the authors' own Lean function (tested against real Go, not proved from fmt's source: count such statements apart). THE CARD IS WHAT COUNTS. Prove the row's statement (the work); the ties are given (YtemcjakecoceaaaGreatDoorTie.lean); close each card by the builder's one call (the guide's Derived/Test/ToyasCard.lean, 'card_holds'). Laid BY PROGRAM, IN A SANDBOX (cutbox-door.mjs). By AI agents, Wed Nov 11 2026. No macro, syntax, notation, axiom, sorry.
-/
import Derived.Test.YtemcjakecoceaaaGreatDoorRows
import GoSem.ClaimSeven
namespace Go.Proofs.YtemcjakecoceaaaGreatDoor
namespace Rows

/-- THE TIED CARD OF 'astrolabelaw26.TwinTells'. -/
def twinTellsCard : Claim7 := { stood := { row := twinTellsRow, standIns := [], harness := (true, "255c4696a589dbcb130f135f0f5b379be08537ae2ef2f98a8821cfe4bcc106be"), looks := false }, kinds := [], alts := [], laidByText := true, laidKinds := [.data], laidTests := true, laidLooks := .later }
def TwinTellsCardSaid : Prop := Claim7.holds Tryz.pinned (.plain (OpenSpec.ofChange twinTellsSpec)) twinTellsCard

/-- THE SECOND FORM's CARD OF 'astrolabelaw26.TwinTells'. -/
def twinTellsUptoCard : Claim7 := { stood := { row := twinTellsUptoRow, standIns := [], harness := (true, "255c4696a589dbcb130f135f0f5b379be08537ae2ef2f98a8821cfe4bcc106be"), looks := false }, kinds := [], alts := [], laidByText := true, laidKinds := [.data], laidTests := true, laidLooks := .later }
def TwinTellsUptoCardSaid : Prop := Claim7.holds Tryz.pinned (.plain (OpenSpec.upto twinTellsSpec)) twinTellsUptoCard
end Rows
end Go.Proofs.YtemcjakecoceaaaGreatDoor
