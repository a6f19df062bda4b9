/-
  DERIVED. GIVEN WITH THE SEED: THE CARDS: each row of YtmehpgejkoaigaaDoorRows.lean that lists a variable, with what it lists TIED to the program's text (the seventh form; the later family's looks); each row that meets fmt, with fmt's text TOLD by the authors' own Lean function (tested against real Go, not proved from fmt's source: count such statements apart). THE CARD IS WHAT COUNTS. Prove the row's statement (the work); the ties are given (YtmehpgejkoaigaaDoorTie.lean); close each card by the builder's one call (the guide's Derived/Test/ToyasCard.lean, 'card_holds'). Laid BY PROGRAM, IN A SANDBOX (cutbox-door.mjs). By AI agents, Wed Nov 11 2026. No macro, syntax, notation, axiom, sorry.
-/
import Derived.Test.YtmehpgejkoaigaaDoorRows
import GoSem.ClaimSeven
namespace Go.Proofs.YtmehpgejkoaigaaDoor
namespace Rows

/-- THE TIED CARD OF 'astrolabelaw19.LabelPlays'. -/
def labelPlaysCard : Claim7 := { stood := { row := labelPlaysRow, standIns := [], harness := (true, "5e37e8e8f699191921c48ff1cdb5f2bdbb1df219cbbf32338eb517d28c628d4f"), looks := true }, kinds := [], alts := [], laidByText := true, laidKinds := [.data, .handle, .pinned], laidTests := true, laidLooks := .later }
def LabelPlaysCardSaid : Prop := Claim7.holds Tryd.pinned (.plain (OpenSpec.ofChange labelPlaysSpec)) labelPlaysCard

/-- THE SECOND FORM's CARD OF 'astrolabelaw19.LabelPlays'. -/
def labelPlaysUptoCard : Claim7 := { stood := { row := labelPlaysUptoRow, standIns := [], harness := (true, "5e37e8e8f699191921c48ff1cdb5f2bdbb1df219cbbf32338eb517d28c628d4f"), looks := true }, kinds := [], alts := [], laidByText := true, laidKinds := [.data, .handle, .pinned], laidTests := true, laidLooks := .later }
def LabelPlaysUptoCardSaid : Prop := Claim7.holds Tryd.pinned (.plain (OpenSpec.upto labelPlaysSpec)) labelPlaysUptoCard
end Rows
end Go.Proofs.YtmehpgejkoaigaaDoor
