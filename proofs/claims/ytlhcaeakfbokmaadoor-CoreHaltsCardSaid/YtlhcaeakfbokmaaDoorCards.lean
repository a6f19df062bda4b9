/-
  DERIVED. GIVEN WITH THE SEED: THE CARDS: each row of YtlhcaeakfbokmaaDoorRows.lean that lists a variable, with what it lists TIED to the program's text (the seventh form; the later family's looks); each row that meets fmt, with fmt's text TOLD by the authors' own Lean function (tested against real Go, not proved from fmt's source: count such statements apart). THE CARD IS WHAT COUNTS. Prove the row's statement (the work); the ties are given (YtlhcaeakfbokmaaDoorTie.lean); close each card by the builder's one call (the guide's Derived/Test/ToyasCard.lean, 'card_holds'). Laid BY PROGRAM, IN A SANDBOX (cutbox-door.mjs). By AI agents, Wed Nov 11 2026. No macro, syntax, notation, axiom, sorry.
-/
import Derived.Test.YtlhcaeakfbokmaaDoorRows
import GoSem.ClaimSeven
namespace Go.Proofs.YtlhcaeakfbokmaaDoor
namespace Rows

/-- THE TIED CARD OF 'astrolabelaw16.CoreHalts'. -/
def coreHaltsCard : Claim7 := { stood := { row := coreHaltsRow, standIns := [], harness := (true, "04c7f0019578196ec50f5ba60613bd0306de550a8181d7bfc0fb126cc483cf1f"), looks := false }, kinds := [], alts := [], laidByText := true, laidKinds := [.data], laidTests := true, laidLooks := .later }
def CoreHaltsCardSaid : Prop := Claim7.holds Tryd.pinned (.plain (OpenSpec.ofChange coreHaltsSpec)) coreHaltsCard

/-- THE SECOND FORM's CARD OF 'astrolabelaw16.CoreHalts'. -/
def coreHaltsUptoCard : Claim7 := { stood := { row := coreHaltsUptoRow, standIns := [], harness := (true, "04c7f0019578196ec50f5ba60613bd0306de550a8181d7bfc0fb126cc483cf1f"), looks := false }, kinds := [], alts := [], laidByText := true, laidKinds := [.data], laidTests := true, laidLooks := .later }
def CoreHaltsUptoCardSaid : Prop := Claim7.holds Tryd.pinned (.plain (OpenSpec.upto coreHaltsSpec)) coreHaltsUptoCard
end Rows
end Go.Proofs.YtlhcaeakfbokmaaDoor
