/-
  DERIVED. GIVEN WITH THE SEED: THE CARDS: each row of YtbfgkimoobkpmaaGreatDoorRows.lean that lists a variable, with what it lists TIED to the program's text (the seventh form; the later family's looks); each row that meets fmt, with fmt's text TOLD by the authors' own Lean function (tested against real Go, not proved from fmt's source: count such statements apart). THE CARD IS WHAT COUNTS. Prove the row's statement (the work); the ties are given (YtbfgkimoobkpmaaGreatDoorTie.lean); close each card by the builder's one call (the guide's Derived/Test/ToyasCard.lean, 'card_holds'). Laid BY PROGRAM, IN A SANDBOX (cutbox-door.mjs). By AI agents, Wed Nov 11 2026. No macro, syntax, notation, axiom, sorry.
-/
import Derived.Test.YtbfgkimoobkpmaaGreatDoorRows
import GoSem.ClaimSeven
namespace Go.Proofs.YtbfgkimoobkpmaaGreatDoor
namespace Rows

/-- THE TIED CARD OF 'astrolabelaw16.CorePlays'. -/
def corePlaysCard : Claim7 := { stood := { row := corePlaysRow, standIns := [], harness := (true, "7bdb080db6dc5a3609dbd5a4da12b96889c0bfa1a2f606d6fb63f8b31670d652"), looks := false }, kinds := [], alts := [], laidByText := true, laidKinds := [.data], laidTests := true, laidLooks := .later }
def CorePlaysCardSaid : Prop := Claim7.holds Tryz.pinned (.plain (OpenSpec.ofChange corePlaysSpec)) corePlaysCard

/-- THE TIED CARD OF 'astrolabelaw16.CoreSplits'. -/
def coreSplitsCard : Claim7 := { stood := { row := coreSplitsRow, standIns := [], harness := (true, "7bdb080db6dc5a3609dbd5a4da12b96889c0bfa1a2f606d6fb63f8b31670d652"), looks := false }, kinds := [], alts := [], laidByText := true, laidKinds := [.data], laidTests := true, laidLooks := .later }
def CoreSplitsCardSaid : Prop := Claim7.holds Tryz.pinned (.plain (OpenSpec.ofChange coreSplitsSpec)) coreSplitsCard

/-- THE TIED CARD OF 'astrolabelaw16.CoreCosts'. -/
def coreCostsCard : Claim7 := { stood := { row := coreCostsRow, standIns := [], harness := (true, "7bdb080db6dc5a3609dbd5a4da12b96889c0bfa1a2f606d6fb63f8b31670d652"), looks := false }, kinds := [], alts := [], laidByText := true, laidKinds := [.data], laidTests := true, laidLooks := .later }
def CoreCostsCardSaid : Prop := Claim7.holds Tryz.pinned (.plain (OpenSpec.ofChange coreCostsSpec)) coreCostsCard

/-- THE SECOND FORM's CARD OF 'astrolabelaw16.CorePlays'. -/
def corePlaysUptoCard : Claim7 := { stood := { row := corePlaysUptoRow, standIns := [], harness := (true, "7bdb080db6dc5a3609dbd5a4da12b96889c0bfa1a2f606d6fb63f8b31670d652"), looks := false }, kinds := [], alts := [], laidByText := true, laidKinds := [.data], laidTests := true, laidLooks := .later }
def CorePlaysUptoCardSaid : Prop := Claim7.holds Tryz.pinned (.plain (OpenSpec.upto corePlaysSpec)) corePlaysUptoCard

/-- THE SECOND FORM's CARD OF 'astrolabelaw16.CoreSplits'. -/
def coreSplitsUptoCard : Claim7 := { stood := { row := coreSplitsUptoRow, standIns := [], harness := (true, "7bdb080db6dc5a3609dbd5a4da12b96889c0bfa1a2f606d6fb63f8b31670d652"), looks := false }, kinds := [], alts := [], laidByText := true, laidKinds := [.data], laidTests := true, laidLooks := .later }
def CoreSplitsUptoCardSaid : Prop := Claim7.holds Tryz.pinned (.plain (OpenSpec.upto coreSplitsSpec)) coreSplitsUptoCard

/-- THE SECOND FORM's CARD OF 'astrolabelaw16.CoreCosts'. -/
def coreCostsUptoCard : Claim7 := { stood := { row := coreCostsUptoRow, standIns := [], harness := (true, "7bdb080db6dc5a3609dbd5a4da12b96889c0bfa1a2f606d6fb63f8b31670d652"), looks := false }, kinds := [], alts := [], laidByText := true, laidKinds := [.data], laidTests := true, laidLooks := .later }
def CoreCostsUptoCardSaid : Prop := Claim7.holds Tryz.pinned (.plain (OpenSpec.upto coreCostsSpec)) coreCostsUptoCard
end Rows
end Go.Proofs.YtbfgkimoobkpmaaGreatDoor
