/-
  DERIVED. GIVEN WITH THE SEED: THE CARDS: each row of YtdnkgacjibjlhaaGreatDoorRows.lean that lists a variable, with what it lists TIED to the program's text (the seventh form; the later family's looks); each row that meets fmt, with fmt's text TOLD by the authors' own Lean function (tested against real Go, not proved from fmt's source: count such statements apart). THE CARD IS WHAT COUNTS. Prove the row's statement (the work); the ties are given (YtdnkgacjibjlhaaGreatDoorTie.lean); close each card by the builder's one call (the guide's Derived/Test/ToyasCard.lean, 'card_holds'). Laid BY PROGRAM, IN A SANDBOX (cutbox-door.mjs). By AI agents, Wed Nov 11 2026. No macro, syntax, notation, axiom, sorry.
-/
import Derived.Test.YtdnkgacjibjlhaaGreatDoorRows
import GoSem.ClaimSeven
namespace Go.Proofs.YtdnkgacjibjlhaaGreatDoor
namespace Rows

/-- THE TIED CARD OF 'astrolabelaw45.SlimRuns'. -/
def slimRunsCard : Claim7 := { stood := { row := slimRunsRow, standIns := [], harness := (true, "c63a311350840c417b9e8700bca87038fbce7ac577857244ba0480b78b7ac925"), looks := false }, kinds := [], alts := [], laidByText := true, laidKinds := [.data], laidTests := true, laidLooks := .later }
def SlimRunsCardSaid : Prop := Claim7.holds Tryz.pinned (.plain (OpenSpec.ofChange slimRunsSpec)) slimRunsCard

/-- THE SECOND FORM's CARD OF 'astrolabelaw45.SlimRuns'. -/
def slimRunsUptoCard : Claim7 := { stood := { row := slimRunsUptoRow, standIns := [], harness := (true, "c63a311350840c417b9e8700bca87038fbce7ac577857244ba0480b78b7ac925"), looks := false }, kinds := [], alts := [], laidByText := true, laidKinds := [.data], laidTests := true, laidLooks := .later }
def SlimRunsUptoCardSaid : Prop := Claim7.holds Tryz.pinned (.plain (OpenSpec.upto slimRunsSpec)) slimRunsUptoCard
end Rows
end Go.Proofs.YtdnkgacjibjlhaaGreatDoor
