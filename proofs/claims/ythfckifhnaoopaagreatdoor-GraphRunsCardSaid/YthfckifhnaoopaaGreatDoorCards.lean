/-
  DERIVED. GIVEN WITH THE SEED: THE CARDS: each row of YthfckifhnaoopaaGreatDoorRows.lean that lists a variable, with what it lists TIED to the program's text (the seventh form; the later family's looks); each row that meets fmt, with fmt's text TOLD by the authors' own Lean function (tested against real Go, not proved from fmt's source: count such statements apart). THE CARD IS WHAT COUNTS. Prove the row's statement (the work); the ties are given (YthfckifhnaoopaaGreatDoorTie.lean); close each card by the builder's one call (the guide's Derived/Test/ToyasCard.lean, 'card_holds'). Laid BY PROGRAM, IN A SANDBOX (cutbox-door.mjs). By AI agents, Wed Nov 11 2026. No macro, syntax, notation, axiom, sorry.
-/
import Derived.Test.YthfckifhnaoopaaGreatDoorRows
import GoSem.ClaimSeven
namespace Go.Proofs.YthfckifhnaoopaaGreatDoor
namespace Rows

/-- THE TIED CARD OF 'astrolabelaw18.GraphRuns'. -/
def graphRunsCard : Claim7 := { stood := { row := graphRunsRow, standIns := [], harness := (true, "4d6ab5f93aea42987fe5f621ef4250b99f025ba75bbda70df0f5779b558b1ca1"), looks := false }, kinds := [], alts := [], laidByText := true, laidKinds := [.data], laidTests := true, laidLooks := .later }
def GraphRunsCardSaid : Prop := Claim7.holds Tryz.pinned (.plain (OpenSpec.ofChange graphRunsSpec)) graphRunsCard

/-- THE SECOND FORM's CARD OF 'astrolabelaw18.GraphRuns'. -/
def graphRunsUptoCard : Claim7 := { stood := { row := graphRunsUptoRow, standIns := [], harness := (true, "4d6ab5f93aea42987fe5f621ef4250b99f025ba75bbda70df0f5779b558b1ca1"), looks := false }, kinds := [], alts := [], laidByText := true, laidKinds := [.data], laidTests := true, laidLooks := .later }
def GraphRunsUptoCardSaid : Prop := Claim7.holds Tryz.pinned (.plain (OpenSpec.upto graphRunsSpec)) graphRunsUptoCard
end Rows
end Go.Proofs.YthfckifhnaoopaaGreatDoor
