/-
  DERIVED. GIVEN WITH THE SEED: THE CARDS: each row of YthfckifhnaoopabGreatDoorRows.lean that lists a variable, with what it lists TIED to the program's text (the seventh form; the later family's looks); each row that meets fmt, with fmt's text TOLD by the authors' own Lean function (tested against real Go, not proved from fmt's source: count such statements apart). THE CARD IS WHAT COUNTS. Prove the row's statement (the work); the ties are given (YthfckifhnaoopabGreatDoorTie.lean); close each card by the builder's one call (the guide's Derived/Test/ToyasCard.lean, 'card_holds'). Laid BY PROGRAM, IN A SANDBOX (cutbox-door.mjs). By AI agents, Wed Nov 11 2026. No macro, syntax, notation, axiom, sorry.
-/
import Derived.Test.YthfckifhnaoopabGreatDoorRows
import GoSem.ClaimSeven
namespace Go.Proofs.YthfckifhnaoopabGreatDoor
namespace Rows

/-- THE TIED CARD OF 'astrolabelaw18.GraphOnce'. -/
def graphOnceCard : Claim7 := { stood := { row := graphOnceRow, standIns := [], harness := (true, "27e0754a92f5b7f7bcccec73972881dfef80889151914ed620c144d7dc2facd2"), looks := false }, kinds := [], alts := [], laidByText := true, laidKinds := [.data], laidTests := true, laidLooks := .later }
def GraphOnceCardSaid : Prop := Claim7.holds Tryz.pinned (.plain (OpenSpec.ofChange graphOnceSpec)) graphOnceCard

/-- THE SECOND FORM's CARD OF 'astrolabelaw18.GraphOnce'. -/
def graphOnceUptoCard : Claim7 := { stood := { row := graphOnceUptoRow, standIns := [], harness := (true, "27e0754a92f5b7f7bcccec73972881dfef80889151914ed620c144d7dc2facd2"), looks := false }, kinds := [], alts := [], laidByText := true, laidKinds := [.data], laidTests := true, laidLooks := .later }
def GraphOnceUptoCardSaid : Prop := Claim7.holds Tryz.pinned (.plain (OpenSpec.upto graphOnceSpec)) graphOnceUptoCard
end Rows
end Go.Proofs.YthfckifhnaoopabGreatDoor
