/-
  DERIVED. GIVEN WITH THE SEED: THE CARDS: each row of YtjooaieolphomaaDoorRows.lean that lists a variable, with what it lists TIED to the program's text (the seventh form; the later family's looks); each row that meets fmt, with fmt's text TOLD by the authors' own Lean function (tested against real Go, not proved from fmt's source: count such statements apart). THE CARD IS WHAT COUNTS. Prove the row's statement (the work); the ties are given (YtjooaieolphomaaDoorTie.lean); close each card by the builder's one call (the guide's Derived/Test/ToyasCard.lean, 'card_holds'). Laid BY PROGRAM, IN A SANDBOX (cutbox-door.mjs). By AI agents, Wed Nov 11 2026. No macro, syntax, notation, axiom, sorry.
-/
import Derived.Test.YtjooaieolphomaaDoorRows
import GoSem.ClaimSeven
namespace Go.Proofs.YtjooaieolphomaaDoor
namespace Rows

/-- THE TIED CARD OF 'astrolabelaw07.AluBits'. -/
def aluBitsCard : Claim7 := { stood := { row := aluBitsRow, standIns := [], harness := (true, "a66708c7ca074a02a54ef07774f954fca9e4cd7dd1bfbf93ef4caf8b965f6961"), looks := false }, kinds := [], alts := [], laidByText := true, laidKinds := [.data], laidTests := true, laidLooks := .later }
def AluBitsCardSaid : Prop := Claim7.holds Tryd.pinned (.plain (OpenSpec.ofChange aluBitsSpec)) aluBitsCard

/-- THE TIED CARD OF 'astrolabelaw07.AluDivides'. -/
def aluDividesCard : Claim7 := { stood := { row := aluDividesRow, standIns := [], harness := (true, "a66708c7ca074a02a54ef07774f954fca9e4cd7dd1bfbf93ef4caf8b965f6961"), looks := false }, kinds := [], alts := [], laidByText := true, laidKinds := [.data], laidTests := true, laidLooks := .later }
def AluDividesCardSaid : Prop := Claim7.holds Tryd.pinned (.plain (OpenSpec.ofChange aluDividesSpec)) aluDividesCard

/-- THE TIED CARD OF 'astrolabelaw07.AluParts'. -/
def aluPartsCard : Claim7 := { stood := { row := aluPartsRow, standIns := [], harness := (true, "a66708c7ca074a02a54ef07774f954fca9e4cd7dd1bfbf93ef4caf8b965f6961"), looks := false }, kinds := [], alts := [], laidByText := true, laidKinds := [.data], laidTests := true, laidLooks := .later }
def AluPartsCardSaid : Prop := Claim7.holds Tryd.pinned (.plain (OpenSpec.ofChange aluPartsSpec)) aluPartsCard

/-- THE TIED CARD OF 'astrolabelaw07.AluCosts'. -/
def aluCostsCard : Claim7 := { stood := { row := aluCostsRow, standIns := [], harness := (true, "a66708c7ca074a02a54ef07774f954fca9e4cd7dd1bfbf93ef4caf8b965f6961"), looks := false }, kinds := [], alts := [], laidByText := true, laidKinds := [.data], laidTests := true, laidLooks := .later }
def AluCostsCardSaid : Prop := Claim7.holds Tryd.pinned (.plain (OpenSpec.ofChange aluCostsSpec)) aluCostsCard

/-- THE SECOND FORM's CARD OF 'astrolabelaw07.AluBits'. -/
def aluBitsUptoCard : Claim7 := { stood := { row := aluBitsUptoRow, standIns := [], harness := (true, "a66708c7ca074a02a54ef07774f954fca9e4cd7dd1bfbf93ef4caf8b965f6961"), looks := false }, kinds := [], alts := [], laidByText := true, laidKinds := [.data], laidTests := true, laidLooks := .later }
def AluBitsUptoCardSaid : Prop := Claim7.holds Tryd.pinned (.plain (OpenSpec.upto aluBitsSpec)) aluBitsUptoCard

/-- THE SECOND FORM's CARD OF 'astrolabelaw07.AluDivides'. -/
def aluDividesUptoCard : Claim7 := { stood := { row := aluDividesUptoRow, standIns := [], harness := (true, "a66708c7ca074a02a54ef07774f954fca9e4cd7dd1bfbf93ef4caf8b965f6961"), looks := false }, kinds := [], alts := [], laidByText := true, laidKinds := [.data], laidTests := true, laidLooks := .later }
def AluDividesUptoCardSaid : Prop := Claim7.holds Tryd.pinned (.plain (OpenSpec.upto aluDividesSpec)) aluDividesUptoCard

/-- THE SECOND FORM's CARD OF 'astrolabelaw07.AluParts'. -/
def aluPartsUptoCard : Claim7 := { stood := { row := aluPartsUptoRow, standIns := [], harness := (true, "a66708c7ca074a02a54ef07774f954fca9e4cd7dd1bfbf93ef4caf8b965f6961"), looks := false }, kinds := [], alts := [], laidByText := true, laidKinds := [.data], laidTests := true, laidLooks := .later }
def AluPartsUptoCardSaid : Prop := Claim7.holds Tryd.pinned (.plain (OpenSpec.upto aluPartsSpec)) aluPartsUptoCard

/-- THE SECOND FORM's CARD OF 'astrolabelaw07.AluCosts'. -/
def aluCostsUptoCard : Claim7 := { stood := { row := aluCostsUptoRow, standIns := [], harness := (true, "a66708c7ca074a02a54ef07774f954fca9e4cd7dd1bfbf93ef4caf8b965f6961"), looks := false }, kinds := [], alts := [], laidByText := true, laidKinds := [.data], laidTests := true, laidLooks := .later }
def AluCostsUptoCardSaid : Prop := Claim7.holds Tryd.pinned (.plain (OpenSpec.upto aluCostsSpec)) aluCostsUptoCard
end Rows
end Go.Proofs.YtjooaieolphomaaDoor
