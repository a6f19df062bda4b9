/-
  DERIVED. GIVEN WITH THE SEED: THE CARDS: each row of YtefpbddmpiaaiaaDoorRows.lean that lists a variable, with what it lists TIED to the program's text (the seventh form; the later family's looks); each row that meets fmt, with fmt's text TOLD by the authors' own Lean function (tested against real Go, not proved from fmt's source: count such statements apart). THE CARD IS WHAT COUNTS. Prove the row's statement (the work); the ties are given (YtefpbddmpiaaiaaDoorTie.lean); close each card by the builder's one call (the guide's Derived/Test/ToyasCard.lean, 'card_holds'). Laid BY PROGRAM, IN A SANDBOX (cutbox-door.mjs). By AI agents, Wed Nov 11 2026. No macro, syntax, notation, axiom, sorry.
-/
import Derived.Test.YtefpbddmpiaaiaaDoorRows
import GoSem.ClaimSeven
namespace Go.Proofs.YtefpbddmpiaaiaaDoor
namespace Rows

/-- THE TIED CARD OF 'astrolabelaw20.PlanPlays'. -/
def planPlaysCard : Claim7 := { stood := { row := planPlaysRow, standIns := [], harness := (true, "3af9951820d07a131011abb214dee3234aae3cc238946aa47dc37e3b05040692"), looks := true }, kinds := [], alts := [], laidByText := true, laidKinds := [.data, .pinned], laidTests := true, laidLooks := .later }
def PlanPlaysCardSaid : Prop := Claim7.holds Tryd.pinned (.plain (OpenSpec.ofChange planPlaysSpec)) planPlaysCard

/-- THE TIED CARD OF 'astrolabelaw20.PlanSides'. -/
def planSidesCard : Claim7 := { stood := { row := planSidesRow, standIns := [], harness := (true, "3af9951820d07a131011abb214dee3234aae3cc238946aa47dc37e3b05040692"), looks := true }, kinds := [], alts := [], laidByText := true, laidKinds := [.data, .pinned], laidTests := true, laidLooks := .later }
def PlanSidesCardSaid : Prop := Claim7.holds Tryd.pinned (.plain (OpenSpec.ofChange planSidesSpec)) planSidesCard

/-- THE TIED CARD OF 'astrolabelaw19.LabelPlays'. -/
def labelPlaysCard : Claim7 := { stood := { row := labelPlaysRow, standIns := [], harness := (true, "3af9951820d07a131011abb214dee3234aae3cc238946aa47dc37e3b05040692"), looks := true }, kinds := [], alts := [], laidByText := true, laidKinds := [.data, .handle, .pinned], laidTests := true, laidLooks := .later }
def LabelPlaysCardSaid : Prop := Claim7.holds Tryd.pinned (.plain (OpenSpec.ofChange labelPlaysSpec)) labelPlaysCard

/-- THE TIED CARD OF 'astrolabelaw19.LabelTurned'. -/
def labelTurnedCard : Claim7 := { stood := { row := labelTurnedRow, standIns := [], harness := (true, "3af9951820d07a131011abb214dee3234aae3cc238946aa47dc37e3b05040692"), looks := true }, kinds := [], alts := [], laidByText := true, laidKinds := [.data, .handle, .pinned], laidTests := true, laidLooks := .later }
def LabelTurnedCardSaid : Prop := Claim7.holds Tryd.pinned (.plain (OpenSpec.ofChange labelTurnedSpec)) labelTurnedCard

/-- THE SECOND FORM's CARD OF 'astrolabelaw20.PlanPlays'. -/
def planPlaysUptoCard : Claim7 := { stood := { row := planPlaysUptoRow, standIns := [], harness := (true, "3af9951820d07a131011abb214dee3234aae3cc238946aa47dc37e3b05040692"), looks := true }, kinds := [], alts := [], laidByText := true, laidKinds := [.data, .pinned], laidTests := true, laidLooks := .later }
def PlanPlaysUptoCardSaid : Prop := Claim7.holds Tryd.pinned (.plain (OpenSpec.upto planPlaysSpec)) planPlaysUptoCard

/-- THE SECOND FORM's CARD OF 'astrolabelaw20.PlanSides'. -/
def planSidesUptoCard : Claim7 := { stood := { row := planSidesUptoRow, standIns := [], harness := (true, "3af9951820d07a131011abb214dee3234aae3cc238946aa47dc37e3b05040692"), looks := true }, kinds := [], alts := [], laidByText := true, laidKinds := [.data, .pinned], laidTests := true, laidLooks := .later }
def PlanSidesUptoCardSaid : Prop := Claim7.holds Tryd.pinned (.plain (OpenSpec.upto planSidesSpec)) planSidesUptoCard

/-- THE SECOND FORM's CARD OF 'astrolabelaw19.LabelPlays'. -/
def labelPlaysUptoCard : Claim7 := { stood := { row := labelPlaysUptoRow, standIns := [], harness := (true, "3af9951820d07a131011abb214dee3234aae3cc238946aa47dc37e3b05040692"), looks := true }, kinds := [], alts := [], laidByText := true, laidKinds := [.data, .handle, .pinned], laidTests := true, laidLooks := .later }
def LabelPlaysUptoCardSaid : Prop := Claim7.holds Tryd.pinned (.plain (OpenSpec.upto labelPlaysSpec)) labelPlaysUptoCard

/-- THE SECOND FORM's CARD OF 'astrolabelaw19.LabelTurned'. -/
def labelTurnedUptoCard : Claim7 := { stood := { row := labelTurnedUptoRow, standIns := [], harness := (true, "3af9951820d07a131011abb214dee3234aae3cc238946aa47dc37e3b05040692"), looks := true }, kinds := [], alts := [], laidByText := true, laidKinds := [.data, .handle, .pinned], laidTests := true, laidLooks := .later }
def LabelTurnedUptoCardSaid : Prop := Claim7.holds Tryd.pinned (.plain (OpenSpec.upto labelTurnedSpec)) labelTurnedUptoCard
end Rows
end Go.Proofs.YtefpbddmpiaaiaaDoor
