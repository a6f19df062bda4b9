/-
  No cell of these rows narrows 'for every input' (looked for: loops, veiled, ifaces, maps, wideKeys, modest, calm, conditions, laid).
  DERIVED. THE GIVEN ROWS OF THIS SEAT. 14 by the template 'for every input the law returns true; each argument reads behind the call as it read before'; 0 by the template 'total and deterministic' (their statements: YtjooaieolphomaaTotals.lean).
  GIVEN WITH THE SEED: the statements are not yours to turn. If you find one false, say at which input.
  Laid BY PROGRAM, IN A SANDBOX (cutbox-rows.mjs): the forced cells as the released guide's own fill.sh prints them over the translation 0fb28e1d10bd0512… (all of the seat's roots in one cut). By AI agents, Wed Nov 11 2026. No macro, syntax, notation, axiom, sorry.
-/
import Derived.Test.YtjooaieolphomaaChecked
import GoSem.Claim
import GoSem.ClaimJoined
import GoSem.ClaimMapViews
import Derived.JoinedTies
import Derived.KernelRfl
namespace Go.Proofs.Ytjooaieolphomaa
/- THE CELL 'sum', in the pinned program and in every row, IS THE sha256 OF THE DUMP (.gsa) THAT YtjooaieolphomaaProg.lean LOADS. Nothing in Lean hashes anything: it is a label: what it is worth is what the hold of that sum in a sandbox is worth. -/
noncomputable def Try.pinned : Pinned := { name := "ytjooaieolphomaa", sum := "0fb28e1d10bd051287cd1d518cc094ee00accaf6596a8256081065f5ead12c5b", checked := Try.checked }
namespace Rows
def none {H : Type} : Left H := { results := [], args := [] }

/-- 'astrolabelaw12.BurstTells': WHATEVER THE INPUT: true; the input reads as it did. -/
def burstTellsSpec : ChangeSpec := { name := "burstTells", fn := fun _ => fun
  | [d1, d2, d3, d4] => { results := [.lit (.bool true)], args := [d1, d2, d3, d4] }
  | _ => none }
def burstTellsRow : OpenClaim := { program := "ytjooaieolphomaa", sum := "0fb28e1d10bd051287cd1d518cc094ee00accaf6596a8256081065f5ead12c5b", func := "astrolabe/astrolabelaw12.BurstTells", spec := "burstTells", unfollowed := true, recurses := true, apart := false }
def BurstTellsSaid : Prop := burstTellsRow.holds Try.pinned (OpenSpec.ofChange burstTellsSpec)

/-- ITS FALSE NEIGHBOUR: 'it returns false'. Refute it at one input. -/
def burstTellsWrong : ChangeSpec := { name := "burstTells", fn := fun _ => fun
  | [d1, d2, d3, d4] => { results := [.lit (.bool false)], args := [d1, d2, d3, d4] }
  | _ => none }
def BurstTellsWrongFalsely : Prop := burstTellsRow.holds Try.pinned (OpenSpec.ofChange burstTellsWrong)

/-- 'astrolabelaw12.BurstFlips': WHATEVER THE INPUT: true; the input reads as it did. -/
def burstFlipsSpec : ChangeSpec := { name := "burstFlips", fn := fun _ => fun
  | [d1, d2, d3] => { results := [.lit (.bool true)], args := [d1, d2, d3] }
  | _ => none }
def burstFlipsRow : OpenClaim := { program := "ytjooaieolphomaa", sum := "0fb28e1d10bd051287cd1d518cc094ee00accaf6596a8256081065f5ead12c5b", func := "astrolabe/astrolabelaw12.BurstFlips", spec := "burstFlips", unfollowed := true, recurses := true, apart := false }
def BurstFlipsSaid : Prop := burstFlipsRow.holds Try.pinned (OpenSpec.ofChange burstFlipsSpec)

/-- ITS FALSE NEIGHBOUR: 'it returns false'. Refute it at one input. -/
def burstFlipsWrong : ChangeSpec := { name := "burstFlips", fn := fun _ => fun
  | [d1, d2, d3] => { results := [.lit (.bool false)], args := [d1, d2, d3] }
  | _ => none }
def BurstFlipsWrongFalsely : Prop := burstFlipsRow.holds Try.pinned (OpenSpec.ofChange burstFlipsWrong)

/-- 'astrolabelaw08.RootSqrt': WHATEVER THE INPUT: true; the input reads as it did. -/
def rootSqrtSpec : ChangeSpec := { name := "rootSqrt", fn := fun _ => fun
  | [d] => { results := [.lit (.bool true)], args := [d] }
  | _ => none }
def rootSqrtRow : OpenClaim := { program := "ytjooaieolphomaa", sum := "0fb28e1d10bd051287cd1d518cc094ee00accaf6596a8256081065f5ead12c5b", func := "astrolabe/astrolabelaw08.RootSqrt", spec := "rootSqrt", unfollowed := true, recurses := true, apart := false }
def RootSqrtSaid : Prop := rootSqrtRow.holds Try.pinned (OpenSpec.ofChange rootSqrtSpec)

/-- ITS FALSE NEIGHBOUR: 'it returns false'. Refute it at one input. -/
def rootSqrtWrong : ChangeSpec := { name := "rootSqrt", fn := fun _ => fun
  | [d] => { results := [.lit (.bool false)], args := [d] }
  | _ => none }
def RootSqrtWrongFalsely : Prop := rootSqrtRow.holds Try.pinned (OpenSpec.ofChange rootSqrtWrong)

/-- 'astrolabelaw08.RootLevels': WHATEVER THE INPUT: true; the input reads as it did. -/
def rootLevelsSpec : ChangeSpec := { name := "rootLevels", fn := fun _ => fun
  | [d] => { results := [.lit (.bool true)], args := [d] }
  | _ => none }
def rootLevelsRow : OpenClaim := { program := "ytjooaieolphomaa", sum := "0fb28e1d10bd051287cd1d518cc094ee00accaf6596a8256081065f5ead12c5b", func := "astrolabe/astrolabelaw08.RootLevels", spec := "rootLevels", unfollowed := true, recurses := true, apart := false }
def RootLevelsSaid : Prop := rootLevelsRow.holds Try.pinned (OpenSpec.ofChange rootLevelsSpec)

/-- ITS FALSE NEIGHBOUR: 'it returns false'. Refute it at one input. -/
def rootLevelsWrong : ChangeSpec := { name := "rootLevels", fn := fun _ => fun
  | [d] => { results := [.lit (.bool false)], args := [d] }
  | _ => none }
def RootLevelsWrongFalsely : Prop := rootLevelsRow.holds Try.pinned (OpenSpec.ofChange rootLevelsWrong)

/-- 'astrolabelaw08.RootRecips': WHATEVER THE INPUT: true; the input reads as it did. -/
def rootRecipsSpec : ChangeSpec := { name := "rootRecips", fn := fun _ => fun
  | [d] => { results := [.lit (.bool true)], args := [d] }
  | _ => none }
def rootRecipsRow : OpenClaim := { program := "ytjooaieolphomaa", sum := "0fb28e1d10bd051287cd1d518cc094ee00accaf6596a8256081065f5ead12c5b", func := "astrolabe/astrolabelaw08.RootRecips", spec := "rootRecips", unfollowed := true, recurses := true, apart := false }
def RootRecipsSaid : Prop := rootRecipsRow.holds Try.pinned (OpenSpec.ofChange rootRecipsSpec)

/-- ITS FALSE NEIGHBOUR: 'it returns false'. Refute it at one input. -/
def rootRecipsWrong : ChangeSpec := { name := "rootRecips", fn := fun _ => fun
  | [d] => { results := [.lit (.bool false)], args := [d] }
  | _ => none }
def RootRecipsWrongFalsely : Prop := rootRecipsRow.holds Try.pinned (OpenSpec.ofChange rootRecipsWrong)

/-- 'astrolabelaw08.RootOnes': WHATEVER THE INPUT: true; the input reads as it did. -/
def rootOnesSpec : ChangeSpec := { name := "rootOnes", fn := fun _ => fun
  | [d] => { results := [.lit (.bool true)], args := [d] }
  | _ => none }
def rootOnesRow : OpenClaim := { program := "ytjooaieolphomaa", sum := "0fb28e1d10bd051287cd1d518cc094ee00accaf6596a8256081065f5ead12c5b", func := "astrolabe/astrolabelaw08.RootOnes", spec := "rootOnes", unfollowed := true, recurses := true, apart := false }
def RootOnesSaid : Prop := rootOnesRow.holds Try.pinned (OpenSpec.ofChange rootOnesSpec)

/-- ITS FALSE NEIGHBOUR: 'it returns false'. Refute it at one input. -/
def rootOnesWrong : ChangeSpec := { name := "rootOnes", fn := fun _ => fun
  | [d] => { results := [.lit (.bool false)], args := [d] }
  | _ => none }
def RootOnesWrongFalsely : Prop := rootOnesRow.holds Try.pinned (OpenSpec.ofChange rootOnesWrong)

/-- 'astrolabelaw08.RootTrue': WHATEVER THE INPUT: true; the input reads as it did. -/
def rootTrueSpec : ChangeSpec := { name := "rootTrue", fn := fun _ => fun
  | [d] => { results := [.lit (.bool true)], args := [d] }
  | _ => none }
def rootTrueRow : OpenClaim := { program := "ytjooaieolphomaa", sum := "0fb28e1d10bd051287cd1d518cc094ee00accaf6596a8256081065f5ead12c5b", func := "astrolabe/astrolabelaw08.RootTrue", spec := "rootTrue", unfollowed := true, recurses := true, apart := false }
def RootTrueSaid : Prop := rootTrueRow.holds Try.pinned (OpenSpec.ofChange rootTrueSpec)

/-- ITS FALSE NEIGHBOUR: 'it returns false'. Refute it at one input. -/
def rootTrueWrong : ChangeSpec := { name := "rootTrue", fn := fun _ => fun
  | [d] => { results := [.lit (.bool false)], args := [d] }
  | _ => none }
def RootTrueWrongFalsely : Prop := rootTrueRow.holds Try.pinned (OpenSpec.ofChange rootTrueWrong)

/-- 'astrolabelaw09.TurnTrue': WHATEVER THE INPUT: true; the input reads as it did. -/
def turnTrueSpec : ChangeSpec := { name := "turnTrue", fn := fun _ => fun
  | [d1, d2] => { results := [.lit (.bool true)], args := [d1, d2] }
  | _ => none }
def turnTrueRow : OpenClaim := { program := "ytjooaieolphomaa", sum := "0fb28e1d10bd051287cd1d518cc094ee00accaf6596a8256081065f5ead12c5b", func := "astrolabe/astrolabelaw09.TurnTrue", spec := "turnTrue", unfollowed := true, recurses := true, apart := false }
def TurnTrueSaid : Prop := turnTrueRow.holds Try.pinned (OpenSpec.ofChange turnTrueSpec)

/-- ITS FALSE NEIGHBOUR: 'it returns false'. Refute it at one input. -/
def turnTrueWrong : ChangeSpec := { name := "turnTrue", fn := fun _ => fun
  | [d1, d2] => { results := [.lit (.bool false)], args := [d1, d2] }
  | _ => none }
def TurnTrueWrongFalsely : Prop := turnTrueRow.holds Try.pinned (OpenSpec.ofChange turnTrueWrong)

/-- 'astrolabelaw09.TurnFolds': WHATEVER THE INPUT: true; the input reads as it did. -/
def turnFoldsSpec : ChangeSpec := { name := "turnFolds", fn := fun _ => fun
  | [d1, d2] => { results := [.lit (.bool true)], args := [d1, d2] }
  | _ => none }
def turnFoldsRow : OpenClaim := { program := "ytjooaieolphomaa", sum := "0fb28e1d10bd051287cd1d518cc094ee00accaf6596a8256081065f5ead12c5b", func := "astrolabe/astrolabelaw09.TurnFolds", spec := "turnFolds", unfollowed := true, recurses := true, apart := false }
def TurnFoldsSaid : Prop := turnFoldsRow.holds Try.pinned (OpenSpec.ofChange turnFoldsSpec)

/-- ITS FALSE NEIGHBOUR: 'it returns false'. Refute it at one input. -/
def turnFoldsWrong : ChangeSpec := { name := "turnFolds", fn := fun _ => fun
  | [d1, d2] => { results := [.lit (.bool false)], args := [d1, d2] }
  | _ => none }
def TurnFoldsWrongFalsely : Prop := turnFoldsRow.holds Try.pinned (OpenSpec.ofChange turnFoldsWrong)

/-- 'astrolabelaw09.TurnScales': WHATEVER THE INPUT: true; the input reads as it did. -/
def turnScalesSpec : ChangeSpec := { name := "turnScales", fn := fun _ => fun
  | [d1, d2, d3] => { results := [.lit (.bool true)], args := [d1, d2, d3] }
  | _ => none }
def turnScalesRow : OpenClaim := { program := "ytjooaieolphomaa", sum := "0fb28e1d10bd051287cd1d518cc094ee00accaf6596a8256081065f5ead12c5b", func := "astrolabe/astrolabelaw09.TurnScales", spec := "turnScales", unfollowed := true, recurses := true, apart := false }
def TurnScalesSaid : Prop := turnScalesRow.holds Try.pinned (OpenSpec.ofChange turnScalesSpec)

/-- ITS FALSE NEIGHBOUR: 'it returns false'. Refute it at one input. -/
def turnScalesWrong : ChangeSpec := { name := "turnScales", fn := fun _ => fun
  | [d1, d2, d3] => { results := [.lit (.bool false)], args := [d1, d2, d3] }
  | _ => none }
def TurnScalesWrongFalsely : Prop := turnScalesRow.holds Try.pinned (OpenSpec.ofChange turnScalesWrong)

/-- 'astrolabelaw10.QuatUnits': WHATEVER THE INPUT: true; the input reads as it did. -/
def quatUnitsSpec : ChangeSpec := { name := "quatUnits", fn := fun _ => fun
  | [d] => { results := [.lit (.bool true)], args := [d] }
  | _ => none }
def quatUnitsRow : OpenClaim := { program := "ytjooaieolphomaa", sum := "0fb28e1d10bd051287cd1d518cc094ee00accaf6596a8256081065f5ead12c5b", func := "astrolabe/astrolabelaw10.QuatUnits", spec := "quatUnits", unfollowed := true, recurses := true, apart := false }
def QuatUnitsSaid : Prop := quatUnitsRow.holds Try.pinned (OpenSpec.ofChange quatUnitsSpec)

/-- ITS FALSE NEIGHBOUR: 'it returns false'. Refute it at one input. -/
def quatUnitsWrong : ChangeSpec := { name := "quatUnits", fn := fun _ => fun
  | [d] => { results := [.lit (.bool false)], args := [d] }
  | _ => none }
def QuatUnitsWrongFalsely : Prop := quatUnitsRow.holds Try.pinned (OpenSpec.ofChange quatUnitsWrong)

/-- 'astrolabelaw10.QuatTurns': WHATEVER THE INPUT: true; the input reads as it did. -/
def quatTurnsSpec : ChangeSpec := { name := "quatTurns", fn := fun _ => fun
  | [d1, d2] => { results := [.lit (.bool true)], args := [d1, d2] }
  | _ => none }
def quatTurnsRow : OpenClaim := { program := "ytjooaieolphomaa", sum := "0fb28e1d10bd051287cd1d518cc094ee00accaf6596a8256081065f5ead12c5b", func := "astrolabe/astrolabelaw10.QuatTurns", spec := "quatTurns", unfollowed := true, recurses := true, apart := false }
def QuatTurnsSaid : Prop := quatTurnsRow.holds Try.pinned (OpenSpec.ofChange quatTurnsSpec)

/-- ITS FALSE NEIGHBOUR: 'it returns false'. Refute it at one input. -/
def quatTurnsWrong : ChangeSpec := { name := "quatTurns", fn := fun _ => fun
  | [d1, d2] => { results := [.lit (.bool false)], args := [d1, d2] }
  | _ => none }
def QuatTurnsWrongFalsely : Prop := quatTurnsRow.holds Try.pinned (OpenSpec.ofChange quatTurnsWrong)

/-- 'astrolabelaw09.TurnRound': WHATEVER THE INPUT: true; the input reads as it did. -/
def turnRoundSpec : ChangeSpec := { name := "turnRound", fn := fun _ => fun
  | [d] => { results := [.lit (.bool true)], args := [d] }
  | _ => none }
def turnRoundRow : OpenClaim := { program := "ytjooaieolphomaa", sum := "0fb28e1d10bd051287cd1d518cc094ee00accaf6596a8256081065f5ead12c5b", func := "astrolabe/astrolabelaw09.TurnRound", spec := "turnRound", unfollowed := true, recurses := true, apart := false }
def TurnRoundSaid : Prop := turnRoundRow.holds Try.pinned (OpenSpec.ofChange turnRoundSpec)

/-- ITS FALSE NEIGHBOUR: 'it returns false'. Refute it at one input. -/
def turnRoundWrong : ChangeSpec := { name := "turnRound", fn := fun _ => fun
  | [d] => { results := [.lit (.bool false)], args := [d] }
  | _ => none }
def TurnRoundWrongFalsely : Prop := turnRoundRow.holds Try.pinned (OpenSpec.ofChange turnRoundWrong)

/-- 'astrolabelaw10.QuatOnes': WHATEVER THE INPUT: true; the input reads as it did. -/
def quatOnesSpec : ChangeSpec := { name := "quatOnes", fn := fun _ => fun
  | [d1, d2] => { results := [.lit (.bool true)], args := [d1, d2] }
  | _ => none }
def quatOnesRow : OpenClaim := { program := "ytjooaieolphomaa", sum := "0fb28e1d10bd051287cd1d518cc094ee00accaf6596a8256081065f5ead12c5b", func := "astrolabe/astrolabelaw10.QuatOnes", spec := "quatOnes", unfollowed := true, recurses := true, apart := false }
def QuatOnesSaid : Prop := quatOnesRow.holds Try.pinned (OpenSpec.ofChange quatOnesSpec)

/-- ITS FALSE NEIGHBOUR: 'it returns false'. Refute it at one input. -/
def quatOnesWrong : ChangeSpec := { name := "quatOnes", fn := fun _ => fun
  | [d1, d2] => { results := [.lit (.bool false)], args := [d1, d2] }
  | _ => none }
def QuatOnesWrongFalsely : Prop := quatOnesRow.holds Try.pinned (OpenSpec.ofChange quatOnesWrong)

/- THE SECOND FORM. 'bulk': how many values and letters a reading holds, each counted each time it is reached (what is shared counts as often as it is met; a slice's spare places count too). A statement '..UptoSaid' is the law's where the arguments, and the package variables that the reading takes, are together of bulk at most 1048576: NARROWER than '..Said'. Prove '..Said' where nothing that the law and all that it calls make is longer than what came in: it says more and counts as full. Else prove '..UptoSaid'. A law counts once. -/
mutual
def uptoBulk {H : Type} : DataW H → Nat
  | .lit (.string bytes) => bytes.length + 1
  | .lit _ => 1
  | .nil => 1
  | .ptr d => uptoBulk d + 1
  | .slice elems spare => uptoBulkAll elems + uptoBulkAll spare + 1
  | .agg parts => uptoBulkAll parts + 1
  | .iface _ d => uptoBulk d + 1
  | .map entries => uptoBulkEntries entries + 1
  | .held _ => 1
def uptoBulkAll {H : Type} : List (DataW H) → Nat
  | [] => 0
  | d :: r => uptoBulk d + uptoBulkAll r
def uptoBulkEntries {H : Type} : List (Lit × DataW H) → Nat
  | [] => 0
  | x :: r => uptoBulkEntry x + uptoBulkEntries r
def uptoBulkEntry {H : Type} : Lit × DataW H → Nat
  | (.string bytes, d) => bytes.length + uptoBulk d + 1
  | (_, d) => uptoBulk d + 1
 end
def uptoSmall : (H : Type) → List (DataW H) → Bool := fun _ ds => decide (uptoBulkAll ds ≤ 1048576)
def OpenSpec.upto (s : _root_.Go.ChangeSpec) : _root_.Go.OpenSpec := { _root_.Go.OpenSpec.ofChange s with cond := some uptoSmall }

/-- 'astrolabelaw12.BurstTells', WHERE WHAT IT READS IS OF BULK AT MOST 1048576: true; the input reads as it did. -/
def burstTellsUptoRow : OpenClaim := { program := "ytjooaieolphomaa", sum := "0fb28e1d10bd051287cd1d518cc094ee00accaf6596a8256081065f5ead12c5b", func := "astrolabe/astrolabelaw12.BurstTells", spec := "burstTells", unfollowed := true, recurses := true, apart := false, narrowed := true }
def BurstTellsUptoSaid : Prop := burstTellsUptoRow.holds Try.pinned (OpenSpec.upto burstTellsSpec)

/-- 'astrolabelaw12.BurstFlips', WHERE WHAT IT READS IS OF BULK AT MOST 1048576: true; the input reads as it did. -/
def burstFlipsUptoRow : OpenClaim := { program := "ytjooaieolphomaa", sum := "0fb28e1d10bd051287cd1d518cc094ee00accaf6596a8256081065f5ead12c5b", func := "astrolabe/astrolabelaw12.BurstFlips", spec := "burstFlips", unfollowed := true, recurses := true, apart := false, narrowed := true }
def BurstFlipsUptoSaid : Prop := burstFlipsUptoRow.holds Try.pinned (OpenSpec.upto burstFlipsSpec)

/-- 'astrolabelaw08.RootSqrt', WHERE WHAT IT READS IS OF BULK AT MOST 1048576: true; the input reads as it did. -/
def rootSqrtUptoRow : OpenClaim := { program := "ytjooaieolphomaa", sum := "0fb28e1d10bd051287cd1d518cc094ee00accaf6596a8256081065f5ead12c5b", func := "astrolabe/astrolabelaw08.RootSqrt", spec := "rootSqrt", unfollowed := true, recurses := true, apart := false, narrowed := true }
def RootSqrtUptoSaid : Prop := rootSqrtUptoRow.holds Try.pinned (OpenSpec.upto rootSqrtSpec)

/-- 'astrolabelaw08.RootLevels', WHERE WHAT IT READS IS OF BULK AT MOST 1048576: true; the input reads as it did. -/
def rootLevelsUptoRow : OpenClaim := { program := "ytjooaieolphomaa", sum := "0fb28e1d10bd051287cd1d518cc094ee00accaf6596a8256081065f5ead12c5b", func := "astrolabe/astrolabelaw08.RootLevels", spec := "rootLevels", unfollowed := true, recurses := true, apart := false, narrowed := true }
def RootLevelsUptoSaid : Prop := rootLevelsUptoRow.holds Try.pinned (OpenSpec.upto rootLevelsSpec)

/-- 'astrolabelaw08.RootRecips', WHERE WHAT IT READS IS OF BULK AT MOST 1048576: true; the input reads as it did. -/
def rootRecipsUptoRow : OpenClaim := { program := "ytjooaieolphomaa", sum := "0fb28e1d10bd051287cd1d518cc094ee00accaf6596a8256081065f5ead12c5b", func := "astrolabe/astrolabelaw08.RootRecips", spec := "rootRecips", unfollowed := true, recurses := true, apart := false, narrowed := true }
def RootRecipsUptoSaid : Prop := rootRecipsUptoRow.holds Try.pinned (OpenSpec.upto rootRecipsSpec)

/-- 'astrolabelaw08.RootOnes', WHERE WHAT IT READS IS OF BULK AT MOST 1048576: true; the input reads as it did. -/
def rootOnesUptoRow : OpenClaim := { program := "ytjooaieolphomaa", sum := "0fb28e1d10bd051287cd1d518cc094ee00accaf6596a8256081065f5ead12c5b", func := "astrolabe/astrolabelaw08.RootOnes", spec := "rootOnes", unfollowed := true, recurses := true, apart := false, narrowed := true }
def RootOnesUptoSaid : Prop := rootOnesUptoRow.holds Try.pinned (OpenSpec.upto rootOnesSpec)

/-- 'astrolabelaw08.RootTrue', WHERE WHAT IT READS IS OF BULK AT MOST 1048576: true; the input reads as it did. -/
def rootTrueUptoRow : OpenClaim := { program := "ytjooaieolphomaa", sum := "0fb28e1d10bd051287cd1d518cc094ee00accaf6596a8256081065f5ead12c5b", func := "astrolabe/astrolabelaw08.RootTrue", spec := "rootTrue", unfollowed := true, recurses := true, apart := false, narrowed := true }
def RootTrueUptoSaid : Prop := rootTrueUptoRow.holds Try.pinned (OpenSpec.upto rootTrueSpec)

/-- 'astrolabelaw09.TurnTrue', WHERE WHAT IT READS IS OF BULK AT MOST 1048576: true; the input reads as it did. -/
def turnTrueUptoRow : OpenClaim := { program := "ytjooaieolphomaa", sum := "0fb28e1d10bd051287cd1d518cc094ee00accaf6596a8256081065f5ead12c5b", func := "astrolabe/astrolabelaw09.TurnTrue", spec := "turnTrue", unfollowed := true, recurses := true, apart := false, narrowed := true }
def TurnTrueUptoSaid : Prop := turnTrueUptoRow.holds Try.pinned (OpenSpec.upto turnTrueSpec)

/-- 'astrolabelaw09.TurnFolds', WHERE WHAT IT READS IS OF BULK AT MOST 1048576: true; the input reads as it did. -/
def turnFoldsUptoRow : OpenClaim := { program := "ytjooaieolphomaa", sum := "0fb28e1d10bd051287cd1d518cc094ee00accaf6596a8256081065f5ead12c5b", func := "astrolabe/astrolabelaw09.TurnFolds", spec := "turnFolds", unfollowed := true, recurses := true, apart := false, narrowed := true }
def TurnFoldsUptoSaid : Prop := turnFoldsUptoRow.holds Try.pinned (OpenSpec.upto turnFoldsSpec)

/-- 'astrolabelaw09.TurnScales', WHERE WHAT IT READS IS OF BULK AT MOST 1048576: true; the input reads as it did. -/
def turnScalesUptoRow : OpenClaim := { program := "ytjooaieolphomaa", sum := "0fb28e1d10bd051287cd1d518cc094ee00accaf6596a8256081065f5ead12c5b", func := "astrolabe/astrolabelaw09.TurnScales", spec := "turnScales", unfollowed := true, recurses := true, apart := false, narrowed := true }
def TurnScalesUptoSaid : Prop := turnScalesUptoRow.holds Try.pinned (OpenSpec.upto turnScalesSpec)

/-- 'astrolabelaw10.QuatUnits', WHERE WHAT IT READS IS OF BULK AT MOST 1048576: true; the input reads as it did. -/
def quatUnitsUptoRow : OpenClaim := { program := "ytjooaieolphomaa", sum := "0fb28e1d10bd051287cd1d518cc094ee00accaf6596a8256081065f5ead12c5b", func := "astrolabe/astrolabelaw10.QuatUnits", spec := "quatUnits", unfollowed := true, recurses := true, apart := false, narrowed := true }
def QuatUnitsUptoSaid : Prop := quatUnitsUptoRow.holds Try.pinned (OpenSpec.upto quatUnitsSpec)

/-- 'astrolabelaw10.QuatTurns', WHERE WHAT IT READS IS OF BULK AT MOST 1048576: true; the input reads as it did. -/
def quatTurnsUptoRow : OpenClaim := { program := "ytjooaieolphomaa", sum := "0fb28e1d10bd051287cd1d518cc094ee00accaf6596a8256081065f5ead12c5b", func := "astrolabe/astrolabelaw10.QuatTurns", spec := "quatTurns", unfollowed := true, recurses := true, apart := false, narrowed := true }
def QuatTurnsUptoSaid : Prop := quatTurnsUptoRow.holds Try.pinned (OpenSpec.upto quatTurnsSpec)

/-- 'astrolabelaw09.TurnRound', WHERE WHAT IT READS IS OF BULK AT MOST 1048576: true; the input reads as it did. -/
def turnRoundUptoRow : OpenClaim := { program := "ytjooaieolphomaa", sum := "0fb28e1d10bd051287cd1d518cc094ee00accaf6596a8256081065f5ead12c5b", func := "astrolabe/astrolabelaw09.TurnRound", spec := "turnRound", unfollowed := true, recurses := true, apart := false, narrowed := true }
def TurnRoundUptoSaid : Prop := turnRoundUptoRow.holds Try.pinned (OpenSpec.upto turnRoundSpec)

/-- 'astrolabelaw10.QuatOnes', WHERE WHAT IT READS IS OF BULK AT MOST 1048576: true; the input reads as it did. -/
def quatOnesUptoRow : OpenClaim := { program := "ytjooaieolphomaa", sum := "0fb28e1d10bd051287cd1d518cc094ee00accaf6596a8256081065f5ead12c5b", func := "astrolabe/astrolabelaw10.QuatOnes", spec := "quatOnes", unfollowed := true, recurses := true, apart := false, narrowed := true }
def QuatOnesUptoSaid : Prop := quatOnesUptoRow.holds Try.pinned (OpenSpec.upto quatOnesSpec)

end Rows
end Go.Proofs.Ytjooaieolphomaa
