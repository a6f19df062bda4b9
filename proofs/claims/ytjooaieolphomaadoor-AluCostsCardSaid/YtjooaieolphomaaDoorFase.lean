/-
  The engine (with loops) at this seat's program: what it asks of a program.
-/
import Derived.Test.YtjooaieolphomaaDoorFts
import Derived.Test.YtjooaieolphomaaDoorFngTK
import Derived.WalkKit
import Derived.ProofKit
set_option linter.unusedVariables false
set_option linter.unusedSimpArgs false
namespace Go.Proofs.YtjooaieolphomaaDoor
open Go.Eng Go.RowKit

theorem nogo : (Tryd.prog.funcs.all fun fn => fn.name != "runtime.NumGoroutine") = true := by kernel_rfl
theorem mixedOk : Tryd.prog.follows .mixedOrders = true := by kernel_rfl

set_option maxRecDepth 100000 in
/-- n: how deep a number may be without a name (0: none is named) -/
noncomputable def cxOf (n : Nat) (l : List (Int × Int)) (ins : List InD) : Cx :=
  { P := Tryd.prog, Γ := l, Φ := phiN, F := fN, lf := lfN, ins := ins, sh := n, und := undB tyB, inf := infB tyB, fn := fnB fuB,
    undOk := undB_ok tyB_ok, infOk := fun _ _ h => BT.find_all tyB_ok h, fnOk := fun _ _ h => BT.find_all fuB_ok h }
set_option maxRecDepth 100000 in
theorem cxOf_ok (n : Nat) (l : List (Int × Int)) (ins : List InD) : CxOk (cxOf n l ins) :=
  ⟨mixedOk, fun f fn h => by
    have h1 := Array.all_eq_true.1 nogo
    obtain ⟨h2, h3⟩ := Array.getElem?_eq_some_iff.1 h
    have := h1 f h2
    have h4 : (Tryd.prog.funcs[f]'h2) = fn := h3
    rw [h4] at this
    simpa using this⟩

theorem list1 {l : List Int} (h : l.length = 1) : ∃ a, l = [a] := by
  match l, h with
  | [a], _ => exact ⟨a, rfl⟩
theorem list2 {l : List Int} (h : l.length = 2) : ∃ a b, l = [a, b] := by
  match l, h with
  | [a, b], _ => exact ⟨a, b, rfl⟩
theorem list3 {l : List Int} (h : l.length = 3) : ∃ a b c, l = [a, b, c] := by
  match l, h with
  | [a, b, c], _ => exact ⟨a, b, c, rfl⟩
theorem list4 {l : List Int} (h : l.length = 4) : ∃ a b c d, l = [a, b, c, d] := by
  match l, h with
  | [a, b, c, d], _ => exact ⟨a, b, c, d, rfl⟩

/-- the engine's runs -/
abbrev SMs := Nat → List (Int × Int) → List InD → SM
def SMsOk (sm : SMs) : Prop := ∀ n l ins, SmOk (cxOf n l ins) (sm n l ins)
noncomputable def runC (sm : SMs) (n : Nat) (l : List (Int × Int)) (ins : List InD) : CF := execFn (cxOf n l ins) (rtsB rtB) (sm n l ins) (fun _ _ => none) 40 30
theorem xok0 (cx : Cx) : XOk cx (fun _ _ => none) := fun _ _ _ _ _ _ _ h => by cases h
theorem runC_ok {sm : SMs} (h : SMsOk sm) (n : Nat) (l : List (Int × Int)) (ins : List InD) : CallOk (cxOf n l ins) (runC sm n l ins) := execFn_ok (cxOf_ok n l ins) rtB_ok (h n l ins) (xok0 _) _
noncomputable def runT (sm : SMs) (lhs : LHS) (n : Nat) (l : List (Int × Int)) (ins : List InD) : CFT := execFnT (cxOf n l ins) (rtsB rtB) (sm n l ins) (fun _ _ => none) lhs (runC sm n l ins) 40 30
theorem runT_ok {sm : SMs} (h : SMsOk sm) (lhs : LHS) (n : Nat) (l : List (Int × Int)) (ins : List InD) : CallOkT (cxOf n l ins) (runT sm lhs n l ins) :=
  execFnT_ok (cxOf_ok n l ins) rtB_ok (h n l ins) (xok0 _) (runC_ok h n l ins) _
end Go.Proofs.YtjooaieolphomaaDoor
