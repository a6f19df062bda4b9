/-
  Layer 8's 'awake' answers true.
-/
import Derived.Test.YtjooaieolphomaaTmW
set_option linter.unusedVariables false
set_option linter.unusedSimpArgs false
namespace Go.Proofs.Ytjooaieolphomaa
open Go.Eng Go.RowKit

def gTrue : List SV → Option SV
  | [] => some (.bool (.c 1))
  | _ => .none

theorem gTrue_ok {cx : Cx} {f : FuncId} (h : ∀ w, Calls cx.P f #[] w fun e w' => e = .returned (.bool true) ∧ Below w.heap.size w w')
    (ρ : Env) (β : Nat → Nat × Nat) (w : World) (args : List SV) (v : SV) (hρ : EnvOk cx ρ) (hg : gTrue args = some v) :
    Calls cx.P f (SV.denL ρ β args).toArray w fun e w' => e = .returned (v.den ρ β) ∧ Below w.heap.size w w' := by
  unfold gTrue at hg
  split at hg <;> cases hg
  exact h w

theorem awake08 (w : World) : Calls Try.prog 25 #[] w fun e w' => e = .returned (.bool true) ∧ Below w.heap.size w w' :=
  truth_of (runW_ok []) (envOf_ok (bnd_nil [])) (f := 25) (args := []) (t := .leaf (.c 1)) (by kernel_rfl) (by simp [T.holds, E.ev]) rfl w

noncomputable def told8 (l : List (Int × Int)) : Eng.Told := (25, gTrue) :: toldW l
theorem told8_ok (l : List (Int × Int)) : ToldOk (cxOf l) (told8 l) := told_cons (gTrue_ok awake08) (toldW_ok l)
noncomputable def run8 (l : List (Int × Int)) : CF := execFn (cxOf l) (smOf (told8 l)) (fun _ _ => .none) 40 30
theorem run8_ok (l : List (Int × Int)) : CallOk (cxOf l) (run8 l) := execFn_ok (cxOf_ok l) (smOf_ok (told8_ok l)) (xok_none _) _
end Go.Proofs.Ytjooaieolphomaa
