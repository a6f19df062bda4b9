/-
  The law AluTells answers true at every input: the law's function is run by the engine (a program's symbolic run, proved sound), and the tree of its answers, as a plain statement, is shown to hold. No condition but the table that the row lays, tied to the program's text by the card.
-/
import Derived.Test.YtjooaieolphomaaGreatDoorRows
import Derived.Test.YtjooaieolphomaaGreatDoorCards
import Derived.Test.YtjooaieolphomaaGreatDoorTie
import Derived.Test.YtjooaieolphomaaGreatDoorFmM
import Derived.Test.YtjooaieolphomaaGreatDoorEu4
import Derived.Test.YtjooaieolphomaaGreatDoorEu5
import Derived.WalkKit
import Derived.ProofKit
import Derived.OpenShut
import Derived.LaidMore
import Derived.Stop.Joined
import Derived.SevenTiedAt
namespace Go.Proofs.YtjooaieolphomaaGreatDoor.aluTells
open Go.ChangeShapes Go.WideShapes Go.ChangeAt Go.RowKit
open Go.Eng
set_option linter.unusedVariables false
set_option linter.unusedSimpArgs false

theorem own : ownKnob Tryz.prog.godebug = none := by kernel_rfl

set_option maxRecDepth 100000
def tab0 : List Int := [1, 1, 1, 1, 1, 1, 1, 1, 1, 1, 1, 1, 1, 1, 1, 1, 1, 3, 3, 3, 3, 2, 2, 1, 1, 1, 1, 1, 1, 1, 1, 1, 1, 2, 2, 1, 1, 1, 3, 3, 3, 1, 1]
theorem tabG0 : Tryz.prog.globalNamed "astrolabe/ops.costs" = some 0 := by kernel_rfl
theorem tabW0 : ∀ z ∈ tab0, IntKind.wrap .i64 z = z := fun z hz => by
  have h := List.all_eq_true.1 (show tab0.all (fun z => decide (IntKind.wrap .i64 z = z)) = true by kernel_rfl) z hz
  simpa using h

theorem n01 {x y : Int} : bool01 (x != y) ≠ 0 ↔ x ≠ y := by by_cases h : x = y <;> simp [bool01, h]
theorem n01e {x y : Int} : bool01 (x != y) = 0 ↔ x = y := by by_cases h : x = y <;> simp [bool01, h]


/-! ### who is awake: told once -/
abbrev INS : List InD := [⟨[.int .i64], .v 3, .c 43, .c 43, some 0⟩]
def awE : E := .b .eq .i64 (.w .i64 (.b .padd .i64 (.w .i64 (.f 13 (.v 3) (.c 21) (.c 0))) (.c 3))) (.c 5)
noncomputable def run0 : CF := execFn (cxOf 0 [] INS) (rtsB rtB) (smM 0 [] INS) (fun _ _ => none) 40 30
theorem aw_run : oneIs (run0 8 [] ⟨[], []⟩) (.bool awE) = true := by kernel_rfl
theorem one_calls {cx : Cx} {cf : CF} (hcf : CallOk cx cf) {f : FuncId} {res : SV} (h : oneIs (cf f [] ⟨[], []⟩) res = true) {ρ : Env} {w : World} (hρ : EnvOk cx ρ) (hro : RoOk ρ b0 ⟨[], []⟩ w) :
    Calls cx.P f #[] w fun e w' => e = .returned (res.den ρ b0) ∧ Below w.heap.size w w' := by
  unfold oneIs at h
  split at h
  · rename_i v hv
    have := SV.eq_of_beq _ _ h
    subst this
    have hg := T.one_gives (ρ := ρ) hv
    obtain ⟨u, s', hsel, hsc, hX⟩ := projV_sel hg
    refine (hcf ρ b0 _ _ w f [] _ hρ (sat_nil hro) hsel).mono ?_
    rintro x w' ⟨β', rfl, _, hx⟩
    refine ⟨?_, below_ext rfl hx⟩
    rw [← hX, SV.den_sc (n := 0) (fun j hj => by omega) u hsc]
  · cases h
theorem env_nil {n m : Nat} {l : List (Int × Int)} {ins : List InD} {ρ : Env} (h : EnvOk (cxOf n l ins) ρ) : EnvOk (cxOf m [] ins) ρ :=
  ⟨fun i p h => by have h' : ([] : List (Int × Int))[i]? = some p := h
                   simp at h', h.hf, h.hv, h.hF, h.hro⟩
theorem run0_ok : CallOk (cxOf 0 [] INS) run0 := execFn_ok (cxOf_ok 0 [] INS) rtB_ok (smM_ok 0 [] INS) (xok0 _) _
theorem aw_calls {l : List (Int × Int)} {ρ : Env} {w : World} (hρ : EnvOk (cxOf 2 l INS) ρ) (hro : RoOk ρ b0 ⟨[], []⟩ w) :
    Calls Tryz.prog 8 #[] w fun e w' => e = .returned (.bool (awE.ev ρ != 0)) ∧ Below w.heap.size w w' :=
  one_calls run0_ok aw_run (env_nil hρ) hro
noncomputable def smAw : SM := fun f args s => if f == 8 then (match args with
  | [] => some (ret s (.bool awE))
  | _ => none) else none
theorem smAw_ok (l : List (Int × Int)) : SmOk (cxOf 2 l INS) smAw := by
  intro ρ β s s' w f args r v hρ hs h hsel
  unfold smAw at h
  split at h
  · rename_i hf
    have hf' : f = 8 := by simpa using hf
    subst hf'
    split at h
    · cases h
      cases hsel
      refine (aw_calls hρ (fun k a i x e1 e2 => ⟨(hs.ro k a i x e1 e2).1, fun _ hj => absurd hj live_nil⟩)).mono ?_
      rintro e w' ⟨rfl, hb⟩
      exact ⟨β, rfl, sat_below hs hb, ext_below hb⟩
    · cases h
  · cases h
noncomputable def smA (l : List (Int × Int)) : SM := smOr smAw (smM 2 l INS)
theorem smA_ok (l : List (Int × Int)) : SmOk (cxOf 2 l INS) (smA l) := smOr_ok (smAw_ok l) (smM_ok 2 l INS)
noncomputable def runA (l : List (Int × Int)) : CFT := execFnT (cxOf 2 l INS) (rtsB rtB) (smA l) (fun _ _ => none) (fun _ _ => .unroll 40) (execFn (cxOf 2 l INS) (rtsB rtB) (smA l) (fun _ _ => none) 40 30) 40 30
theorem runA_ok (l : List (Int × Int)) : CallOkT (cxOf 2 l INS) (runA l) :=
  execFnT_ok (cxOf_ok 2 l INS) rtB_ok (smA_ok l) (xok0 _) (execFn_ok (cxOf_ok 2 l INS) rtB_ok (smA_ok l) (xok0 _) _) _
end Go.Proofs.YtjooaieolphomaaGreatDoor.aluTells
