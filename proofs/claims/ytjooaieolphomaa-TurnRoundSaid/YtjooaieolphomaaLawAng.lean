/-
  The program's angle, and its sine and cosine, told by whole numbers' functions: the engine's runs of them, as trees, answer what these say.
-/
import Derived.Test.YtjooaieolphomaaRows
import Derived.Test.YtjooaieolphomaaTmT
import Derived.Test.YtjooaieolphomaaTmAb
import Derived.Test.YtjooaieolphomaaFunA
import Derived.Test.YtjooaieolphomaaAng
import Derived.WalkKit
import Derived.ProofKit
namespace Go.Proofs.Ytjooaieolphomaa.lawAng
open Go.ChangeShapes Go.WideShapes Go.ChangeAt Go.RowKit
open Go.Eng
open Go.Tr (wavY wavX)
set_option linter.unusedVariables false
set_option linter.unusedSimpArgs false
set_option maxRecDepth 100000

def bd32 (cx : Cx) (v : SV) : Bool := match v with
  | .int .i32 e => ivIn (e.iv cx) (-2147483648) 2147483647
  | _ => false
def bdT (cx : Cx) : T SV → Bool
  | .leaf v => (match v with
    | .tup l => l.all (bd32 cx)
    | v => bd32 cx v)
  | .br e t f => bdT cx t && bdT cx f
  | .bad _ => true
  | .new i e t => Nat.ble cx.Γ.length i && bdT cx t
theorem bd32_ok {cx : Cx} {ρ : Env} (hρ : EnvOk cx ρ) {v : SV} (h : bd32 cx v = true) : -2147483648 ≤ outE v ρ ∧ outE v ρ ≤ 2147483647 := by
  unfold bd32 at h
  split at h
  · rename_i e; exact ivIn_ok h (E.iv_ok hρ e)
  · cases h
theorem bdT_ok {cx : Cx} : ∀ {t : T SV} {ρ : Env}, EnvOk cx ρ → bdT cx t = true → ∀ x ∈ t.outs ρ, -2147483648 ≤ x ∧ x ≤ 2147483647
  | .leaf v, ρ, hρ, h, x, hx => by
    simp only [bdT] at h
    simp only [T.outs] at hx
    split at h
    · simp only [outS, List.mem_map] at hx
      obtain ⟨v, hv, rfl⟩ := hx
      exact bd32_ok hρ (List.all_eq_true.1 h v hv)
    · rename_i v hv
      have hb := bd32_ok hρ h
      unfold bd32 at h
      split at h
      · rename_i e
        simp only [outS, List.mem_singleton] at hx
        subst hx
        exact hb
      · cases h
  | .br e t f, ρ, hρ, h, x, hx => by
    simp only [bdT, Bool.and_eq_true] at h
    simp only [T.outs] at hx
    split at hx
    · exact bdT_ok hρ h.1 x hx
    · exact bdT_ok hρ h.2 x hx
  | .bad _, ρ, hρ, h, x, hx => by simp [T.outs] at hx
  | .new i e t, ρ, hρ, h, x, hx => by
    simp only [bdT, Bool.and_eq_true] at h
    have hle := Nat.le_of_ble_eq_true h.1
    have hr : EnvOk cx (ρ.set i (e.ev ρ)) := envOk_of hρ (n := i) hle (fun j hj => by simp only [Env.set]; rw [if_neg (by omega)]) rfl rfl
    exact bdT_ok hr h.2 x hx
theorem getD_bd {l : List Int} (h : ∀ x ∈ l, -2147483648 ≤ x ∧ x ≤ 2147483647) (q : Nat) : -2147483648 ≤ l.getD q 0 ∧ l.getD q 0 ≤ 2147483647 := by
  rw [List.getD_eq_getElem?_getD]
  cases hq : l[q]? with
  | none => simp
  | some x => exact h x (List.mem_of_getElem? hq)

def in32 (x : Int) : Bool := decide (-2147483648 ≤ x) && decide (x ≤ 2147483647)
theorem in32_of {x : Int} (l : -2147483648 ≤ x) (u : x ≤ 2147483647) : in32 x = true := by unfold in32; simp [l, u]
def fnA (x y : Int) : List Int := if in32 x && in32 y then trT0.outs (envOf [x, y]) else [0]
def fnW (x y : Int) : List Int := if in32 x then trT1.outs (envOf [x, y]) else [0, 0]
theorem arA0 : T.ar 1 trT0 = true := by kernel_rfl
theorem arW0 : T.ar 2 trT1 = true := by kernel_rfl
theorem lenA (x y : Int) : (fnA x y).length = 1 := by unfold fnA; split; exact outs_len arA0; rfl
theorem lenW (x y : Int) : (fnW x y).length = 2 := by unfold fnW; split; exact outs_len arW0; rfl
noncomputable def cx2 : Cx := cxOf 2 [(-2147483648, 2147483647), (-2147483648, 2147483647)]
noncomputable def cx1 : Cx := cxOf 2 [(-2147483648, 2147483647)]
theorem env2 {x y : Int} (h1 : -2147483648 ≤ x) (h2 : x ≤ 2147483647) (h3 : -2147483648 ≤ y) (h4 : y ≤ 2147483647) : EnvOk cx2 (envOf [x, y]) :=
  envOf_ok (n := 2) (bnd_cons ⟨h1, h2⟩ (bnd_cons ⟨h3, h4⟩ (bnd_nil _)))
theorem env1 {x y : Int} (h1 : -2147483648 ≤ x) (h2 : x ≤ 2147483647) : EnvOk cx1 (envOf [x, y]) :=
  envOf_ok (n := 2) (g := [(-2147483648, 2147483647)]) (l := [x, y]) (bnd_cons (g := []) ⟨h1, h2⟩ (bnd_nil _))
theorem bdA0 : bdT cx2 trT0 = true := by kernel_rfl
theorem bdW0 : bdT cx1 trT1 = true := by kernel_rfl
theorem bdA (x y : Int) (q : Nat) : -2147483648 ≤ (fnA x y).getD q 0 ∧ (fnA x y).getD q 0 ≤ 2147483647 := by
  refine getD_bd ?_ q
  unfold fnA
  split
  · rename_i h
    simp only [in32, Bool.and_eq_true, decide_eq_true_eq] at h
    exact bdT_ok (env2 h.1.1 h.1.2 h.2.1 h.2.2) bdA0
  · simp
theorem bdW (x y : Int) (q : Nat) : -2147483648 ≤ (fnW x y).getD q 0 ∧ (fnW x y).getD q 0 ≤ 2147483647 := by
  refine getD_bd ?_ q
  unfold fnW
  split
  · rename_i h
    simp only [in32, Bool.and_eq_true, decide_eq_true_eq] at h
    exact bdT_ok (env1 h.1 h.2) bdW0
  · simp
theorem semA (x y : Int) (w : World) (l : -2147483648 ≤ x) (u : x ≤ 2147483647) (l2 : -2147483648 ≤ y) (u2 : y ≤ 2147483647) : Calls Try.prog 34 #[.int .i32 x, .int .i32 y] w fun e w' => e = .returned (mkV true (fnA x y)) ∧ Below w.heap.size w w' := by
  unfold fnA
  rw [if_pos (by rw [in32_of l u, in32_of l2 u2]; rfl)]
  exact sem_of (one := true) (tsT0 2 []) (by kernel_rfl) (envOf_ok (n := 2) (g := [(-2147483648, 2147483647), (-2147483648, 2147483647)]) (l := [x, y]) (bnd_cons ⟨l, u⟩ (bnd_cons (g := []) ⟨l2, u2⟩ (bnd_nil _)))) w rfl
theorem semW (x : Int) (w : World) (l : -2147483648 ≤ x) (u : x ≤ 2147483647) : Calls Try.prog 41 #[.int .i32 x] w fun e w' => e = .returned (mkV false (fnW x 0)) ∧ Below w.heap.size w w' := by
  unfold fnW
  rw [if_pos (in32_of l u)]
  exact sem_of (one := false) (tsT1 2 []) (by kernel_rfl) (envOf_ok (n := 2) (g := [(-2147483648, 2147483647)]) (l := [x, 0]) (bnd_cons (g := []) ⟨l, u⟩ (bnd_nil _))) w rfl
theorem aw (w : World) : Calls Try.prog 32 #[] w fun e w' => e = .returned (.bool true) ∧ Below w.heap.size w w' :=
  tmAb0 2 [] (envOf []) w (envOf_ok (n := 2) (bnd_nil _))

noncomputable def F' (n : Nat) (x y z : Int) : Int :=
  match n with
  | 4 => (fnA x y).getD 0 0
  | 5 => (fnW x y).getD 0 0
  | 6 => (fnW x y).getD 1 0
  | n => fN n x y z
def phi' (n : Nat) : Option (Int × Int) :=
  match n with
  | 4 => some (-2147483648, 2147483647)
  | 5 => some (-2147483648, 2147483647)
  | 6 => some (-2147483648, 2147483647)
  | n => phiN n
theorem F'_ok (n : Nat) (p : Int × Int) (x y z : Int) (h : phi' n = some p) : p.1 ≤ F' n x y z ∧ F' n x y z ≤ p.2 := by
  unfold phi' at h
  unfold F'
  split at h
  · cases h; exact bdA x y 0
  · cases h; exact bdW x y 0
  · cases h; exact bdW x y 1
  · exact phiN_ok _ p x y z h
noncomputable def cxL (g : List (Int × Int)) : Cx := { cxOf 2 g with F := F', Φ := phi' }
theorem cxL_ok (g : List (Int × Int)) : CxOk (cxL g) := ⟨(cxOf_ok 2 g).1, (cxOf_ok 2 g).2⟩
noncomputable def envL (l : List Int) : Env := ⟨fun i => l.getD i 0, F', fun _ => ptr0⟩
theorem envL_ok {g : List (Int × Int)} {l : List Int} (h : Bnd g l) : EnvOk (cxL g) (envL l) := ⟨h, F'_ok, fun _ => ⟨_, rfl⟩, rfl⟩
noncomputable def toldL (g : List (Int × Int)) : Eng.Told := [(34, gSym (cxL g) true 4 1 true), (41, gSym (cxL g) false 5 2 false), (32, gTrue)]
theorem toldL_ok (g : List (Int × Int)) : ToldOk (cxL g) (toldL g) :=
  told_cons (gSym_ok (g := fnA) lenA (fun _ => rfl) (fun j x y hj => by match j, hj with | 0, _ => rfl | j + 1, hj => exact absurd hj (by omega)) (fun h => by cases h) (fun _ x y w l u l2 u2 => semA x y w l u l2 u2))
    (told_cons (gSym_ok (g := fnW) lenW (fun h => by cases h) (fun j x y hj => by match j, hj with | 0, _ => rfl | 1, _ => rfl | j + 2, hj => exact absurd hj (by omega)) (fun _ x w l u => semW x w l u) (fun h => by cases h))
      (told_cons (gTrue_ok aw) (told_nil _)))
noncomputable def runL (g : List (Int × Int)) : CF := execFn (cxL g) (rtsB rtB) (smOf (toldL g)) (fun _ _ => none) 40 30
theorem runL_ok (g : List (Int × Int)) : CallOk (cxL g) (runL g) := execFn_ok (cxL_ok g) rtB_ok (smOf_ok (toldL_ok g)) (xok_none _) _

/-! ### what they answer, in whole numbers -/
theorem plainA (R : List Int → Prop) (a0 a1 : Int) : trT0.holdsL cx2 R (envOf [a0, a1]) = PA R a0 a1 := by kernel_rfl
theorem plainW (R : List Int → Prop) (a0 : Int) : trT1.holdsL cx1 R (envOf [a0, 0]) = PW R a0 := by kernel_rfl
theorem tidyA : T.tidyV cx2 [] trT0 = true := by kernel_rfl
theorem tidyW : T.tidyV cx1 [] trT1 = true := by kernel_rfl
theorem angF (y x : Int) (l0 : -2147483647 ≤ y) (u0 : y ≤ 2147483647) (l1 : -2147483647 ≤ x) (u1 : x ≤ 2147483647) (hz : y ≠ 0 ∨ x ≠ 0) (z : Int) : F' 4 y x z = angZ y x := by
  have hP := angE (fun l => l = [angZ y x]) y x l0 u0 l1 u1 hz rfl
  rw [← plainA] at hP
  have h := holdsL_ok (env2 (by omega) u0 (by omega) u1) (fun p hp => by cases hp) tidyA hP
  show (fnA y x).getD 0 0 = _
  unfold fnA
  rw [if_pos (by rw [in32_of (by omega) u0, in32_of (by omega) u1]; rfl), h]
  rfl
theorem wavF (a : Int) (l0 : -1686629713 ≤ a) (u0 : a ≤ 1686629713) (z : Int) : F' 5 a 0 z = wavY a ∧ F' 6 a 0 z = wavX a := by
  have hP := wavE (fun l => l = [wavY a, wavX a]) a l0 u0 rfl
  rw [← plainW] at hP
  have h := holdsL_ok (env1 (x := a) (y := 0) (by omega) (by omega)) (fun p hp => by cases hp) tidyW hP
  have e : fnW a 0 = [wavY a, wavX a] := by
    unfold fnW
    rw [if_pos (in32_of (by omega) (by omega)), h]
  show (fnW a 0).getD 0 0 = _ ∧ (fnW a 0).getD 1 0 = _
  rw [e]
  exact ⟨rfl, rfl⟩
end Go.Proofs.Ytjooaieolphomaa.lawAng
