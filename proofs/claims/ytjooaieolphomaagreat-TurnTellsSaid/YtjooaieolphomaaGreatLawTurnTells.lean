/-
  The law TurnTells answers true at every input: each function that it holds against another one is told by a tree of numbers (the engine's run of it), and that the trees answer alike is shown as a plain statement. No condition.
-/
import Derived.Test.YtjooaieolphomaaGreatRows
import Derived.Test.YtjooaieolphomaaGreatTmAb
import Derived.Test.YtjooaieolphomaaGreatTmT
import Derived.Test.YtjooaieolphomaaGreatTmWc
import Derived.Test.YtjooaieolphomaaGreatTmWd
import Derived.Test.YtjooaieolphomaaGreatTmWe
import Derived.Test.YtjooaieolphomaaGreatFunA
import Derived.Test.YtjooaieolphomaaGreatPlA
import Derived.Test.YtjooaieolphomaaGreatPlR
import Derived.Test.YtjooaieolphomaaGreatPlS
import Derived.Test.YtjooaieolphomaaGreatPlU
import Derived.Test.YtjooaieolphomaaGreatPlV
import Derived.WalkKit
import Derived.ProofKit
import Derived.OpenShut
namespace Go.Proofs.YtjooaieolphomaaGreat.turnTells
open Go.ChangeShapes Go.WideShapes Go.ChangeAt Go.RowKit
open Go.Eng
set_option linter.unusedVariables false
set_option linter.unusedSimpArgs false

theorem own : ownKnob Tryz.prog.godebug = none := by kernel_rfl

set_option maxRecDepth 100000
/-! ### what the functions answer -/
def fn0 (x y : Int) : List Int := trWe0.outs (envOf [x, y])
theorem ar0 : T.ar 3 trWe0 = true := by kernel_rfl
theorem sem0 (x y : Int) (w : World) (l : -2147483648 ≤ x) (u : x ≤ 2147483647) (l2 : -2147483648 ≤ y) (u2 : y ≤ 2147483647) : Calls Tryz.prog 16 #[.int .i32 x, .int .i32 y] w fun e w' => e = .returned (mkV false (fn0 x y)) ∧ Below w.heap.size w w' :=
  sem_of (one := false) (tsWe0 2 []) (by kernel_rfl) (envOf_ok (n := 2) (g := [(-2147483648, 2147483647), (-2147483648, 2147483647)]) (l := [x, y]) (bnd_cons ⟨l, u⟩ (bnd_cons (g := []) ⟨l2, u2⟩ (bnd_nil _)))) w rfl
def fn1 (x y : Int) : List Int := trWc0.outs (envOf [x, y])
theorem ar1 : T.ar 3 trWc0 = true := by kernel_rfl
theorem sem1 (x y : Int) (w : World) (l : -2147483648 ≤ x) (u : x ≤ 2147483647) (l2 : -2147483648 ≤ y) (u2 : y ≤ 2147483647) : Calls Tryz.prog 17 #[.int .i32 x, .int .i32 y] w fun e w' => e = .returned (mkV false (fn1 x y)) ∧ Below w.heap.size w w' :=
  sem_of (one := false) (tsWc0 2 []) (by kernel_rfl) (envOf_ok (n := 2) (g := [(-2147483648, 2147483647), (-2147483648, 2147483647)]) (l := [x, y]) (bnd_cons ⟨l, u⟩ (bnd_cons (g := []) ⟨l2, u2⟩ (bnd_nil _)))) w rfl
def fn2 (x y : Int) : List Int := trT0.outs (envOf [x, y])
theorem ar2 : T.ar 1 trT0 = true := by kernel_rfl
theorem sem2 (x y : Int) (w : World) (l : -2147483648 ≤ x) (u : x ≤ 2147483647) (l2 : -2147483648 ≤ y) (u2 : y ≤ 2147483647) : Calls Tryz.prog 20 #[.int .i32 x, .int .i32 y] w fun e w' => e = .returned (mkV true (fn2 x y)) ∧ Below w.heap.size w w' :=
  sem_of (one := true) (tsT0 2 []) (by kernel_rfl) (envOf_ok (n := 2) (g := [(-2147483648, 2147483647), (-2147483648, 2147483647)]) (l := [x, y]) (bnd_cons ⟨l, u⟩ (bnd_cons (g := []) ⟨l2, u2⟩ (bnd_nil _)))) w rfl
def fn3 (x y : Int) : List Int := trWd0.outs (envOf [x, y])
theorem ar3 : T.ar 1 trWd0 = true := by kernel_rfl
theorem sem3 (x y : Int) (w : World) (l : -2147483648 ≤ x) (u : x ≤ 2147483647) (l2 : -2147483648 ≤ y) (u2 : y ≤ 2147483647) : Calls Tryz.prog 21 #[.int .i32 x, .int .i32 y] w fun e w' => e = .returned (mkV true (fn3 x y)) ∧ Below w.heap.size w w' :=
  sem_of (one := true) (tsWd0 2 []) (by kernel_rfl) (envOf_ok (n := 2) (g := [(-2147483648, 2147483647), (-2147483648, 2147483647)]) (l := [x, y]) (bnd_cons ⟨l, u⟩ (bnd_cons (g := []) ⟨l2, u2⟩ (bnd_nil _)))) w rfl
theorem aw (w : World) : Calls Tryz.prog 22 #[] w fun e w' => e = .returned (.bool true) ∧ Below w.heap.size w w' :=
  tmAb0 2 [] (envOf []) w (envOf_ok (n := 2) (bnd_nil _))

noncomputable def F' (n : Nat) (x y z : Int) : Int :=
  match n with
  | 4 => (fn0 x y).getD 0 0
  | 5 => (fn0 x y).getD 1 0
  | 6 => (fn0 x y).getD 2 0
  | 7 => (fn1 x y).getD 0 0
  | 8 => (fn1 x y).getD 1 0
  | 9 => (fn1 x y).getD 2 0
  | 10 => (fn2 x y).getD 0 0
  | 11 => (fn3 x y).getD 0 0
  | n => fN n x y z
theorem F'_ok (n : Nat) (p : Int × Int) (x y z : Int) (h : phiN n = some p) : p.1 ≤ F' n x y z ∧ F' n x y z ≤ p.2 := by
  have e : F' n x y z = fN n x y z := by
    unfold phiN at h
    split at h <;> first | rfl | cases h
  rw [e]
  exact phiN_ok n p x y z h
noncomputable def cxL : Cx := { cxOf 2 [(-2147483648, 2147483647), (-2147483648, 2147483647)] with F := F' }
theorem cxL_ok : CxOk cxL := ⟨(cxOf_ok 2 [(-2147483648, 2147483647), (-2147483648, 2147483647)]).1, (cxOf_ok 2 [(-2147483648, 2147483647), (-2147483648, 2147483647)]).2⟩
noncomputable def envL (l : List Int) : Env := ⟨fun i => l.getD i 0, F', fun _ => ptr0⟩
theorem envL_ok {l : List Int} (h : Bnd [(-2147483648, 2147483647), (-2147483648, 2147483647)] l) : EnvOk cxL (envL l) := ⟨h, F'_ok, fun _ => ⟨_, rfl⟩, rfl⟩
noncomputable def toldL : Eng.Told := [(16, gSym cxL false 4 3 true), (17, gSym cxL false 7 3 true), (20, gSym cxL true 10 1 true), (21, gSym cxL true 11 1 true), (22, gTrue)]
theorem toldL_ok : ToldOk cxL toldL := told_cons (gSym_ok (g := fn0) (fun x y => outs_len ar0) (fun h => by cases h) (fun j x y hj => by match j, hj with | 0, _ => rfl | 1, _ => rfl | 2, _ => rfl | j + 3, hj => exact absurd hj (by omega)) (fun h => by cases h) (fun _ x y w l u l2 u2 => sem0 x y w l u l2 u2)) (told_cons (gSym_ok (g := fn1) (fun x y => outs_len ar1) (fun h => by cases h) (fun j x y hj => by match j, hj with | 0, _ => rfl | 1, _ => rfl | 2, _ => rfl | j + 3, hj => exact absurd hj (by omega)) (fun h => by cases h) (fun _ x y w l u l2 u2 => sem1 x y w l u l2 u2)) (told_cons (gSym_ok (g := fn2) (fun x y => outs_len ar2) (fun h => by rfl) (fun j x y hj => by match j, hj with | 0, _ => rfl | j + 1, hj => exact absurd hj (by omega)) (fun h => by cases h) (fun _ x y w l u l2 u2 => sem2 x y w l u l2 u2)) (told_cons (gSym_ok (g := fn3) (fun x y => outs_len ar3) (fun h => by rfl) (fun j x y hj => by match j, hj with | 0, _ => rfl | j + 1, hj => exact absurd hj (by omega)) (fun h => by cases h) (fun _ x y w l u l2 u2 => sem3 x y w l u l2 u2)) (told_cons (gTrue_ok aw) (told_nil _)))))
noncomputable def runL : CF := execFn cxL (rtsB rtB) (smOf toldL) (fun _ _ => none) 40 30
theorem runL_ok : CallOk cxL runL := execFn_ok cxL_ok rtB_ok (smOf_ok toldL_ok) (xok_none _) _

/-! ### the plain statement -/
def P (a0 a1 : Int) : Prop :=
 ∀ y1000 : Int, y1000 = (IntKind.wrap .i32 ((bxor .i32 (shrZ .i32 a0 0) (shrZ .i32 a0 31)) - (shrZ .i32 a0 31))) → (-2147483648 ≤ y1000 ∧ y1000 ≤ 2147483647) →
 ∀ y1001 : Int, y1001 = (IntKind.wrap .i32 ((bxor .i32 (shrZ .i32 a1 0) (shrZ .i32 a0 31)) - (shrZ .i32 a0 31))) → (-2147483648 ≤ y1001 ∧ y1001 ≤ 2147483647) →
 ∀ y1002 : Int, y1002 = (IntKind.wrap .i32 ((bxor .i32 421657428 (shrZ .i32 a0 31)) - (shrZ .i32 a0 31))) → (-2147483648 ≤ y1002 ∧ y1002 ≤ 2147483647) →
 ∀ y1003 : Int, y1003 = (shrZ .i32 (IntKind.wrap .i32 (a0 - y1001)) 31) → (-1 ≤ y1003 ∧ y1003 ≤ 0) →
 ∀ y1004 : Int, y1004 = (shrZ .i32 (IntKind.wrap .i32 (a0 - y1001)) 1) → (-1073741824 ≤ y1004 ∧ y1004 ≤ 1073741823) →
 ∀ y1005 : Int, y1005 = (IntKind.wrap .i32 ((bxor .i32 y1004 y1003) - y1003)) → (-2147483648 ≤ y1005 ∧ y1005 ≤ 2147483647) →
 ∀ y1006 : Int, y1006 = (IntKind.wrap .i32 ((IntKind.wrap .i32 (a1 + y1000)) + y1005)) → (-2147483648 ≤ y1006 ∧ y1006 ≤ 2147483647) →
 ∀ y1007 : Int, y1007 = (shrZ .i32 (IntKind.wrap .i32 (a1 + y1000)) 1) → (-1073741824 ≤ y1007 ∧ y1007 ≤ 1073741823) →
 ∀ y1008 : Int, y1008 = (IntKind.wrap .i32 ((bxor .i32 y1007 y1003) - y1003)) → (-2147483648 ≤ y1008 ∧ y1008 ≤ 2147483647) →
 ∀ y1009 : Int, y1009 = (IntKind.wrap .i32 ((IntKind.wrap .i32 (a0 - y1001)) - y1008)) → (-2147483648 ≤ y1009 ∧ y1009 ≤ 2147483647) →
 ∀ y1010 : Int, y1010 = (IntKind.wrap .i32 ((bxor .i32 248918915 y1003) - y1003)) → (-2147483648 ≤ y1010 ∧ y1010 ≤ 2147483647) →
 ∀ y1011 : Int, y1011 = (IntKind.wrap .i32 ((bxor .i32 (shrZ .i32 y1009 2) (shrZ .i32 y1009 31)) - (shrZ .i32 y1009 31))) → (-2147483648 ≤ y1011 ∧ y1011 ≤ 2147483647) →
 ∀ y1012 : Int, y1012 = (IntKind.wrap .i32 ((bxor .i32 (shrZ .i32 y1006 2) (shrZ .i32 y1009 31)) - (shrZ .i32 y1009 31))) → (-2147483648 ≤ y1012 ∧ y1012 ≤ 2147483647) →
 ∀ y1013 : Int, y1013 = (IntKind.wrap .i32 ((bxor .i32 131521918 (shrZ .i32 y1009 31)) - (shrZ .i32 y1009 31))) → (-2147483648 ≤ y1013 ∧ y1013 ≤ 2147483647) →
 ∀ y1014 : Int, y1014 = (IntKind.wrap .i32 ((IntKind.wrap .i32 (y1002 + y1010)) + y1013)) → (-2147483648 ≤ y1014 ∧ y1014 ≤ 2147483647) →
 ∀ y1015 : Int, y1015 = (shrZ .i32 (IntKind.wrap .i32 (y1009 - y1012)) 31) → (-1 ≤ y1015 ∧ y1015 ≤ 0) →
 ∀ y1016 : Int, y1016 = (shrZ .i32 (IntKind.wrap .i32 (y1009 - y1012)) 3) → (-268435456 ≤ y1016 ∧ y1016 ≤ 268435455) →
 ∀ y1017 : Int, y1017 = (IntKind.wrap .i32 ((bxor .i32 y1016 y1015) - y1015)) → (-2147483648 ≤ y1017 ∧ y1017 ≤ 2147483647) →
 ∀ y1018 : Int, y1018 = (IntKind.wrap .i32 ((IntKind.wrap .i32 (y1006 + y1011)) + y1017)) → (-2147483648 ≤ y1018 ∧ y1018 ≤ 2147483647) →
 ∀ y1019 : Int, y1019 = (shrZ .i32 (IntKind.wrap .i32 (y1006 + y1011)) 3) → (-268435456 ≤ y1019 ∧ y1019 ≤ 268435455) →
 ∀ y1020 : Int, y1020 = (IntKind.wrap .i32 ((bxor .i32 y1019 y1015) - y1015)) → (-2147483648 ≤ y1020 ∧ y1020 ≤ 2147483647) →
 ∀ y1021 : Int, y1021 = (IntKind.wrap .i32 ((IntKind.wrap .i32 (y1009 - y1012)) - y1020)) → (-2147483648 ≤ y1021 ∧ y1021 ≤ 2147483647) →
 ∀ y1022 : Int, y1022 = (IntKind.wrap .i32 ((bxor .i32 66762579 y1015) - y1015)) → (-2147483648 ≤ y1022 ∧ y1022 ≤ 2147483647) →
 ∀ y1023 : Int, y1023 = (IntKind.wrap .i32 ((bxor .i32 (shrZ .i32 y1021 4) (shrZ .i32 y1021 31)) - (shrZ .i32 y1021 31))) → (-2147483648 ≤ y1023 ∧ y1023 ≤ 2147483647) →
 ∀ y1024 : Int, y1024 = (IntKind.wrap .i32 ((bxor .i32 (shrZ .i32 y1018 4) (shrZ .i32 y1021 31)) - (shrZ .i32 y1021 31))) → (-2147483648 ≤ y1024 ∧ y1024 ≤ 2147483647) →
 ∀ y1025 : Int, y1025 = (IntKind.wrap .i32 ((bxor .i32 33510843 (shrZ .i32 y1021 31)) - (shrZ .i32 y1021 31))) → (-2147483648 ≤ y1025 ∧ y1025 ≤ 2147483647) →
 ∀ y1026 : Int, y1026 = (IntKind.wrap .i32 ((IntKind.wrap .i32 (y1014 + y1022)) + y1025)) → (-2147483648 ≤ y1026 ∧ y1026 ≤ 2147483647) →
 ∀ y1027 : Int, y1027 = (shrZ .i32 (IntKind.wrap .i32 (y1021 - y1024)) 31) → (-1 ≤ y1027 ∧ y1027 ≤ 0) →
 ∀ y1028 : Int, y1028 = (shrZ .i32 (IntKind.wrap .i32 (y1021 - y1024)) 5) → (-67108864 ≤ y1028 ∧ y1028 ≤ 67108863) →
 ∀ y1029 : Int, y1029 = (IntKind.wrap .i32 ((bxor .i32 y1028 y1027) - y1027)) → (-2147483648 ≤ y1029 ∧ y1029 ≤ 2147483647) →
 ∀ y1030 : Int, y1030 = (IntKind.wrap .i32 ((IntKind.wrap .i32 (y1018 + y1023)) + y1029)) → (-2147483648 ≤ y1030 ∧ y1030 ≤ 2147483647) →
 ∀ y1031 : Int, y1031 = (shrZ .i32 (IntKind.wrap .i32 (y1018 + y1023)) 5) → (-67108864 ≤ y1031 ∧ y1031 ≤ 67108863) →
 ∀ y1032 : Int, y1032 = (IntKind.wrap .i32 ((bxor .i32 y1031 y1027) - y1027)) → (-2147483648 ≤ y1032 ∧ y1032 ≤ 2147483647) →
 ∀ y1033 : Int, y1033 = (IntKind.wrap .i32 ((IntKind.wrap .i32 (y1021 - y1024)) - y1032)) → (-2147483648 ≤ y1033 ∧ y1033 ≤ 2147483647) →
 ∀ y1034 : Int, y1034 = (IntKind.wrap .i32 ((bxor .i32 16771758 y1027) - y1027)) → (-2147483648 ≤ y1034 ∧ y1034 ≤ 2147483647) →
 ∀ y1035 : Int, y1035 = (IntKind.wrap .i32 ((bxor .i32 (shrZ .i32 y1033 6) (shrZ .i32 y1033 31)) - (shrZ .i32 y1033 31))) → (-2147483648 ≤ y1035 ∧ y1035 ≤ 2147483647) →
 ∀ y1036 : Int, y1036 = (IntKind.wrap .i32 ((bxor .i32 (shrZ .i32 y1030 6) (shrZ .i32 y1033 31)) - (shrZ .i32 y1033 31))) → (-2147483648 ≤ y1036 ∧ y1036 ≤ 2147483647) →
 ∀ y1037 : Int, y1037 = (IntKind.wrap .i32 ((bxor .i32 8387925 (shrZ .i32 y1033 31)) - (shrZ .i32 y1033 31))) → (-2147483648 ≤ y1037 ∧ y1037 ≤ 2147483647) →
 ∀ y1038 : Int, y1038 = (IntKind.wrap .i32 ((IntKind.wrap .i32 (y1026 + y1034)) + y1037)) → (-2147483648 ≤ y1038 ∧ y1038 ≤ 2147483647) →
 ∀ y1039 : Int, y1039 = (shrZ .i32 (IntKind.wrap .i32 (y1033 - y1036)) 31) → (-1 ≤ y1039 ∧ y1039 ≤ 0) →
 ∀ y1040 : Int, y1040 = (shrZ .i32 (IntKind.wrap .i32 (y1033 - y1036)) 7) → (-16777216 ≤ y1040 ∧ y1040 ≤ 16777215) →
 ∀ y1041 : Int, y1041 = (IntKind.wrap .i32 ((bxor .i32 y1040 y1039) - y1039)) → (-2147483648 ≤ y1041 ∧ y1041 ≤ 2147483647) →
 ∀ y1042 : Int, y1042 = (IntKind.wrap .i32 ((IntKind.wrap .i32 (y1030 + y1035)) + y1041)) → (-2147483648 ≤ y1042 ∧ y1042 ≤ 2147483647) →
 ∀ y1043 : Int, y1043 = (shrZ .i32 (IntKind.wrap .i32 (y1030 + y1035)) 7) → (-16777216 ≤ y1043 ∧ y1043 ≤ 16777215) →
 ∀ y1044 : Int, y1044 = (IntKind.wrap .i32 ((bxor .i32 y1043 y1039) - y1039)) → (-2147483648 ≤ y1044 ∧ y1044 ≤ 2147483647) →
 ∀ y1045 : Int, y1045 = (IntKind.wrap .i32 ((IntKind.wrap .i32 (y1033 - y1036)) - y1044)) → (-2147483648 ≤ y1045 ∧ y1045 ≤ 2147483647) →
 ∀ y1046 : Int, y1046 = (IntKind.wrap .i32 ((bxor .i32 4194219 y1039) - y1039)) → (-2147483648 ≤ y1046 ∧ y1046 ≤ 2147483647) →
 ∀ y1047 : Int, y1047 = (IntKind.wrap .i32 ((bxor .i32 (shrZ .i32 y1045 8) (shrZ .i32 y1045 31)) - (shrZ .i32 y1045 31))) → (-2147483648 ≤ y1047 ∧ y1047 ≤ 2147483647) →
 ∀ y1048 : Int, y1048 = (IntKind.wrap .i32 ((bxor .i32 (shrZ .i32 y1042 8) (shrZ .i32 y1045 31)) - (shrZ .i32 y1045 31))) → (-2147483648 ≤ y1048 ∧ y1048 ≤ 2147483647) →
 ∀ y1049 : Int, y1049 = (IntKind.wrap .i32 ((bxor .i32 2097141 (shrZ .i32 y1045 31)) - (shrZ .i32 y1045 31))) → (-2147483648 ≤ y1049 ∧ y1049 ≤ 2147483647) →
 ∀ y1050 : Int, y1050 = (IntKind.wrap .i32 ((IntKind.wrap .i32 (y1038 + y1046)) + y1049)) → (-2147483648 ≤ y1050 ∧ y1050 ≤ 2147483647) →
 ∀ y1051 : Int, y1051 = (shrZ .i32 (IntKind.wrap .i32 (y1045 - y1048)) 31) → (-1 ≤ y1051 ∧ y1051 ≤ 0) →
 ∀ y1052 : Int, y1052 = (shrZ .i32 (IntKind.wrap .i32 (y1045 - y1048)) 9) → (-4194304 ≤ y1052 ∧ y1052 ≤ 4194303) →
 ∀ y1053 : Int, y1053 = (IntKind.wrap .i32 ((bxor .i32 y1052 y1051) - y1051)) → (-2147483648 ≤ y1053 ∧ y1053 ≤ 2147483647) →
 ∀ y1054 : Int, y1054 = (IntKind.wrap .i32 ((IntKind.wrap .i32 (y1042 + y1047)) + y1053)) → (-2147483648 ≤ y1054 ∧ y1054 ≤ 2147483647) →
 ∀ y1055 : Int, y1055 = (shrZ .i32 (IntKind.wrap .i32 (y1042 + y1047)) 9) → (-4194304 ≤ y1055 ∧ y1055 ≤ 4194303) →
 ∀ y1056 : Int, y1056 = (IntKind.wrap .i32 ((bxor .i32 y1055 y1051) - y1051)) → (-2147483648 ≤ y1056 ∧ y1056 ≤ 2147483647) →
 ∀ y1057 : Int, y1057 = (IntKind.wrap .i32 ((IntKind.wrap .i32 (y1045 - y1048)) - y1056)) → (-2147483648 ≤ y1057 ∧ y1057 ≤ 2147483647) →
 ∀ y1058 : Int, y1058 = (IntKind.wrap .i32 ((bxor .i32 1048575 y1051) - y1051)) → (-2147483648 ≤ y1058 ∧ y1058 ≤ 2147483647) →
 ∀ y1059 : Int, y1059 = (IntKind.wrap .i32 ((bxor .i32 (shrZ .i32 y1057 10) (shrZ .i32 y1057 31)) - (shrZ .i32 y1057 31))) → (-2147483648 ≤ y1059 ∧ y1059 ≤ 2147483647) →
 ∀ y1060 : Int, y1060 = (IntKind.wrap .i32 ((bxor .i32 (shrZ .i32 y1054 10) (shrZ .i32 y1057 31)) - (shrZ .i32 y1057 31))) → (-2147483648 ≤ y1060 ∧ y1060 ≤ 2147483647) →
 ∀ y1061 : Int, y1061 = (IntKind.wrap .i32 ((bxor .i32 524288 (shrZ .i32 y1057 31)) - (shrZ .i32 y1057 31))) → (-2147483648 ≤ y1061 ∧ y1061 ≤ 2147483647) →
 ∀ y1062 : Int, y1062 = (IntKind.wrap .i32 ((IntKind.wrap .i32 (y1050 + y1058)) + y1061)) → (-2147483648 ≤ y1062 ∧ y1062 ≤ 2147483647) →
 ∀ y1063 : Int, y1063 = (shrZ .i32 (IntKind.wrap .i32 (y1057 - y1060)) 31) → (-1 ≤ y1063 ∧ y1063 ≤ 0) →
 ∀ y1064 : Int, y1064 = (shrZ .i32 (IntKind.wrap .i32 (y1057 - y1060)) 11) → (-1048576 ≤ y1064 ∧ y1064 ≤ 1048575) →
 ∀ y1065 : Int, y1065 = (IntKind.wrap .i32 ((bxor .i32 y1064 y1063) - y1063)) → (-2147483648 ≤ y1065 ∧ y1065 ≤ 2147483647) →
 ∀ y1066 : Int, y1066 = (IntKind.wrap .i32 ((IntKind.wrap .i32 (y1054 + y1059)) + y1065)) → (-2147483648 ≤ y1066 ∧ y1066 ≤ 2147483647) →
 ∀ y1067 : Int, y1067 = (shrZ .i32 (IntKind.wrap .i32 (y1054 + y1059)) 11) → (-1048576 ≤ y1067 ∧ y1067 ≤ 1048575) →
 ∀ y1068 : Int, y1068 = (IntKind.wrap .i32 ((bxor .i32 y1067 y1063) - y1063)) → (-2147483648 ≤ y1068 ∧ y1068 ≤ 2147483647) →
 ∀ y1069 : Int, y1069 = (IntKind.wrap .i32 ((IntKind.wrap .i32 (y1057 - y1060)) - y1068)) → (-2147483648 ≤ y1069 ∧ y1069 ≤ 2147483647) →
 ∀ y1070 : Int, y1070 = (IntKind.wrap .i32 ((bxor .i32 262144 y1063) - y1063)) → (-2147483648 ≤ y1070 ∧ y1070 ≤ 2147483647) →
 ∀ y1071 : Int, y1071 = (IntKind.wrap .i32 ((bxor .i32 (shrZ .i32 y1069 12) (shrZ .i32 y1069 31)) - (shrZ .i32 y1069 31))) → (-2147483648 ≤ y1071 ∧ y1071 ≤ 2147483647) →
 ∀ y1072 : Int, y1072 = (IntKind.wrap .i32 ((bxor .i32 (shrZ .i32 y1066 12) (shrZ .i32 y1069 31)) - (shrZ .i32 y1069 31))) → (-2147483648 ≤ y1072 ∧ y1072 ≤ 2147483647) →
 ∀ y1073 : Int, y1073 = (IntKind.wrap .i32 ((bxor .i32 131072 (shrZ .i32 y1069 31)) - (shrZ .i32 y1069 31))) → (-2147483648 ≤ y1073 ∧ y1073 ≤ 2147483647) →
 ∀ y1074 : Int, y1074 = (IntKind.wrap .i32 ((IntKind.wrap .i32 (y1062 + y1070)) + y1073)) → (-2147483648 ≤ y1074 ∧ y1074 ≤ 2147483647) →
 ∀ y1075 : Int, y1075 = (shrZ .i32 (IntKind.wrap .i32 (y1069 - y1072)) 31) → (-1 ≤ y1075 ∧ y1075 ≤ 0) →
 ∀ y1076 : Int, y1076 = (shrZ .i32 (IntKind.wrap .i32 (y1069 - y1072)) 13) → (-262144 ≤ y1076 ∧ y1076 ≤ 262143) →
 ∀ y1077 : Int, y1077 = (IntKind.wrap .i32 ((bxor .i32 y1076 y1075) - y1075)) → (-2147483648 ≤ y1077 ∧ y1077 ≤ 2147483647) →
 ∀ y1078 : Int, y1078 = (IntKind.wrap .i32 ((IntKind.wrap .i32 (y1066 + y1071)) + y1077)) → (-2147483648 ≤ y1078 ∧ y1078 ≤ 2147483647) →
 ∀ y1079 : Int, y1079 = (shrZ .i32 (IntKind.wrap .i32 (y1066 + y1071)) 13) → (-262144 ≤ y1079 ∧ y1079 ≤ 262143) →
 ∀ y1080 : Int, y1080 = (IntKind.wrap .i32 ((bxor .i32 y1079 y1075) - y1075)) → (-2147483648 ≤ y1080 ∧ y1080 ≤ 2147483647) →
 ∀ y1081 : Int, y1081 = (IntKind.wrap .i32 ((IntKind.wrap .i32 (y1069 - y1072)) - y1080)) → (-2147483648 ≤ y1081 ∧ y1081 ≤ 2147483647) →
 ∀ y1082 : Int, y1082 = (IntKind.wrap .i32 ((bxor .i32 65536 y1075) - y1075)) → (-2147483648 ≤ y1082 ∧ y1082 ≤ 2147483647) →
 ∀ y1083 : Int, y1083 = (IntKind.wrap .i32 ((bxor .i32 (shrZ .i32 y1081 14) (shrZ .i32 y1081 31)) - (shrZ .i32 y1081 31))) → (-2147483648 ≤ y1083 ∧ y1083 ≤ 2147483647) →
 ∀ y1084 : Int, y1084 = (IntKind.wrap .i32 ((bxor .i32 (shrZ .i32 y1078 14) (shrZ .i32 y1081 31)) - (shrZ .i32 y1081 31))) → (-2147483648 ≤ y1084 ∧ y1084 ≤ 2147483647) →
 ∀ y1085 : Int, y1085 = (IntKind.wrap .i32 ((bxor .i32 32768 (shrZ .i32 y1081 31)) - (shrZ .i32 y1081 31))) → (-2147483648 ≤ y1085 ∧ y1085 ≤ 2147483647) →
 ∀ y1086 : Int, y1086 = (IntKind.wrap .i32 ((IntKind.wrap .i32 (y1074 + y1082)) + y1085)) → (-2147483648 ≤ y1086 ∧ y1086 ≤ 2147483647) →
 ∀ y1087 : Int, y1087 = (shrZ .i32 (IntKind.wrap .i32 (y1081 - y1084)) 31) → (-1 ≤ y1087 ∧ y1087 ≤ 0) →
 ∀ y1088 : Int, y1088 = (shrZ .i32 (IntKind.wrap .i32 (y1081 - y1084)) 15) → (-65536 ≤ y1088 ∧ y1088 ≤ 65535) →
 ∀ y1089 : Int, y1089 = (IntKind.wrap .i32 ((bxor .i32 y1088 y1087) - y1087)) → (-2147483648 ≤ y1089 ∧ y1089 ≤ 2147483647) →
 ∀ y1090 : Int, y1090 = (IntKind.wrap .i32 ((IntKind.wrap .i32 (y1078 + y1083)) + y1089)) → (-2147483648 ≤ y1090 ∧ y1090 ≤ 2147483647) →
 ∀ y1091 : Int, y1091 = (shrZ .i32 (IntKind.wrap .i32 (y1078 + y1083)) 15) → (-65536 ≤ y1091 ∧ y1091 ≤ 65535) →
 ∀ y1092 : Int, y1092 = (IntKind.wrap .i32 ((bxor .i32 y1091 y1087) - y1087)) → (-2147483648 ≤ y1092 ∧ y1092 ≤ 2147483647) →
 ∀ y1093 : Int, y1093 = (IntKind.wrap .i32 ((IntKind.wrap .i32 (y1081 - y1084)) - y1092)) → (-2147483648 ≤ y1093 ∧ y1093 ≤ 2147483647) →
 ∀ y1094 : Int, y1094 = (IntKind.wrap .i32 ((bxor .i32 16384 y1087) - y1087)) → (-2147483648 ≤ y1094 ∧ y1094 ≤ 2147483647) →
 ∀ y1095 : Int, y1095 = (IntKind.wrap .i32 ((bxor .i32 (shrZ .i32 y1093 16) (shrZ .i32 y1093 31)) - (shrZ .i32 y1093 31))) → (-2147483648 ≤ y1095 ∧ y1095 ≤ 2147483647) →
 ∀ y1096 : Int, y1096 = (IntKind.wrap .i32 ((bxor .i32 (shrZ .i32 y1090 16) (shrZ .i32 y1093 31)) - (shrZ .i32 y1093 31))) → (-2147483648 ≤ y1096 ∧ y1096 ≤ 2147483647) →
 ∀ y1097 : Int, y1097 = (IntKind.wrap .i32 ((bxor .i32 8192 (shrZ .i32 y1093 31)) - (shrZ .i32 y1093 31))) → (-2147483648 ≤ y1097 ∧ y1097 ≤ 2147483647) →
 ∀ y1098 : Int, y1098 = (IntKind.wrap .i32 ((IntKind.wrap .i32 (y1086 + y1094)) + y1097)) → (-2147483648 ≤ y1098 ∧ y1098 ≤ 2147483647) →
 ∀ y1099 : Int, y1099 = (shrZ .i32 (IntKind.wrap .i32 (y1093 - y1096)) 31) → (-1 ≤ y1099 ∧ y1099 ≤ 0) →
 ∀ y1100 : Int, y1100 = (shrZ .i32 (IntKind.wrap .i32 (y1093 - y1096)) 17) → (-16384 ≤ y1100 ∧ y1100 ≤ 16383) →
 ∀ y1101 : Int, y1101 = (IntKind.wrap .i32 ((bxor .i32 y1100 y1099) - y1099)) → (-2147483648 ≤ y1101 ∧ y1101 ≤ 2147483647) →
 ∀ y1102 : Int, y1102 = (IntKind.wrap .i32 ((IntKind.wrap .i32 (y1090 + y1095)) + y1101)) → (-2147483648 ≤ y1102 ∧ y1102 ≤ 2147483647) →
 ∀ y1103 : Int, y1103 = (shrZ .i32 (IntKind.wrap .i32 (y1090 + y1095)) 17) → (-16384 ≤ y1103 ∧ y1103 ≤ 16383) →
 ∀ y1104 : Int, y1104 = (IntKind.wrap .i32 ((bxor .i32 y1103 y1099) - y1099)) → (-2147483648 ≤ y1104 ∧ y1104 ≤ 2147483647) →
 ∀ y1105 : Int, y1105 = (IntKind.wrap .i32 ((IntKind.wrap .i32 (y1093 - y1096)) - y1104)) → (-2147483648 ≤ y1105 ∧ y1105 ≤ 2147483647) →
 ∀ y1106 : Int, y1106 = (IntKind.wrap .i32 ((bxor .i32 4096 y1099) - y1099)) → (-2147483648 ≤ y1106 ∧ y1106 ≤ 2147483647) →
 ∀ y1107 : Int, y1107 = (IntKind.wrap .i32 ((bxor .i32 (shrZ .i32 y1105 18) (shrZ .i32 y1105 31)) - (shrZ .i32 y1105 31))) → (-2147483648 ≤ y1107 ∧ y1107 ≤ 2147483647) →
 ∀ y1108 : Int, y1108 = (IntKind.wrap .i32 ((bxor .i32 (shrZ .i32 y1102 18) (shrZ .i32 y1105 31)) - (shrZ .i32 y1105 31))) → (-2147483648 ≤ y1108 ∧ y1108 ≤ 2147483647) →
 ∀ y1109 : Int, y1109 = (IntKind.wrap .i32 ((bxor .i32 2048 (shrZ .i32 y1105 31)) - (shrZ .i32 y1105 31))) → (-2147483648 ≤ y1109 ∧ y1109 ≤ 2147483647) →
 ∀ y1110 : Int, y1110 = (IntKind.wrap .i32 ((IntKind.wrap .i32 (y1098 + y1106)) + y1109)) → (-2147483648 ≤ y1110 ∧ y1110 ≤ 2147483647) →
 ∀ y1111 : Int, y1111 = (shrZ .i32 (IntKind.wrap .i32 (y1105 - y1108)) 31) → (-1 ≤ y1111 ∧ y1111 ≤ 0) →
 ∀ y1112 : Int, y1112 = (shrZ .i32 (IntKind.wrap .i32 (y1105 - y1108)) 19) → (-4096 ≤ y1112 ∧ y1112 ≤ 4095) →
 ∀ y1113 : Int, y1113 = (IntKind.wrap .i32 ((bxor .i32 y1112 y1111) - y1111)) → (-2147483648 ≤ y1113 ∧ y1113 ≤ 2147483647) →
 ∀ y1114 : Int, y1114 = (IntKind.wrap .i32 ((IntKind.wrap .i32 (y1102 + y1107)) + y1113)) → (-2147483648 ≤ y1114 ∧ y1114 ≤ 2147483647) →
 ∀ y1115 : Int, y1115 = (shrZ .i32 (IntKind.wrap .i32 (y1102 + y1107)) 19) → (-4096 ≤ y1115 ∧ y1115 ≤ 4095) →
 ∀ y1116 : Int, y1116 = (IntKind.wrap .i32 ((bxor .i32 y1115 y1111) - y1111)) → (-2147483648 ≤ y1116 ∧ y1116 ≤ 2147483647) →
 ∀ y1117 : Int, y1117 = (IntKind.wrap .i32 ((IntKind.wrap .i32 (y1105 - y1108)) - y1116)) → (-2147483648 ≤ y1117 ∧ y1117 ≤ 2147483647) →
 ∀ y1118 : Int, y1118 = (IntKind.wrap .i32 ((bxor .i32 1024 y1111) - y1111)) → (-2147483648 ≤ y1118 ∧ y1118 ≤ 2147483647) →
 ∀ y1119 : Int, y1119 = (IntKind.wrap .i32 ((bxor .i32 (shrZ .i32 y1117 20) (shrZ .i32 y1117 31)) - (shrZ .i32 y1117 31))) → (-2147483648 ≤ y1119 ∧ y1119 ≤ 2147483647) →
 ∀ y1120 : Int, y1120 = (IntKind.wrap .i32 ((bxor .i32 (shrZ .i32 y1114 20) (shrZ .i32 y1117 31)) - (shrZ .i32 y1117 31))) → (-2147483648 ≤ y1120 ∧ y1120 ≤ 2147483647) →
 ∀ y1121 : Int, y1121 = (IntKind.wrap .i32 ((bxor .i32 512 (shrZ .i32 y1117 31)) - (shrZ .i32 y1117 31))) → (-2147483648 ≤ y1121 ∧ y1121 ≤ 2147483647) →
 ∀ y1122 : Int, y1122 = (IntKind.wrap .i32 ((IntKind.wrap .i32 (y1110 + y1118)) + y1121)) → (-2147483648 ≤ y1122 ∧ y1122 ≤ 2147483647) →
 ∀ y1123 : Int, y1123 = (shrZ .i32 (IntKind.wrap .i32 (y1117 - y1120)) 31) → (-1 ≤ y1123 ∧ y1123 ≤ 0) →
 ∀ y1124 : Int, y1124 = (shrZ .i32 (IntKind.wrap .i32 (y1117 - y1120)) 21) → (-1024 ≤ y1124 ∧ y1124 ≤ 1023) →
 ∀ y1125 : Int, y1125 = (IntKind.wrap .i32 ((bxor .i32 y1124 y1123) - y1123)) → (-2147483648 ≤ y1125 ∧ y1125 ≤ 2147483647) →
 ∀ y1126 : Int, y1126 = (IntKind.wrap .i32 ((IntKind.wrap .i32 (y1114 + y1119)) + y1125)) → (-2147483648 ≤ y1126 ∧ y1126 ≤ 2147483647) →
 ∀ y1127 : Int, y1127 = (shrZ .i32 (IntKind.wrap .i32 (y1114 + y1119)) 21) → (-1024 ≤ y1127 ∧ y1127 ≤ 1023) →
 ∀ y1128 : Int, y1128 = (IntKind.wrap .i32 ((bxor .i32 y1127 y1123) - y1123)) → (-2147483648 ≤ y1128 ∧ y1128 ≤ 2147483647) →
 ∀ y1129 : Int, y1129 = (IntKind.wrap .i32 ((IntKind.wrap .i32 (y1117 - y1120)) - y1128)) → (-2147483648 ≤ y1129 ∧ y1129 ≤ 2147483647) →
 ∀ y1130 : Int, y1130 = (IntKind.wrap .i32 ((bxor .i32 256 y1123) - y1123)) → (-2147483648 ≤ y1130 ∧ y1130 ≤ 2147483647) →
 ∀ y1131 : Int, y1131 = (IntKind.wrap .i32 ((bxor .i32 (shrZ .i32 y1129 22) (shrZ .i32 y1129 31)) - (shrZ .i32 y1129 31))) → (-2147483648 ≤ y1131 ∧ y1131 ≤ 2147483647) →
 ∀ y1132 : Int, y1132 = (IntKind.wrap .i32 ((bxor .i32 (shrZ .i32 y1126 22) (shrZ .i32 y1129 31)) - (shrZ .i32 y1129 31))) → (-2147483648 ≤ y1132 ∧ y1132 ≤ 2147483647) →
 ∀ y1133 : Int, y1133 = (IntKind.wrap .i32 ((bxor .i32 128 (shrZ .i32 y1129 31)) - (shrZ .i32 y1129 31))) → (-2147483648 ≤ y1133 ∧ y1133 ≤ 2147483647) →
 ∀ y1134 : Int, y1134 = (IntKind.wrap .i32 ((IntKind.wrap .i32 (y1122 + y1130)) + y1133)) → (-2147483648 ≤ y1134 ∧ y1134 ≤ 2147483647) →
 ∀ y1135 : Int, y1135 = (shrZ .i32 (IntKind.wrap .i32 (y1129 - y1132)) 31) → (-1 ≤ y1135 ∧ y1135 ≤ 0) →
 ∀ y1136 : Int, y1136 = (shrZ .i32 (IntKind.wrap .i32 (y1129 - y1132)) 23) → (-256 ≤ y1136 ∧ y1136 ≤ 255) →
 ∀ y1137 : Int, y1137 = (IntKind.wrap .i32 ((bxor .i32 y1136 y1135) - y1135)) → (-2147483648 ≤ y1137 ∧ y1137 ≤ 2147483647) →
 ∀ y1138 : Int, y1138 = (IntKind.wrap .i32 ((IntKind.wrap .i32 (y1126 + y1131)) + y1137)) → (-2147483648 ≤ y1138 ∧ y1138 ≤ 2147483647) →
 ∀ y1139 : Int, y1139 = (shrZ .i32 (IntKind.wrap .i32 (y1126 + y1131)) 23) → (-256 ≤ y1139 ∧ y1139 ≤ 255) →
 ∀ y1140 : Int, y1140 = (IntKind.wrap .i32 ((bxor .i32 y1139 y1135) - y1135)) → (-2147483648 ≤ y1140 ∧ y1140 ≤ 2147483647) →
 ∀ y1141 : Int, y1141 = (IntKind.wrap .i32 ((IntKind.wrap .i32 (y1129 - y1132)) - y1140)) → (-2147483648 ≤ y1141 ∧ y1141 ≤ 2147483647) →
 ∀ y1142 : Int, y1142 = (IntKind.wrap .i32 ((bxor .i32 64 y1135) - y1135)) → (-2147483648 ≤ y1142 ∧ y1142 ≤ 2147483647) →
 ∀ y1143 : Int, y1143 = (IntKind.wrap .i32 ((bxor .i32 (shrZ .i32 y1141 24) (shrZ .i32 y1141 31)) - (shrZ .i32 y1141 31))) → (-2147483648 ≤ y1143 ∧ y1143 ≤ 2147483647) →
 ∀ y1144 : Int, y1144 = (IntKind.wrap .i32 ((bxor .i32 (shrZ .i32 y1138 24) (shrZ .i32 y1141 31)) - (shrZ .i32 y1141 31))) → (-2147483648 ≤ y1144 ∧ y1144 ≤ 2147483647) →
 ∀ y1145 : Int, y1145 = (IntKind.wrap .i32 ((bxor .i32 32 (shrZ .i32 y1141 31)) - (shrZ .i32 y1141 31))) → (-2147483648 ≤ y1145 ∧ y1145 ≤ 2147483647) →
 ∀ y1146 : Int, y1146 = (IntKind.wrap .i32 ((IntKind.wrap .i32 (y1134 + y1142)) + y1145)) → (-2147483648 ≤ y1146 ∧ y1146 ≤ 2147483647) →
 ∀ y1147 : Int, y1147 = (shrZ .i32 (IntKind.wrap .i32 (y1141 - y1144)) 31) → (-1 ≤ y1147 ∧ y1147 ≤ 0) →
 ∀ y1148 : Int, y1148 = (shrZ .i32 (IntKind.wrap .i32 (y1141 - y1144)) 25) → (-64 ≤ y1148 ∧ y1148 ≤ 63) →
 ∀ y1149 : Int, y1149 = (IntKind.wrap .i32 ((bxor .i32 y1148 y1147) - y1147)) → (-2147483648 ≤ y1149 ∧ y1149 ≤ 2147483647) →
 ∀ y1150 : Int, y1150 = (IntKind.wrap .i32 ((IntKind.wrap .i32 (y1138 + y1143)) + y1149)) → (-2147483648 ≤ y1150 ∧ y1150 ≤ 2147483647) →
 ∀ y1151 : Int, y1151 = (shrZ .i32 (IntKind.wrap .i32 (y1138 + y1143)) 25) → (-64 ≤ y1151 ∧ y1151 ≤ 63) →
 ∀ y1152 : Int, y1152 = (IntKind.wrap .i32 ((bxor .i32 y1151 y1147) - y1147)) → (-2147483648 ≤ y1152 ∧ y1152 ≤ 2147483647) →
 ∀ y1153 : Int, y1153 = (IntKind.wrap .i32 ((IntKind.wrap .i32 (y1141 - y1144)) - y1152)) → (-2147483648 ≤ y1153 ∧ y1153 ≤ 2147483647) →
 ∀ y1154 : Int, y1154 = (IntKind.wrap .i32 ((bxor .i32 16 y1147) - y1147)) → (-2147483648 ≤ y1154 ∧ y1154 ≤ 2147483647) →
 ∀ y1155 : Int, y1155 = (IntKind.wrap .i32 ((bxor .i32 (shrZ .i32 y1153 26) (shrZ .i32 y1153 31)) - (shrZ .i32 y1153 31))) → (-2147483648 ≤ y1155 ∧ y1155 ≤ 2147483647) →
 ∀ y1156 : Int, y1156 = (IntKind.wrap .i32 ((bxor .i32 (shrZ .i32 y1150 26) (shrZ .i32 y1153 31)) - (shrZ .i32 y1153 31))) → (-2147483648 ≤ y1156 ∧ y1156 ≤ 2147483647) →
 ∀ y1157 : Int, y1157 = (IntKind.wrap .i32 ((bxor .i32 8 (shrZ .i32 y1153 31)) - (shrZ .i32 y1153 31))) → (-2147483648 ≤ y1157 ∧ y1157 ≤ 2147483647) →
 ∀ y1158 : Int, y1158 = (IntKind.wrap .i32 ((IntKind.wrap .i32 (y1146 + y1154)) + y1157)) → (-2147483648 ≤ y1158 ∧ y1158 ≤ 2147483647) →
 ∀ y1159 : Int, y1159 = (shrZ .i32 (IntKind.wrap .i32 (y1153 - y1156)) 31) → (-1 ≤ y1159 ∧ y1159 ≤ 0) →
 ∀ y1160 : Int, y1160 = (shrZ .i32 (IntKind.wrap .i32 (y1153 - y1156)) 27) → (-16 ≤ y1160 ∧ y1160 ≤ 15) →
 ∀ y1161 : Int, y1161 = (IntKind.wrap .i32 ((bxor .i32 y1160 y1159) - y1159)) → (-2147483648 ≤ y1161 ∧ y1161 ≤ 2147483647) →
 ∀ y1162 : Int, y1162 = (IntKind.wrap .i32 ((IntKind.wrap .i32 (y1150 + y1155)) + y1161)) → (-2147483648 ≤ y1162 ∧ y1162 ≤ 2147483647) →
 ∀ y1163 : Int, y1163 = (shrZ .i32 (IntKind.wrap .i32 (y1150 + y1155)) 27) → (-16 ≤ y1163 ∧ y1163 ≤ 15) →
 ∀ y1164 : Int, y1164 = (IntKind.wrap .i32 ((bxor .i32 y1163 y1159) - y1159)) → (-2147483648 ≤ y1164 ∧ y1164 ≤ 2147483647) →
 ∀ y1165 : Int, y1165 = (IntKind.wrap .i32 ((IntKind.wrap .i32 (y1153 - y1156)) - y1164)) → (-2147483648 ≤ y1165 ∧ y1165 ≤ 2147483647) →
 ∀ y1166 : Int, y1166 = (IntKind.wrap .i32 ((bxor .i32 4 y1159) - y1159)) → (-2147483648 ≤ y1166 ∧ y1166 ≤ 2147483647) →
 ∀ y1167 : Int, y1167 = (IntKind.wrap .i32 ((bxor .i32 (shrZ .i32 a0 0) (shrZ .i32 a0 31)) - (shrZ .i32 a0 31))) → (-2147483648 ≤ y1167 ∧ y1167 ≤ 2147483647) →
 ∀ y1168 : Int, y1168 = (IntKind.wrap .i32 ((bxor .i32 (shrZ .i32 a1 0) (shrZ .i32 a0 31)) - (shrZ .i32 a0 31))) → (-2147483648 ≤ y1168 ∧ y1168 ≤ 2147483647) →
 ∀ y1169 : Int, y1169 = (IntKind.wrap .i32 ((bxor .i32 421657428 (shrZ .i32 a0 31)) - (shrZ .i32 a0 31))) → (-2147483648 ≤ y1169 ∧ y1169 ≤ 2147483647) →
 ∀ y1170 : Int, y1170 = (shrZ .i32 (IntKind.wrap .i32 (a0 - y1168)) 31) → (-1 ≤ y1170 ∧ y1170 ≤ 0) →
 ∀ y1171 : Int, y1171 = (shrZ .i32 (IntKind.wrap .i32 (a0 - y1168)) 1) → (-1073741824 ≤ y1171 ∧ y1171 ≤ 1073741823) →
 ∀ y1172 : Int, y1172 = (IntKind.wrap .i32 ((bxor .i32 y1171 y1170) - y1170)) → (-2147483648 ≤ y1172 ∧ y1172 ≤ 2147483647) →
 ∀ y1173 : Int, y1173 = ((IntKind.wrap .i32 (a1 + y1167)) + y1172) → (-4294967296 ≤ y1173 ∧ y1173 ≤ 4294967294) →
 ∀ y1174 : Int, y1174 = (shrZ .i32 (IntKind.wrap .i32 (a1 + y1167)) 1) → (-1073741824 ≤ y1174 ∧ y1174 ≤ 1073741823) →
 ∀ y1175 : Int, y1175 = (IntKind.wrap .i32 ((bxor .i32 y1174 y1170) - y1170)) → (-2147483648 ≤ y1175 ∧ y1175 ≤ 2147483647) →
 ∀ y1176 : Int, y1176 = ((IntKind.wrap .i32 (a0 - y1168)) - y1175) → (-4294967295 ≤ y1176 ∧ y1176 ≤ 4294967295) →
 ∀ y1177 : Int, y1177 = (IntKind.wrap .i32 ((bxor .i32 248918915 y1170) - y1170)) → (-2147483648 ≤ y1177 ∧ y1177 ≤ 2147483647) →
 ∀ y1178 : Int, y1178 = (IntKind.wrap .i32 ((bxor .i32 (shrZ .i32 (IntKind.wrap .i32 y1176) 2) (shrZ .i32 (IntKind.wrap .i32 y1176) 31)) - (shrZ .i32 (IntKind.wrap .i32 y1176) 31))) → (-2147483648 ≤ y1178 ∧ y1178 ≤ 2147483647) →
 ∀ y1179 : Int, y1179 = (IntKind.wrap .i32 ((IntKind.wrap .i32 y1173) + y1178)) → (-2147483648 ≤ y1179 ∧ y1179 ≤ 2147483647) →
 ∀ y1180 : Int, y1180 = (IntKind.wrap .i32 ((bxor .i32 (shrZ .i32 (IntKind.wrap .i32 y1173) 2) (shrZ .i32 (IntKind.wrap .i32 y1176) 31)) - (shrZ .i32 (IntKind.wrap .i32 y1176) 31))) → (-2147483648 ≤ y1180 ∧ y1180 ≤ 2147483647) →
 ∀ y1181 : Int, y1181 = (IntKind.wrap .i32 ((IntKind.wrap .i32 y1176) - y1180)) → (-2147483648 ≤ y1181 ∧ y1181 ≤ 2147483647) →
 ∀ y1182 : Int, y1182 = (IntKind.wrap .i32 ((bxor .i32 131521918 (shrZ .i32 (IntKind.wrap .i32 y1176) 31)) - (shrZ .i32 (IntKind.wrap .i32 y1176) 31))) → (-2147483648 ≤ y1182 ∧ y1182 ≤ 2147483647) →
 ∀ y1183 : Int, y1183 = ((IntKind.wrap .i32 (y1169 + y1177)) + y1182) → (-4294967296 ≤ y1183 ∧ y1183 ≤ 4294967294) →
 ∀ y1184 : Int, y1184 = (IntKind.wrap .i32 ((bxor .i32 (shrZ .i32 y1181 3) (shrZ .i32 y1181 31)) - (shrZ .i32 y1181 31))) → (-2147483648 ≤ y1184 ∧ y1184 ≤ 2147483647) →
 ∀ y1185 : Int, y1185 = (IntKind.wrap .i32 ((bxor .i32 (shrZ .i32 y1179 3) (shrZ .i32 y1181 31)) - (shrZ .i32 y1181 31))) → (-2147483648 ≤ y1185 ∧ y1185 ≤ 2147483647) →
 ∀ y1186 : Int, y1186 = (IntKind.wrap .i32 ((bxor .i32 66762579 (shrZ .i32 y1181 31)) - (shrZ .i32 y1181 31))) → (-2147483648 ≤ y1186 ∧ y1186 ≤ 2147483647) →
 ∀ y1187 : Int, y1187 = (IntKind.wrap .i32 ((IntKind.wrap .i32 y1183) + y1186)) → (-2147483648 ≤ y1187 ∧ y1187 ≤ 2147483647) →
 ∀ y1188 : Int, y1188 = (shrZ .i32 (IntKind.wrap .i32 (y1181 - y1185)) 31) → (-1 ≤ y1188 ∧ y1188 ≤ 0) →
 ∀ y1189 : Int, y1189 = (shrZ .i32 (IntKind.wrap .i32 (y1181 - y1185)) 4) → (-134217728 ≤ y1189 ∧ y1189 ≤ 134217727) →
 ∀ y1190 : Int, y1190 = (IntKind.wrap .i32 ((bxor .i32 y1189 y1188) - y1188)) → (-2147483648 ≤ y1190 ∧ y1190 ≤ 2147483647) →
 ∀ y1191 : Int, y1191 = ((IntKind.wrap .i32 (y1179 + y1184)) + y1190) → (-4294967296 ≤ y1191 ∧ y1191 ≤ 4294967294) →
 ∀ y1192 : Int, y1192 = (shrZ .i32 (IntKind.wrap .i32 (y1179 + y1184)) 4) → (-134217728 ≤ y1192 ∧ y1192 ≤ 134217727) →
 ∀ y1193 : Int, y1193 = (IntKind.wrap .i32 ((bxor .i32 y1192 y1188) - y1188)) → (-2147483648 ≤ y1193 ∧ y1193 ≤ 2147483647) →
 ∀ y1194 : Int, y1194 = ((IntKind.wrap .i32 (y1181 - y1185)) - y1193) → (-4294967295 ≤ y1194 ∧ y1194 ≤ 4294967295) →
 ∀ y1195 : Int, y1195 = (IntKind.wrap .i32 ((bxor .i32 33510843 y1188) - y1188)) → (-2147483648 ≤ y1195 ∧ y1195 ≤ 2147483647) →
 ∀ y1196 : Int, y1196 = (IntKind.wrap .i32 ((bxor .i32 (shrZ .i32 (IntKind.wrap .i32 y1194) 5) (shrZ .i32 (IntKind.wrap .i32 y1194) 31)) - (shrZ .i32 (IntKind.wrap .i32 y1194) 31))) → (-2147483648 ≤ y1196 ∧ y1196 ≤ 2147483647) →
 ∀ y1197 : Int, y1197 = (IntKind.wrap .i32 ((IntKind.wrap .i32 y1191) + y1196)) → (-2147483648 ≤ y1197 ∧ y1197 ≤ 2147483647) →
 ∀ y1198 : Int, y1198 = (IntKind.wrap .i32 ((bxor .i32 (shrZ .i32 (IntKind.wrap .i32 y1191) 5) (shrZ .i32 (IntKind.wrap .i32 y1194) 31)) - (shrZ .i32 (IntKind.wrap .i32 y1194) 31))) → (-2147483648 ≤ y1198 ∧ y1198 ≤ 2147483647) →
 ∀ y1199 : Int, y1199 = (IntKind.wrap .i32 ((IntKind.wrap .i32 y1194) - y1198)) → (-2147483648 ≤ y1199 ∧ y1199 ≤ 2147483647) →
 ∀ y1200 : Int, y1200 = (IntKind.wrap .i32 ((bxor .i32 16771758 (shrZ .i32 (IntKind.wrap .i32 y1194) 31)) - (shrZ .i32 (IntKind.wrap .i32 y1194) 31))) → (-2147483648 ≤ y1200 ∧ y1200 ≤ 2147483647) →
 ∀ y1201 : Int, y1201 = ((IntKind.wrap .i32 (y1187 + y1195)) + y1200) → (-4294967296 ≤ y1201 ∧ y1201 ≤ 4294967294) →
 ∀ y1202 : Int, y1202 = (IntKind.wrap .i32 ((bxor .i32 (shrZ .i32 y1199 6) (shrZ .i32 y1199 31)) - (shrZ .i32 y1199 31))) → (-2147483648 ≤ y1202 ∧ y1202 ≤ 2147483647) →
 ∀ y1203 : Int, y1203 = (IntKind.wrap .i32 ((bxor .i32 (shrZ .i32 y1197 6) (shrZ .i32 y1199 31)) - (shrZ .i32 y1199 31))) → (-2147483648 ≤ y1203 ∧ y1203 ≤ 2147483647) →
 ∀ y1204 : Int, y1204 = (IntKind.wrap .i32 ((bxor .i32 8387925 (shrZ .i32 y1199 31)) - (shrZ .i32 y1199 31))) → (-2147483648 ≤ y1204 ∧ y1204 ≤ 2147483647) →
 ∀ y1205 : Int, y1205 = (IntKind.wrap .i32 ((IntKind.wrap .i32 y1201) + y1204)) → (-2147483648 ≤ y1205 ∧ y1205 ≤ 2147483647) →
 ∀ y1206 : Int, y1206 = (shrZ .i32 (IntKind.wrap .i32 (y1199 - y1203)) 31) → (-1 ≤ y1206 ∧ y1206 ≤ 0) →
 ∀ y1207 : Int, y1207 = (shrZ .i32 (IntKind.wrap .i32 (y1199 - y1203)) 7) → (-16777216 ≤ y1207 ∧ y1207 ≤ 16777215) →
 ∀ y1208 : Int, y1208 = (IntKind.wrap .i32 ((bxor .i32 y1207 y1206) - y1206)) → (-2147483648 ≤ y1208 ∧ y1208 ≤ 2147483647) →
 ∀ y1209 : Int, y1209 = ((IntKind.wrap .i32 (y1197 + y1202)) + y1208) → (-4294967296 ≤ y1209 ∧ y1209 ≤ 4294967294) →
 ∀ y1210 : Int, y1210 = (shrZ .i32 (IntKind.wrap .i32 (y1197 + y1202)) 7) → (-16777216 ≤ y1210 ∧ y1210 ≤ 16777215) →
 ∀ y1211 : Int, y1211 = (IntKind.wrap .i32 ((bxor .i32 y1210 y1206) - y1206)) → (-2147483648 ≤ y1211 ∧ y1211 ≤ 2147483647) →
 ∀ y1212 : Int, y1212 = ((IntKind.wrap .i32 (y1199 - y1203)) - y1211) → (-4294967295 ≤ y1212 ∧ y1212 ≤ 4294967295) →
 ∀ y1213 : Int, y1213 = (IntKind.wrap .i32 ((bxor .i32 4194219 y1206) - y1206)) → (-2147483648 ≤ y1213 ∧ y1213 ≤ 2147483647) →
 ∀ y1214 : Int, y1214 = (IntKind.wrap .i32 ((bxor .i32 (shrZ .i32 (IntKind.wrap .i32 y1212) 8) (shrZ .i32 (IntKind.wrap .i32 y1212) 31)) - (shrZ .i32 (IntKind.wrap .i32 y1212) 31))) → (-2147483648 ≤ y1214 ∧ y1214 ≤ 2147483647) →
 ∀ y1215 : Int, y1215 = (IntKind.wrap .i32 ((IntKind.wrap .i32 y1209) + y1214)) → (-2147483648 ≤ y1215 ∧ y1215 ≤ 2147483647) →
 ∀ y1216 : Int, y1216 = (IntKind.wrap .i32 ((bxor .i32 (shrZ .i32 (IntKind.wrap .i32 y1209) 8) (shrZ .i32 (IntKind.wrap .i32 y1212) 31)) - (shrZ .i32 (IntKind.wrap .i32 y1212) 31))) → (-2147483648 ≤ y1216 ∧ y1216 ≤ 2147483647) →
 ∀ y1217 : Int, y1217 = (IntKind.wrap .i32 ((IntKind.wrap .i32 y1212) - y1216)) → (-2147483648 ≤ y1217 ∧ y1217 ≤ 2147483647) →
 ∀ y1218 : Int, y1218 = (IntKind.wrap .i32 ((bxor .i32 2097141 (shrZ .i32 (IntKind.wrap .i32 y1212) 31)) - (shrZ .i32 (IntKind.wrap .i32 y1212) 31))) → (-2147483648 ≤ y1218 ∧ y1218 ≤ 2147483647) →
 ∀ y1219 : Int, y1219 = ((IntKind.wrap .i32 (y1205 + y1213)) + y1218) → (-4294967296 ≤ y1219 ∧ y1219 ≤ 4294967294) →
 ∀ y1220 : Int, y1220 = (IntKind.wrap .i32 ((bxor .i32 (shrZ .i32 y1217 9) (shrZ .i32 y1217 31)) - (shrZ .i32 y1217 31))) → (-2147483648 ≤ y1220 ∧ y1220 ≤ 2147483647) →
 ∀ y1221 : Int, y1221 = (IntKind.wrap .i32 ((bxor .i32 (shrZ .i32 y1215 9) (shrZ .i32 y1217 31)) - (shrZ .i32 y1217 31))) → (-2147483648 ≤ y1221 ∧ y1221 ≤ 2147483647) →
 ∀ y1222 : Int, y1222 = (IntKind.wrap .i32 ((bxor .i32 1048575 (shrZ .i32 y1217 31)) - (shrZ .i32 y1217 31))) → (-2147483648 ≤ y1222 ∧ y1222 ≤ 2147483647) →
 ∀ y1223 : Int, y1223 = (IntKind.wrap .i32 ((IntKind.wrap .i32 y1219) + y1222)) → (-2147483648 ≤ y1223 ∧ y1223 ≤ 2147483647) →
 ∀ y1224 : Int, y1224 = (shrZ .i32 (IntKind.wrap .i32 (y1217 - y1221)) 31) → (-1 ≤ y1224 ∧ y1224 ≤ 0) →
 ∀ y1225 : Int, y1225 = (shrZ .i32 (IntKind.wrap .i32 (y1217 - y1221)) 10) → (-2097152 ≤ y1225 ∧ y1225 ≤ 2097151) →
 ∀ y1226 : Int, y1226 = (IntKind.wrap .i32 ((bxor .i32 y1225 y1224) - y1224)) → (-2147483648 ≤ y1226 ∧ y1226 ≤ 2147483647) →
 ∀ y1227 : Int, y1227 = ((IntKind.wrap .i32 (y1215 + y1220)) + y1226) → (-4294967296 ≤ y1227 ∧ y1227 ≤ 4294967294) →
 ∀ y1228 : Int, y1228 = (shrZ .i32 (IntKind.wrap .i32 (y1215 + y1220)) 10) → (-2097152 ≤ y1228 ∧ y1228 ≤ 2097151) →
 ∀ y1229 : Int, y1229 = (IntKind.wrap .i32 ((bxor .i32 y1228 y1224) - y1224)) → (-2147483648 ≤ y1229 ∧ y1229 ≤ 2147483647) →
 ∀ y1230 : Int, y1230 = ((IntKind.wrap .i32 (y1217 - y1221)) - y1229) → (-4294967295 ≤ y1230 ∧ y1230 ≤ 4294967295) →
 ∀ y1231 : Int, y1231 = (IntKind.wrap .i32 ((bxor .i32 524288 y1224) - y1224)) → (-2147483648 ≤ y1231 ∧ y1231 ≤ 2147483647) →
 ∀ y1232 : Int, y1232 = (IntKind.wrap .i32 ((bxor .i32 (shrZ .i32 (IntKind.wrap .i32 y1230) 11) (shrZ .i32 (IntKind.wrap .i32 y1230) 31)) - (shrZ .i32 (IntKind.wrap .i32 y1230) 31))) → (-2147483648 ≤ y1232 ∧ y1232 ≤ 2147483647) →
 ∀ y1233 : Int, y1233 = (IntKind.wrap .i32 ((IntKind.wrap .i32 y1227) + y1232)) → (-2147483648 ≤ y1233 ∧ y1233 ≤ 2147483647) →
 ∀ y1234 : Int, y1234 = (IntKind.wrap .i32 ((bxor .i32 (shrZ .i32 (IntKind.wrap .i32 y1227) 11) (shrZ .i32 (IntKind.wrap .i32 y1230) 31)) - (shrZ .i32 (IntKind.wrap .i32 y1230) 31))) → (-2147483648 ≤ y1234 ∧ y1234 ≤ 2147483647) →
 ∀ y1235 : Int, y1235 = (IntKind.wrap .i32 ((IntKind.wrap .i32 y1230) - y1234)) → (-2147483648 ≤ y1235 ∧ y1235 ≤ 2147483647) →
 ∀ y1236 : Int, y1236 = (IntKind.wrap .i32 ((bxor .i32 262144 (shrZ .i32 (IntKind.wrap .i32 y1230) 31)) - (shrZ .i32 (IntKind.wrap .i32 y1230) 31))) → (-2147483648 ≤ y1236 ∧ y1236 ≤ 2147483647) →
 ∀ y1237 : Int, y1237 = ((IntKind.wrap .i32 (y1223 + y1231)) + y1236) → (-4294967296 ≤ y1237 ∧ y1237 ≤ 4294967294) →
 ∀ y1238 : Int, y1238 = (IntKind.wrap .i32 ((bxor .i32 (shrZ .i32 y1235 12) (shrZ .i32 y1235 31)) - (shrZ .i32 y1235 31))) → (-2147483648 ≤ y1238 ∧ y1238 ≤ 2147483647) →
 ∀ y1239 : Int, y1239 = (IntKind.wrap .i32 ((bxor .i32 (shrZ .i32 y1233 12) (shrZ .i32 y1235 31)) - (shrZ .i32 y1235 31))) → (-2147483648 ≤ y1239 ∧ y1239 ≤ 2147483647) →
 ∀ y1240 : Int, y1240 = (IntKind.wrap .i32 ((bxor .i32 131072 (shrZ .i32 y1235 31)) - (shrZ .i32 y1235 31))) → (-2147483648 ≤ y1240 ∧ y1240 ≤ 2147483647) →
 ∀ y1241 : Int, y1241 = (IntKind.wrap .i32 ((IntKind.wrap .i32 y1237) + y1240)) → (-2147483648 ≤ y1241 ∧ y1241 ≤ 2147483647) →
 ∀ y1242 : Int, y1242 = (shrZ .i32 (IntKind.wrap .i32 (y1235 - y1239)) 31) → (-1 ≤ y1242 ∧ y1242 ≤ 0) →
 ∀ y1243 : Int, y1243 = (shrZ .i32 (IntKind.wrap .i32 (y1235 - y1239)) 13) → (-262144 ≤ y1243 ∧ y1243 ≤ 262143) →
 ∀ y1244 : Int, y1244 = (IntKind.wrap .i32 ((bxor .i32 y1243 y1242) - y1242)) → (-2147483648 ≤ y1244 ∧ y1244 ≤ 2147483647) →
 ∀ y1245 : Int, y1245 = ((IntKind.wrap .i32 (y1233 + y1238)) + y1244) → (-4294967296 ≤ y1245 ∧ y1245 ≤ 4294967294) →
 ∀ y1246 : Int, y1246 = (shrZ .i32 (IntKind.wrap .i32 (y1233 + y1238)) 13) → (-262144 ≤ y1246 ∧ y1246 ≤ 262143) →
 ∀ y1247 : Int, y1247 = (IntKind.wrap .i32 ((bxor .i32 y1246 y1242) - y1242)) → (-2147483648 ≤ y1247 ∧ y1247 ≤ 2147483647) →
 ∀ y1248 : Int, y1248 = ((IntKind.wrap .i32 (y1235 - y1239)) - y1247) → (-4294967295 ≤ y1248 ∧ y1248 ≤ 4294967295) →
 ∀ y1249 : Int, y1249 = (IntKind.wrap .i32 ((bxor .i32 65536 y1242) - y1242)) → (-2147483648 ≤ y1249 ∧ y1249 ≤ 2147483647) →
 ∀ y1250 : Int, y1250 = (IntKind.wrap .i32 ((bxor .i32 (shrZ .i32 (IntKind.wrap .i32 y1248) 14) (shrZ .i32 (IntKind.wrap .i32 y1248) 31)) - (shrZ .i32 (IntKind.wrap .i32 y1248) 31))) → (-2147483648 ≤ y1250 ∧ y1250 ≤ 2147483647) →
 ∀ y1251 : Int, y1251 = (IntKind.wrap .i32 ((IntKind.wrap .i32 y1245) + y1250)) → (-2147483648 ≤ y1251 ∧ y1251 ≤ 2147483647) →
 ∀ y1252 : Int, y1252 = (IntKind.wrap .i32 ((bxor .i32 (shrZ .i32 (IntKind.wrap .i32 y1245) 14) (shrZ .i32 (IntKind.wrap .i32 y1248) 31)) - (shrZ .i32 (IntKind.wrap .i32 y1248) 31))) → (-2147483648 ≤ y1252 ∧ y1252 ≤ 2147483647) →
 ∀ y1253 : Int, y1253 = (IntKind.wrap .i32 ((IntKind.wrap .i32 y1248) - y1252)) → (-2147483648 ≤ y1253 ∧ y1253 ≤ 2147483647) →
 ∀ y1254 : Int, y1254 = (IntKind.wrap .i32 ((bxor .i32 32768 (shrZ .i32 (IntKind.wrap .i32 y1248) 31)) - (shrZ .i32 (IntKind.wrap .i32 y1248) 31))) → (-2147483648 ≤ y1254 ∧ y1254 ≤ 2147483647) →
 ∀ y1255 : Int, y1255 = ((IntKind.wrap .i32 (y1241 + y1249)) + y1254) → (-4294967296 ≤ y1255 ∧ y1255 ≤ 4294967294) →
 ∀ y1256 : Int, y1256 = (IntKind.wrap .i32 ((bxor .i32 (shrZ .i32 y1253 15) (shrZ .i32 y1253 31)) - (shrZ .i32 y1253 31))) → (-2147483648 ≤ y1256 ∧ y1256 ≤ 2147483647) →
 ∀ y1257 : Int, y1257 = (IntKind.wrap .i32 ((bxor .i32 (shrZ .i32 y1251 15) (shrZ .i32 y1253 31)) - (shrZ .i32 y1253 31))) → (-2147483648 ≤ y1257 ∧ y1257 ≤ 2147483647) →
 ∀ y1258 : Int, y1258 = (IntKind.wrap .i32 ((bxor .i32 16384 (shrZ .i32 y1253 31)) - (shrZ .i32 y1253 31))) → (-2147483648 ≤ y1258 ∧ y1258 ≤ 2147483647) →
 ∀ y1259 : Int, y1259 = (IntKind.wrap .i32 ((IntKind.wrap .i32 y1255) + y1258)) → (-2147483648 ≤ y1259 ∧ y1259 ≤ 2147483647) →
 ∀ y1260 : Int, y1260 = (shrZ .i32 (IntKind.wrap .i32 (y1253 - y1257)) 31) → (-1 ≤ y1260 ∧ y1260 ≤ 0) →
 ∀ y1261 : Int, y1261 = (shrZ .i32 (IntKind.wrap .i32 (y1253 - y1257)) 16) → (-32768 ≤ y1261 ∧ y1261 ≤ 32767) →
 ∀ y1262 : Int, y1262 = (IntKind.wrap .i32 ((bxor .i32 y1261 y1260) - y1260)) → (-2147483648 ≤ y1262 ∧ y1262 ≤ 2147483647) →
 ∀ y1263 : Int, y1263 = ((IntKind.wrap .i32 (y1251 + y1256)) + y1262) → (-4294967296 ≤ y1263 ∧ y1263 ≤ 4294967294) →
 ∀ y1264 : Int, y1264 = (shrZ .i32 (IntKind.wrap .i32 (y1251 + y1256)) 16) → (-32768 ≤ y1264 ∧ y1264 ≤ 32767) →
 ∀ y1265 : Int, y1265 = (IntKind.wrap .i32 ((bxor .i32 y1264 y1260) - y1260)) → (-2147483648 ≤ y1265 ∧ y1265 ≤ 2147483647) →
 ∀ y1266 : Int, y1266 = ((IntKind.wrap .i32 (y1253 - y1257)) - y1265) → (-4294967295 ≤ y1266 ∧ y1266 ≤ 4294967295) →
 ∀ y1267 : Int, y1267 = (IntKind.wrap .i32 ((bxor .i32 8192 y1260) - y1260)) → (-2147483648 ≤ y1267 ∧ y1267 ≤ 2147483647) →
 ∀ y1268 : Int, y1268 = (IntKind.wrap .i32 ((bxor .i32 (shrZ .i32 (IntKind.wrap .i32 y1266) 17) (shrZ .i32 (IntKind.wrap .i32 y1266) 31)) - (shrZ .i32 (IntKind.wrap .i32 y1266) 31))) → (-2147483648 ≤ y1268 ∧ y1268 ≤ 2147483647) →
 ∀ y1269 : Int, y1269 = (IntKind.wrap .i32 ((IntKind.wrap .i32 y1263) + y1268)) → (-2147483648 ≤ y1269 ∧ y1269 ≤ 2147483647) →
 ∀ y1270 : Int, y1270 = (IntKind.wrap .i32 ((bxor .i32 (shrZ .i32 (IntKind.wrap .i32 y1263) 17) (shrZ .i32 (IntKind.wrap .i32 y1266) 31)) - (shrZ .i32 (IntKind.wrap .i32 y1266) 31))) → (-2147483648 ≤ y1270 ∧ y1270 ≤ 2147483647) →
 ∀ y1271 : Int, y1271 = (IntKind.wrap .i32 ((IntKind.wrap .i32 y1266) - y1270)) → (-2147483648 ≤ y1271 ∧ y1271 ≤ 2147483647) →
 ∀ y1272 : Int, y1272 = (IntKind.wrap .i32 ((bxor .i32 4096 (shrZ .i32 (IntKind.wrap .i32 y1266) 31)) - (shrZ .i32 (IntKind.wrap .i32 y1266) 31))) → (-2147483648 ≤ y1272 ∧ y1272 ≤ 2147483647) →
 ∀ y1273 : Int, y1273 = ((IntKind.wrap .i32 (y1259 + y1267)) + y1272) → (-4294967296 ≤ y1273 ∧ y1273 ≤ 4294967294) →
 ∀ y1274 : Int, y1274 = (IntKind.wrap .i32 ((bxor .i32 (shrZ .i32 y1271 18) (shrZ .i32 y1271 31)) - (shrZ .i32 y1271 31))) → (-2147483648 ≤ y1274 ∧ y1274 ≤ 2147483647) →
 ∀ y1275 : Int, y1275 = (IntKind.wrap .i32 ((bxor .i32 (shrZ .i32 y1269 18) (shrZ .i32 y1271 31)) - (shrZ .i32 y1271 31))) → (-2147483648 ≤ y1275 ∧ y1275 ≤ 2147483647) →
 ∀ y1276 : Int, y1276 = (IntKind.wrap .i32 ((bxor .i32 2048 (shrZ .i32 y1271 31)) - (shrZ .i32 y1271 31))) → (-2147483648 ≤ y1276 ∧ y1276 ≤ 2147483647) →
 ∀ y1277 : Int, y1277 = (IntKind.wrap .i32 ((IntKind.wrap .i32 y1273) + y1276)) → (-2147483648 ≤ y1277 ∧ y1277 ≤ 2147483647) →
 ∀ y1278 : Int, y1278 = (shrZ .i32 (IntKind.wrap .i32 (y1271 - y1275)) 31) → (-1 ≤ y1278 ∧ y1278 ≤ 0) →
 ∀ y1279 : Int, y1279 = (shrZ .i32 (IntKind.wrap .i32 (y1271 - y1275)) 19) → (-4096 ≤ y1279 ∧ y1279 ≤ 4095) →
 ∀ y1280 : Int, y1280 = (IntKind.wrap .i32 ((bxor .i32 y1279 y1278) - y1278)) → (-2147483648 ≤ y1280 ∧ y1280 ≤ 2147483647) →
 ∀ y1281 : Int, y1281 = ((IntKind.wrap .i32 (y1269 + y1274)) + y1280) → (-4294967296 ≤ y1281 ∧ y1281 ≤ 4294967294) →
 ∀ y1282 : Int, y1282 = (shrZ .i32 (IntKind.wrap .i32 (y1269 + y1274)) 19) → (-4096 ≤ y1282 ∧ y1282 ≤ 4095) →
 ∀ y1283 : Int, y1283 = (IntKind.wrap .i32 ((bxor .i32 y1282 y1278) - y1278)) → (-2147483648 ≤ y1283 ∧ y1283 ≤ 2147483647) →
 ∀ y1284 : Int, y1284 = ((IntKind.wrap .i32 (y1271 - y1275)) - y1283) → (-4294967295 ≤ y1284 ∧ y1284 ≤ 4294967295) →
 ∀ y1285 : Int, y1285 = (IntKind.wrap .i32 ((bxor .i32 1024 y1278) - y1278)) → (-2147483648 ≤ y1285 ∧ y1285 ≤ 2147483647) →
 ∀ y1286 : Int, y1286 = (IntKind.wrap .i32 ((bxor .i32 (shrZ .i32 (IntKind.wrap .i32 y1284) 20) (shrZ .i32 (IntKind.wrap .i32 y1284) 31)) - (shrZ .i32 (IntKind.wrap .i32 y1284) 31))) → (-2147483648 ≤ y1286 ∧ y1286 ≤ 2147483647) →
 ∀ y1287 : Int, y1287 = (IntKind.wrap .i32 ((IntKind.wrap .i32 y1281) + y1286)) → (-2147483648 ≤ y1287 ∧ y1287 ≤ 2147483647) →
 ∀ y1288 : Int, y1288 = (IntKind.wrap .i32 ((bxor .i32 (shrZ .i32 (IntKind.wrap .i32 y1281) 20) (shrZ .i32 (IntKind.wrap .i32 y1284) 31)) - (shrZ .i32 (IntKind.wrap .i32 y1284) 31))) → (-2147483648 ≤ y1288 ∧ y1288 ≤ 2147483647) →
 ∀ y1289 : Int, y1289 = (IntKind.wrap .i32 ((IntKind.wrap .i32 y1284) - y1288)) → (-2147483648 ≤ y1289 ∧ y1289 ≤ 2147483647) →
 ∀ y1290 : Int, y1290 = (IntKind.wrap .i32 ((bxor .i32 512 (shrZ .i32 (IntKind.wrap .i32 y1284) 31)) - (shrZ .i32 (IntKind.wrap .i32 y1284) 31))) → (-2147483648 ≤ y1290 ∧ y1290 ≤ 2147483647) →
 ∀ y1291 : Int, y1291 = ((IntKind.wrap .i32 (y1277 + y1285)) + y1290) → (-4294967296 ≤ y1291 ∧ y1291 ≤ 4294967294) →
 ∀ y1292 : Int, y1292 = (IntKind.wrap .i32 ((bxor .i32 (shrZ .i32 y1289 21) (shrZ .i32 y1289 31)) - (shrZ .i32 y1289 31))) → (-2147483648 ≤ y1292 ∧ y1292 ≤ 2147483647) →
 ∀ y1293 : Int, y1293 = (IntKind.wrap .i32 ((bxor .i32 (shrZ .i32 y1287 21) (shrZ .i32 y1289 31)) - (shrZ .i32 y1289 31))) → (-2147483648 ≤ y1293 ∧ y1293 ≤ 2147483647) →
 ∀ y1294 : Int, y1294 = (IntKind.wrap .i32 ((bxor .i32 256 (shrZ .i32 y1289 31)) - (shrZ .i32 y1289 31))) → (-2147483648 ≤ y1294 ∧ y1294 ≤ 2147483647) →
 ∀ y1295 : Int, y1295 = (IntKind.wrap .i32 ((IntKind.wrap .i32 y1291) + y1294)) → (-2147483648 ≤ y1295 ∧ y1295 ≤ 2147483647) →
 ∀ y1296 : Int, y1296 = (shrZ .i32 (IntKind.wrap .i32 (y1289 - y1293)) 31) → (-1 ≤ y1296 ∧ y1296 ≤ 0) →
 ∀ y1297 : Int, y1297 = (shrZ .i32 (IntKind.wrap .i32 (y1289 - y1293)) 22) → (-512 ≤ y1297 ∧ y1297 ≤ 511) →
 ∀ y1298 : Int, y1298 = (IntKind.wrap .i32 ((bxor .i32 y1297 y1296) - y1296)) → (-2147483648 ≤ y1298 ∧ y1298 ≤ 2147483647) →
 ∀ y1299 : Int, y1299 = ((IntKind.wrap .i32 (y1287 + y1292)) + y1298) → (-4294967296 ≤ y1299 ∧ y1299 ≤ 4294967294) →
 ∀ y1300 : Int, y1300 = (shrZ .i32 (IntKind.wrap .i32 (y1287 + y1292)) 22) → (-512 ≤ y1300 ∧ y1300 ≤ 511) →
 ∀ y1301 : Int, y1301 = (IntKind.wrap .i32 ((bxor .i32 y1300 y1296) - y1296)) → (-2147483648 ≤ y1301 ∧ y1301 ≤ 2147483647) →
 ∀ y1302 : Int, y1302 = ((IntKind.wrap .i32 (y1289 - y1293)) - y1301) → (-4294967295 ≤ y1302 ∧ y1302 ≤ 4294967295) →
 ∀ y1303 : Int, y1303 = (IntKind.wrap .i32 ((bxor .i32 128 y1296) - y1296)) → (-2147483648 ≤ y1303 ∧ y1303 ≤ 2147483647) →
 ∀ y1304 : Int, y1304 = (IntKind.wrap .i32 ((bxor .i32 (shrZ .i32 (IntKind.wrap .i32 y1302) 23) (shrZ .i32 (IntKind.wrap .i32 y1302) 31)) - (shrZ .i32 (IntKind.wrap .i32 y1302) 31))) → (-2147483648 ≤ y1304 ∧ y1304 ≤ 2147483647) →
 ∀ y1305 : Int, y1305 = (IntKind.wrap .i32 ((IntKind.wrap .i32 y1299) + y1304)) → (-2147483648 ≤ y1305 ∧ y1305 ≤ 2147483647) →
 ∀ y1306 : Int, y1306 = (IntKind.wrap .i32 ((bxor .i32 (shrZ .i32 (IntKind.wrap .i32 y1299) 23) (shrZ .i32 (IntKind.wrap .i32 y1302) 31)) - (shrZ .i32 (IntKind.wrap .i32 y1302) 31))) → (-2147483648 ≤ y1306 ∧ y1306 ≤ 2147483647) →
 ∀ y1307 : Int, y1307 = (IntKind.wrap .i32 ((IntKind.wrap .i32 y1302) - y1306)) → (-2147483648 ≤ y1307 ∧ y1307 ≤ 2147483647) →
 ∀ y1308 : Int, y1308 = (IntKind.wrap .i32 ((bxor .i32 64 (shrZ .i32 (IntKind.wrap .i32 y1302) 31)) - (shrZ .i32 (IntKind.wrap .i32 y1302) 31))) → (-2147483648 ≤ y1308 ∧ y1308 ≤ 2147483647) →
 ∀ y1309 : Int, y1309 = ((IntKind.wrap .i32 (y1295 + y1303)) + y1308) → (-4294967296 ≤ y1309 ∧ y1309 ≤ 4294967294) →
 ∀ y1310 : Int, y1310 = (IntKind.wrap .i32 ((bxor .i32 (shrZ .i32 y1307 24) (shrZ .i32 y1307 31)) - (shrZ .i32 y1307 31))) → (-2147483648 ≤ y1310 ∧ y1310 ≤ 2147483647) →
 ∀ y1311 : Int, y1311 = (IntKind.wrap .i32 ((bxor .i32 (shrZ .i32 y1305 24) (shrZ .i32 y1307 31)) - (shrZ .i32 y1307 31))) → (-2147483648 ≤ y1311 ∧ y1311 ≤ 2147483647) →
 ∀ y1312 : Int, y1312 = (IntKind.wrap .i32 ((bxor .i32 32 (shrZ .i32 y1307 31)) - (shrZ .i32 y1307 31))) → (-2147483648 ≤ y1312 ∧ y1312 ≤ 2147483647) →
 ∀ y1313 : Int, y1313 = (IntKind.wrap .i32 ((IntKind.wrap .i32 y1309) + y1312)) → (-2147483648 ≤ y1313 ∧ y1313 ≤ 2147483647) →
 ∀ y1314 : Int, y1314 = (shrZ .i32 (IntKind.wrap .i32 (y1307 - y1311)) 31) → (-1 ≤ y1314 ∧ y1314 ≤ 0) →
 ∀ y1315 : Int, y1315 = (shrZ .i32 (IntKind.wrap .i32 (y1307 - y1311)) 25) → (-64 ≤ y1315 ∧ y1315 ≤ 63) →
 ∀ y1316 : Int, y1316 = (IntKind.wrap .i32 ((bxor .i32 y1315 y1314) - y1314)) → (-2147483648 ≤ y1316 ∧ y1316 ≤ 2147483647) →
 ∀ y1317 : Int, y1317 = ((IntKind.wrap .i32 (y1305 + y1310)) + y1316) → (-4294967296 ≤ y1317 ∧ y1317 ≤ 4294967294) →
 ∀ y1318 : Int, y1318 = (shrZ .i32 (IntKind.wrap .i32 (y1305 + y1310)) 25) → (-64 ≤ y1318 ∧ y1318 ≤ 63) →
 ∀ y1319 : Int, y1319 = (IntKind.wrap .i32 ((bxor .i32 y1318 y1314) - y1314)) → (-2147483648 ≤ y1319 ∧ y1319 ≤ 2147483647) →
 ∀ y1320 : Int, y1320 = ((IntKind.wrap .i32 (y1307 - y1311)) - y1319) → (-4294967295 ≤ y1320 ∧ y1320 ≤ 4294967295) →
 ∀ y1321 : Int, y1321 = (IntKind.wrap .i32 ((bxor .i32 16 y1314) - y1314)) → (-2147483648 ≤ y1321 ∧ y1321 ≤ 2147483647) →
 ∀ y1322 : Int, y1322 = (IntKind.wrap .i32 ((bxor .i32 (shrZ .i32 (IntKind.wrap .i32 y1320) 26) (shrZ .i32 (IntKind.wrap .i32 y1320) 31)) - (shrZ .i32 (IntKind.wrap .i32 y1320) 31))) → (-2147483648 ≤ y1322 ∧ y1322 ≤ 2147483647) →
 ∀ y1323 : Int, y1323 = (IntKind.wrap .i32 ((IntKind.wrap .i32 y1317) + y1322)) → (-2147483648 ≤ y1323 ∧ y1323 ≤ 2147483647) →
 ∀ y1324 : Int, y1324 = (IntKind.wrap .i32 ((bxor .i32 (shrZ .i32 (IntKind.wrap .i32 y1317) 26) (shrZ .i32 (IntKind.wrap .i32 y1320) 31)) - (shrZ .i32 (IntKind.wrap .i32 y1320) 31))) → (-2147483648 ≤ y1324 ∧ y1324 ≤ 2147483647) →
 ∀ y1325 : Int, y1325 = (IntKind.wrap .i32 ((IntKind.wrap .i32 y1320) - y1324)) → (-2147483648 ≤ y1325 ∧ y1325 ≤ 2147483647) →
 ∀ y1326 : Int, y1326 = (IntKind.wrap .i32 ((bxor .i32 8 (shrZ .i32 (IntKind.wrap .i32 y1320) 31)) - (shrZ .i32 (IntKind.wrap .i32 y1320) 31))) → (-2147483648 ≤ y1326 ∧ y1326 ≤ 2147483647) →
 ∀ y1327 : Int, y1327 = ((IntKind.wrap .i32 (y1313 + y1321)) + y1326) → (-4294967296 ≤ y1327 ∧ y1327 ≤ 4294967294) →
 ∀ y1328 : Int, y1328 = (IntKind.wrap .i32 ((bxor .i32 (shrZ .i32 y1325 27) (shrZ .i32 y1325 31)) - (shrZ .i32 y1325 31))) → (-2147483648 ≤ y1328 ∧ y1328 ≤ 2147483647) →
 ∀ y1329 : Int, y1329 = (IntKind.wrap .i32 ((bxor .i32 (shrZ .i32 y1323 27) (shrZ .i32 y1325 31)) - (shrZ .i32 y1325 31))) → (-2147483648 ≤ y1329 ∧ y1329 ≤ 2147483647) →
 ∀ y1330 : Int, y1330 = (IntKind.wrap .i32 ((bxor .i32 4 (shrZ .i32 y1325 31)) - (shrZ .i32 y1325 31))) → (-2147483648 ≤ y1330 ∧ y1330 ≤ 2147483647) →
 ∀ y1331 : Int, y1331 = (IntKind.wrap .i32 ((IntKind.wrap .i32 y1327) + y1330)) → (-2147483648 ≤ y1331 ∧ y1331 ≤ 2147483647) →
 (((bool01 (y1162 == (IntKind.wrap .i32 (y1323 + y1328)))) ≠ 0 →
  (((bool01 (y1165 == (IntKind.wrap .i32 (y1325 - y1329)))) ≠ 0 →
   (((bool01 ((IntKind.wrap .i32 (y1158 + y1166)) == y1331)) ≠ 0 →
    ∀ y1332 : Int, y1332 = (maxZ a1 (minZ (0 - a1) 2147483647)) → (-2147483647 ≤ y1332 ∧ y1332 ≤ 2147483647) →
    ∀ y1333 : Int, y1333 = (maxZ a0 (minZ (0 - a0) 2147483647)) → (-2147483647 ≤ y1333 ∧ y1333 ≤ 2147483647) →
    ∀ y1334 : Int, y1334 = ((32 - (blen (IntKind.wrap .u32 (maxZ y1332 y1333)))) - 1) → (-1 ≤ y1334 ∧ y1334 ≤ 31) →
    ∀ y1335 : Int, y1335 = (IntKind.wrap .i32 (shlZ .u32 (IntKind.wrap .u32 (maxZ y1332 y1333)) (band .i32 y1334 31))) → (-2147483648 ≤ y1335 ∧ y1335 ≤ 2147483647) →
    ∀ y1336 : Int, y1336 = (IntKind.wrap .i32 (shlZ .u32 (IntKind.wrap .u32 (minZ y1332 y1333)) (band .i32 y1334 31))) → (-2147483648 ≤ y1336 ∧ y1336 ≤ 2147483647) →
    ∀ y1337 : Int, y1337 = (shrZ .i32 (shrZ .u32 (IntKind.wrap .u32 y1336) 2) 31) → (0 ≤ y1337 ∧ y1337 ≤ 0) →
    ∀ y1338 : Int, y1338 = (shrZ .i32 (shrZ .u32 (IntKind.wrap .u32 y1336) 2) 0) → (0 ≤ y1338 ∧ y1338 ≤ 1073741823) →
    ∀ y1339 : Int, y1339 = (IntKind.wrap .i32 ((shrZ .u32 (IntKind.wrap .u32 y1335) 2) + ((bxor .i32 y1338 y1337) - y1337))) → (-2147483648 ≤ y1339 ∧ y1339 ≤ 2147483647) →
    ∀ y1340 : Int, y1340 = (shrZ .i32 (shrZ .u32 (IntKind.wrap .u32 y1335) 2) 0) → (0 ≤ y1340 ∧ y1340 ≤ 1073741823) →
    ∀ y1341 : Int, y1341 = (IntKind.wrap .i32 ((shrZ .u32 (IntKind.wrap .u32 y1336) 2) - ((bxor .i32 y1340 y1337) - y1337))) → (-2147483648 ≤ y1341 ∧ y1341 ≤ 2147483647) →
    ∀ y1342 : Int, y1342 = (IntKind.wrap .i32 ((bxor .i32 (shrZ .i32 y1341 1) (shrZ .i32 y1341 31)) - (shrZ .i32 y1341 31))) → (-2147483648 ≤ y1342 ∧ y1342 ≤ 2147483647) →
    ∀ y1343 : Int, y1343 = (IntKind.wrap .i32 ((bxor .i32 (shrZ .i32 y1339 1) (shrZ .i32 y1341 31)) - (shrZ .i32 y1341 31))) → (-2147483648 ≤ y1343 ∧ y1343 ≤ 2147483647) →
    ∀ y1344 : Int, y1344 = (IntKind.wrap .i32 ((bxor .i32 248918915 (shrZ .i32 y1341 31)) - (shrZ .i32 y1341 31))) → (-2147483648 ≤ y1344 ∧ y1344 ≤ 2147483647) →
    ∀ y1345 : Int, y1345 = (IntKind.wrap .i32 (((bxor .i32 421657428 y1337) - y1337) + y1344)) → (-2147483648 ≤ y1345 ∧ y1345 ≤ 2147483647) →
    ∀ y1346 : Int, y1346 = (shrZ .i32 (IntKind.wrap .i32 (y1341 - y1343)) 31) → (-1 ≤ y1346 ∧ y1346 ≤ 0) →
    ∀ y1347 : Int, y1347 = (shrZ .i32 (IntKind.wrap .i32 (y1341 - y1343)) 2) → (-536870912 ≤ y1347 ∧ y1347 ≤ 536870911) →
    ∀ y1348 : Int, y1348 = (IntKind.wrap .i32 ((bxor .i32 y1347 y1346) - y1346)) → (-2147483648 ≤ y1348 ∧ y1348 ≤ 2147483647) →
    ∀ y1349 : Int, y1349 = (IntKind.wrap .i32 ((IntKind.wrap .i32 (y1339 + y1342)) + y1348)) → (-2147483648 ≤ y1349 ∧ y1349 ≤ 2147483647) →
    ∀ y1350 : Int, y1350 = (shrZ .i32 (IntKind.wrap .i32 (y1339 + y1342)) 2) → (-536870912 ≤ y1350 ∧ y1350 ≤ 536870911) →
    ∀ y1351 : Int, y1351 = (IntKind.wrap .i32 ((bxor .i32 y1350 y1346) - y1346)) → (-2147483648 ≤ y1351 ∧ y1351 ≤ 2147483647) →
    ∀ y1352 : Int, y1352 = (IntKind.wrap .i32 ((IntKind.wrap .i32 (y1341 - y1343)) - y1351)) → (-2147483648 ≤ y1352 ∧ y1352 ≤ 2147483647) →
    ∀ y1353 : Int, y1353 = (IntKind.wrap .i32 ((bxor .i32 131521918 y1346) - y1346)) → (-2147483648 ≤ y1353 ∧ y1353 ≤ 2147483647) →
    ∀ y1354 : Int, y1354 = (IntKind.wrap .i32 ((bxor .i32 (shrZ .i32 y1352 3) (shrZ .i32 y1352 31)) - (shrZ .i32 y1352 31))) → (-2147483648 ≤ y1354 ∧ y1354 ≤ 2147483647) →
    ∀ y1355 : Int, y1355 = (IntKind.wrap .i32 ((bxor .i32 (shrZ .i32 y1349 3) (shrZ .i32 y1352 31)) - (shrZ .i32 y1352 31))) → (-2147483648 ≤ y1355 ∧ y1355 ≤ 2147483647) →
    ∀ y1356 : Int, y1356 = (IntKind.wrap .i32 ((bxor .i32 66762579 (shrZ .i32 y1352 31)) - (shrZ .i32 y1352 31))) → (-2147483648 ≤ y1356 ∧ y1356 ≤ 2147483647) →
    ∀ y1357 : Int, y1357 = (IntKind.wrap .i32 ((IntKind.wrap .i32 (y1345 + y1353)) + y1356)) → (-2147483648 ≤ y1357 ∧ y1357 ≤ 2147483647) →
    ∀ y1358 : Int, y1358 = (shrZ .i32 (IntKind.wrap .i32 (y1352 - y1355)) 31) → (-1 ≤ y1358 ∧ y1358 ≤ 0) →
    ∀ y1359 : Int, y1359 = (shrZ .i32 (IntKind.wrap .i32 (y1352 - y1355)) 4) → (-134217728 ≤ y1359 ∧ y1359 ≤ 134217727) →
    ∀ y1360 : Int, y1360 = (IntKind.wrap .i32 ((bxor .i32 y1359 y1358) - y1358)) → (-2147483648 ≤ y1360 ∧ y1360 ≤ 2147483647) →
    ∀ y1361 : Int, y1361 = (IntKind.wrap .i32 ((IntKind.wrap .i32 (y1349 + y1354)) + y1360)) → (-2147483648 ≤ y1361 ∧ y1361 ≤ 2147483647) →
    ∀ y1362 : Int, y1362 = (shrZ .i32 (IntKind.wrap .i32 (y1349 + y1354)) 4) → (-134217728 ≤ y1362 ∧ y1362 ≤ 134217727) →
    ∀ y1363 : Int, y1363 = (IntKind.wrap .i32 ((bxor .i32 y1362 y1358) - y1358)) → (-2147483648 ≤ y1363 ∧ y1363 ≤ 2147483647) →
    ∀ y1364 : Int, y1364 = (IntKind.wrap .i32 ((IntKind.wrap .i32 (y1352 - y1355)) - y1363)) → (-2147483648 ≤ y1364 ∧ y1364 ≤ 2147483647) →
    ∀ y1365 : Int, y1365 = (IntKind.wrap .i32 ((bxor .i32 33510843 y1358) - y1358)) → (-2147483648 ≤ y1365 ∧ y1365 ≤ 2147483647) →
    ∀ y1366 : Int, y1366 = (IntKind.wrap .i32 ((bxor .i32 (shrZ .i32 y1364 5) (shrZ .i32 y1364 31)) - (shrZ .i32 y1364 31))) → (-2147483648 ≤ y1366 ∧ y1366 ≤ 2147483647) →
    ∀ y1367 : Int, y1367 = (IntKind.wrap .i32 ((bxor .i32 (shrZ .i32 y1361 5) (shrZ .i32 y1364 31)) - (shrZ .i32 y1364 31))) → (-2147483648 ≤ y1367 ∧ y1367 ≤ 2147483647) →
    ∀ y1368 : Int, y1368 = (IntKind.wrap .i32 ((bxor .i32 16771758 (shrZ .i32 y1364 31)) - (shrZ .i32 y1364 31))) → (-2147483648 ≤ y1368 ∧ y1368 ≤ 2147483647) →
    ∀ y1369 : Int, y1369 = (IntKind.wrap .i32 ((IntKind.wrap .i32 (y1357 + y1365)) + y1368)) → (-2147483648 ≤ y1369 ∧ y1369 ≤ 2147483647) →
    ∀ y1370 : Int, y1370 = (shrZ .i32 (IntKind.wrap .i32 (y1364 - y1367)) 31) → (-1 ≤ y1370 ∧ y1370 ≤ 0) →
    ∀ y1371 : Int, y1371 = (shrZ .i32 (IntKind.wrap .i32 (y1364 - y1367)) 6) → (-33554432 ≤ y1371 ∧ y1371 ≤ 33554431) →
    ∀ y1372 : Int, y1372 = (IntKind.wrap .i32 ((bxor .i32 y1371 y1370) - y1370)) → (-2147483648 ≤ y1372 ∧ y1372 ≤ 2147483647) →
    ∀ y1373 : Int, y1373 = (IntKind.wrap .i32 ((IntKind.wrap .i32 (y1361 + y1366)) + y1372)) → (-2147483648 ≤ y1373 ∧ y1373 ≤ 2147483647) →
    ∀ y1374 : Int, y1374 = (shrZ .i32 (IntKind.wrap .i32 (y1361 + y1366)) 6) → (-33554432 ≤ y1374 ∧ y1374 ≤ 33554431) →
    ∀ y1375 : Int, y1375 = (IntKind.wrap .i32 ((bxor .i32 y1374 y1370) - y1370)) → (-2147483648 ≤ y1375 ∧ y1375 ≤ 2147483647) →
    ∀ y1376 : Int, y1376 = (IntKind.wrap .i32 ((IntKind.wrap .i32 (y1364 - y1367)) - y1375)) → (-2147483648 ≤ y1376 ∧ y1376 ≤ 2147483647) →
    ∀ y1377 : Int, y1377 = (IntKind.wrap .i32 ((bxor .i32 8387925 y1370) - y1370)) → (-2147483648 ≤ y1377 ∧ y1377 ≤ 2147483647) →
    ∀ y1378 : Int, y1378 = (IntKind.wrap .i32 ((bxor .i32 (shrZ .i32 y1376 7) (shrZ .i32 y1376 31)) - (shrZ .i32 y1376 31))) → (-2147483648 ≤ y1378 ∧ y1378 ≤ 2147483647) →
    ∀ y1379 : Int, y1379 = (IntKind.wrap .i32 ((bxor .i32 (shrZ .i32 y1373 7) (shrZ .i32 y1376 31)) - (shrZ .i32 y1376 31))) → (-2147483648 ≤ y1379 ∧ y1379 ≤ 2147483647) →
    ∀ y1380 : Int, y1380 = (IntKind.wrap .i32 ((bxor .i32 4194219 (shrZ .i32 y1376 31)) - (shrZ .i32 y1376 31))) → (-2147483648 ≤ y1380 ∧ y1380 ≤ 2147483647) →
    ∀ y1381 : Int, y1381 = (IntKind.wrap .i32 ((IntKind.wrap .i32 (y1369 + y1377)) + y1380)) → (-2147483648 ≤ y1381 ∧ y1381 ≤ 2147483647) →
    ∀ y1382 : Int, y1382 = (shrZ .i32 (IntKind.wrap .i32 (y1376 - y1379)) 31) → (-1 ≤ y1382 ∧ y1382 ≤ 0) →
    ∀ y1383 : Int, y1383 = (shrZ .i32 (IntKind.wrap .i32 (y1376 - y1379)) 8) → (-8388608 ≤ y1383 ∧ y1383 ≤ 8388607) →
    ∀ y1384 : Int, y1384 = (IntKind.wrap .i32 ((bxor .i32 y1383 y1382) - y1382)) → (-2147483648 ≤ y1384 ∧ y1384 ≤ 2147483647) →
    ∀ y1385 : Int, y1385 = (IntKind.wrap .i32 ((IntKind.wrap .i32 (y1373 + y1378)) + y1384)) → (-2147483648 ≤ y1385 ∧ y1385 ≤ 2147483647) →
    ∀ y1386 : Int, y1386 = (shrZ .i32 (IntKind.wrap .i32 (y1373 + y1378)) 8) → (-8388608 ≤ y1386 ∧ y1386 ≤ 8388607) →
    ∀ y1387 : Int, y1387 = (IntKind.wrap .i32 ((bxor .i32 y1386 y1382) - y1382)) → (-2147483648 ≤ y1387 ∧ y1387 ≤ 2147483647) →
    ∀ y1388 : Int, y1388 = (IntKind.wrap .i32 ((IntKind.wrap .i32 (y1376 - y1379)) - y1387)) → (-2147483648 ≤ y1388 ∧ y1388 ≤ 2147483647) →
    ∀ y1389 : Int, y1389 = (IntKind.wrap .i32 ((bxor .i32 2097141 y1382) - y1382)) → (-2147483648 ≤ y1389 ∧ y1389 ≤ 2147483647) →
    ∀ y1390 : Int, y1390 = (IntKind.wrap .i32 ((bxor .i32 (shrZ .i32 y1388 9) (shrZ .i32 y1388 31)) - (shrZ .i32 y1388 31))) → (-2147483648 ≤ y1390 ∧ y1390 ≤ 2147483647) →
    ∀ y1391 : Int, y1391 = (IntKind.wrap .i32 ((bxor .i32 (shrZ .i32 y1385 9) (shrZ .i32 y1388 31)) - (shrZ .i32 y1388 31))) → (-2147483648 ≤ y1391 ∧ y1391 ≤ 2147483647) →
    ∀ y1392 : Int, y1392 = (IntKind.wrap .i32 ((bxor .i32 1048575 (shrZ .i32 y1388 31)) - (shrZ .i32 y1388 31))) → (-2147483648 ≤ y1392 ∧ y1392 ≤ 2147483647) →
    ∀ y1393 : Int, y1393 = (IntKind.wrap .i32 ((IntKind.wrap .i32 (y1381 + y1389)) + y1392)) → (-2147483648 ≤ y1393 ∧ y1393 ≤ 2147483647) →
    ∀ y1394 : Int, y1394 = (shrZ .i32 (IntKind.wrap .i32 (y1388 - y1391)) 31) → (-1 ≤ y1394 ∧ y1394 ≤ 0) →
    ∀ y1395 : Int, y1395 = (shrZ .i32 (IntKind.wrap .i32 (y1388 - y1391)) 10) → (-2097152 ≤ y1395 ∧ y1395 ≤ 2097151) →
    ∀ y1396 : Int, y1396 = (IntKind.wrap .i32 ((bxor .i32 y1395 y1394) - y1394)) → (-2147483648 ≤ y1396 ∧ y1396 ≤ 2147483647) →
    ∀ y1397 : Int, y1397 = (IntKind.wrap .i32 ((IntKind.wrap .i32 (y1385 + y1390)) + y1396)) → (-2147483648 ≤ y1397 ∧ y1397 ≤ 2147483647) →
    ∀ y1398 : Int, y1398 = (shrZ .i32 (IntKind.wrap .i32 (y1385 + y1390)) 10) → (-2097152 ≤ y1398 ∧ y1398 ≤ 2097151) →
    ∀ y1399 : Int, y1399 = (IntKind.wrap .i32 ((bxor .i32 y1398 y1394) - y1394)) → (-2147483648 ≤ y1399 ∧ y1399 ≤ 2147483647) →
    ∀ y1400 : Int, y1400 = (IntKind.wrap .i32 ((IntKind.wrap .i32 (y1388 - y1391)) - y1399)) → (-2147483648 ≤ y1400 ∧ y1400 ≤ 2147483647) →
    ∀ y1401 : Int, y1401 = (IntKind.wrap .i32 ((bxor .i32 524288 y1394) - y1394)) → (-2147483648 ≤ y1401 ∧ y1401 ≤ 2147483647) →
    ∀ y1402 : Int, y1402 = (IntKind.wrap .i32 ((bxor .i32 (shrZ .i32 y1400 11) (shrZ .i32 y1400 31)) - (shrZ .i32 y1400 31))) → (-2147483648 ≤ y1402 ∧ y1402 ≤ 2147483647) →
    ∀ y1403 : Int, y1403 = (IntKind.wrap .i32 ((bxor .i32 (shrZ .i32 y1397 11) (shrZ .i32 y1400 31)) - (shrZ .i32 y1400 31))) → (-2147483648 ≤ y1403 ∧ y1403 ≤ 2147483647) →
    ∀ y1404 : Int, y1404 = (IntKind.wrap .i32 ((bxor .i32 262144 (shrZ .i32 y1400 31)) - (shrZ .i32 y1400 31))) → (-2147483648 ≤ y1404 ∧ y1404 ≤ 2147483647) →
    ∀ y1405 : Int, y1405 = (IntKind.wrap .i32 ((IntKind.wrap .i32 (y1393 + y1401)) + y1404)) → (-2147483648 ≤ y1405 ∧ y1405 ≤ 2147483647) →
    ∀ y1406 : Int, y1406 = (shrZ .i32 (IntKind.wrap .i32 (y1400 - y1403)) 31) → (-1 ≤ y1406 ∧ y1406 ≤ 0) →
    ∀ y1407 : Int, y1407 = (shrZ .i32 (IntKind.wrap .i32 (y1400 - y1403)) 12) → (-524288 ≤ y1407 ∧ y1407 ≤ 524287) →
    ∀ y1408 : Int, y1408 = (IntKind.wrap .i32 ((bxor .i32 y1407 y1406) - y1406)) → (-2147483648 ≤ y1408 ∧ y1408 ≤ 2147483647) →
    ∀ y1409 : Int, y1409 = (IntKind.wrap .i32 ((IntKind.wrap .i32 (y1397 + y1402)) + y1408)) → (-2147483648 ≤ y1409 ∧ y1409 ≤ 2147483647) →
    ∀ y1410 : Int, y1410 = (shrZ .i32 (IntKind.wrap .i32 (y1397 + y1402)) 12) → (-524288 ≤ y1410 ∧ y1410 ≤ 524287) →
    ∀ y1411 : Int, y1411 = (IntKind.wrap .i32 ((bxor .i32 y1410 y1406) - y1406)) → (-2147483648 ≤ y1411 ∧ y1411 ≤ 2147483647) →
    ∀ y1412 : Int, y1412 = (IntKind.wrap .i32 ((IntKind.wrap .i32 (y1400 - y1403)) - y1411)) → (-2147483648 ≤ y1412 ∧ y1412 ≤ 2147483647) →
    ∀ y1413 : Int, y1413 = (IntKind.wrap .i32 ((bxor .i32 131072 y1406) - y1406)) → (-2147483648 ≤ y1413 ∧ y1413 ≤ 2147483647) →
    ∀ y1414 : Int, y1414 = (IntKind.wrap .i32 ((bxor .i32 (shrZ .i32 y1412 13) (shrZ .i32 y1412 31)) - (shrZ .i32 y1412 31))) → (-2147483648 ≤ y1414 ∧ y1414 ≤ 2147483647) →
    ∀ y1415 : Int, y1415 = (IntKind.wrap .i32 ((bxor .i32 (shrZ .i32 y1409 13) (shrZ .i32 y1412 31)) - (shrZ .i32 y1412 31))) → (-2147483648 ≤ y1415 ∧ y1415 ≤ 2147483647) →
    ∀ y1416 : Int, y1416 = (IntKind.wrap .i32 ((bxor .i32 65536 (shrZ .i32 y1412 31)) - (shrZ .i32 y1412 31))) → (-2147483648 ≤ y1416 ∧ y1416 ≤ 2147483647) →
    ∀ y1417 : Int, y1417 = (IntKind.wrap .i32 ((IntKind.wrap .i32 (y1405 + y1413)) + y1416)) → (-2147483648 ≤ y1417 ∧ y1417 ≤ 2147483647) →
    ∀ y1418 : Int, y1418 = (shrZ .i32 (IntKind.wrap .i32 (y1412 - y1415)) 31) → (-1 ≤ y1418 ∧ y1418 ≤ 0) →
    ∀ y1419 : Int, y1419 = (shrZ .i32 (IntKind.wrap .i32 (y1412 - y1415)) 14) → (-131072 ≤ y1419 ∧ y1419 ≤ 131071) →
    ∀ y1420 : Int, y1420 = (IntKind.wrap .i32 ((bxor .i32 y1419 y1418) - y1418)) → (-2147483648 ≤ y1420 ∧ y1420 ≤ 2147483647) →
    ∀ y1421 : Int, y1421 = (IntKind.wrap .i32 ((IntKind.wrap .i32 (y1409 + y1414)) + y1420)) → (-2147483648 ≤ y1421 ∧ y1421 ≤ 2147483647) →
    ∀ y1422 : Int, y1422 = (shrZ .i32 (IntKind.wrap .i32 (y1409 + y1414)) 14) → (-131072 ≤ y1422 ∧ y1422 ≤ 131071) →
    ∀ y1423 : Int, y1423 = (IntKind.wrap .i32 ((bxor .i32 y1422 y1418) - y1418)) → (-2147483648 ≤ y1423 ∧ y1423 ≤ 2147483647) →
    ∀ y1424 : Int, y1424 = (IntKind.wrap .i32 ((IntKind.wrap .i32 (y1412 - y1415)) - y1423)) → (-2147483648 ≤ y1424 ∧ y1424 ≤ 2147483647) →
    ∀ y1425 : Int, y1425 = (IntKind.wrap .i32 ((bxor .i32 32768 y1418) - y1418)) → (-2147483648 ≤ y1425 ∧ y1425 ≤ 2147483647) →
    ∀ y1426 : Int, y1426 = (IntKind.wrap .i32 ((bxor .i32 (shrZ .i32 y1424 15) (shrZ .i32 y1424 31)) - (shrZ .i32 y1424 31))) → (-2147483648 ≤ y1426 ∧ y1426 ≤ 2147483647) →
    ∀ y1427 : Int, y1427 = (IntKind.wrap .i32 ((bxor .i32 (shrZ .i32 y1421 15) (shrZ .i32 y1424 31)) - (shrZ .i32 y1424 31))) → (-2147483648 ≤ y1427 ∧ y1427 ≤ 2147483647) →
    ∀ y1428 : Int, y1428 = (IntKind.wrap .i32 ((bxor .i32 16384 (shrZ .i32 y1424 31)) - (shrZ .i32 y1424 31))) → (-2147483648 ≤ y1428 ∧ y1428 ≤ 2147483647) →
    ∀ y1429 : Int, y1429 = (IntKind.wrap .i32 ((IntKind.wrap .i32 (y1417 + y1425)) + y1428)) → (-2147483648 ≤ y1429 ∧ y1429 ≤ 2147483647) →
    ∀ y1430 : Int, y1430 = (shrZ .i32 (IntKind.wrap .i32 (y1424 - y1427)) 31) → (-1 ≤ y1430 ∧ y1430 ≤ 0) →
    ∀ y1431 : Int, y1431 = (shrZ .i32 (IntKind.wrap .i32 (y1424 - y1427)) 16) → (-32768 ≤ y1431 ∧ y1431 ≤ 32767) →
    ∀ y1432 : Int, y1432 = (IntKind.wrap .i32 ((bxor .i32 y1431 y1430) - y1430)) → (-2147483648 ≤ y1432 ∧ y1432 ≤ 2147483647) →
    ∀ y1433 : Int, y1433 = (IntKind.wrap .i32 ((IntKind.wrap .i32 (y1421 + y1426)) + y1432)) → (-2147483648 ≤ y1433 ∧ y1433 ≤ 2147483647) →
    ∀ y1434 : Int, y1434 = (shrZ .i32 (IntKind.wrap .i32 (y1421 + y1426)) 16) → (-32768 ≤ y1434 ∧ y1434 ≤ 32767) →
    ∀ y1435 : Int, y1435 = (IntKind.wrap .i32 ((bxor .i32 y1434 y1430) - y1430)) → (-2147483648 ≤ y1435 ∧ y1435 ≤ 2147483647) →
    ∀ y1436 : Int, y1436 = (IntKind.wrap .i32 ((IntKind.wrap .i32 (y1424 - y1427)) - y1435)) → (-2147483648 ≤ y1436 ∧ y1436 ≤ 2147483647) →
    ∀ y1437 : Int, y1437 = (IntKind.wrap .i32 ((bxor .i32 8192 y1430) - y1430)) → (-2147483648 ≤ y1437 ∧ y1437 ≤ 2147483647) →
    ∀ y1438 : Int, y1438 = (IntKind.wrap .i32 ((bxor .i32 (shrZ .i32 y1436 17) (shrZ .i32 y1436 31)) - (shrZ .i32 y1436 31))) → (-2147483648 ≤ y1438 ∧ y1438 ≤ 2147483647) →
    ∀ y1439 : Int, y1439 = (IntKind.wrap .i32 ((bxor .i32 (shrZ .i32 y1433 17) (shrZ .i32 y1436 31)) - (shrZ .i32 y1436 31))) → (-2147483648 ≤ y1439 ∧ y1439 ≤ 2147483647) →
    ∀ y1440 : Int, y1440 = (IntKind.wrap .i32 ((bxor .i32 4096 (shrZ .i32 y1436 31)) - (shrZ .i32 y1436 31))) → (-2147483648 ≤ y1440 ∧ y1440 ≤ 2147483647) →
    ∀ y1441 : Int, y1441 = (IntKind.wrap .i32 ((IntKind.wrap .i32 (y1429 + y1437)) + y1440)) → (-2147483648 ≤ y1441 ∧ y1441 ≤ 2147483647) →
    ∀ y1442 : Int, y1442 = (shrZ .i32 (IntKind.wrap .i32 (y1436 - y1439)) 31) → (-1 ≤ y1442 ∧ y1442 ≤ 0) →
    ∀ y1443 : Int, y1443 = (shrZ .i32 (IntKind.wrap .i32 (y1436 - y1439)) 18) → (-8192 ≤ y1443 ∧ y1443 ≤ 8191) →
    ∀ y1444 : Int, y1444 = (IntKind.wrap .i32 ((bxor .i32 y1443 y1442) - y1442)) → (-2147483648 ≤ y1444 ∧ y1444 ≤ 2147483647) →
    ∀ y1445 : Int, y1445 = (IntKind.wrap .i32 ((IntKind.wrap .i32 (y1433 + y1438)) + y1444)) → (-2147483648 ≤ y1445 ∧ y1445 ≤ 2147483647) →
    ∀ y1446 : Int, y1446 = (shrZ .i32 (IntKind.wrap .i32 (y1433 + y1438)) 18) → (-8192 ≤ y1446 ∧ y1446 ≤ 8191) →
    ∀ y1447 : Int, y1447 = (IntKind.wrap .i32 ((bxor .i32 y1446 y1442) - y1442)) → (-2147483648 ≤ y1447 ∧ y1447 ≤ 2147483647) →
    ∀ y1448 : Int, y1448 = (IntKind.wrap .i32 ((IntKind.wrap .i32 (y1436 - y1439)) - y1447)) → (-2147483648 ≤ y1448 ∧ y1448 ≤ 2147483647) →
    ∀ y1449 : Int, y1449 = (IntKind.wrap .i32 ((bxor .i32 2048 y1442) - y1442)) → (-2147483648 ≤ y1449 ∧ y1449 ≤ 2147483647) →
    ∀ y1450 : Int, y1450 = (IntKind.wrap .i32 ((bxor .i32 (shrZ .i32 y1448 19) (shrZ .i32 y1448 31)) - (shrZ .i32 y1448 31))) → (-2147483648 ≤ y1450 ∧ y1450 ≤ 2147483647) →
    ∀ y1451 : Int, y1451 = (IntKind.wrap .i32 ((bxor .i32 (shrZ .i32 y1445 19) (shrZ .i32 y1448 31)) - (shrZ .i32 y1448 31))) → (-2147483648 ≤ y1451 ∧ y1451 ≤ 2147483647) →
    ∀ y1452 : Int, y1452 = (IntKind.wrap .i32 ((bxor .i32 1024 (shrZ .i32 y1448 31)) - (shrZ .i32 y1448 31))) → (-2147483648 ≤ y1452 ∧ y1452 ≤ 2147483647) →
    ∀ y1453 : Int, y1453 = (IntKind.wrap .i32 ((IntKind.wrap .i32 (y1441 + y1449)) + y1452)) → (-2147483648 ≤ y1453 ∧ y1453 ≤ 2147483647) →
    ∀ y1454 : Int, y1454 = (shrZ .i32 (IntKind.wrap .i32 (y1448 - y1451)) 31) → (-1 ≤ y1454 ∧ y1454 ≤ 0) →
    ∀ y1455 : Int, y1455 = (shrZ .i32 (IntKind.wrap .i32 (y1448 - y1451)) 20) → (-2048 ≤ y1455 ∧ y1455 ≤ 2047) →
    ∀ y1456 : Int, y1456 = (IntKind.wrap .i32 ((bxor .i32 y1455 y1454) - y1454)) → (-2147483648 ≤ y1456 ∧ y1456 ≤ 2147483647) →
    ∀ y1457 : Int, y1457 = (IntKind.wrap .i32 ((IntKind.wrap .i32 (y1445 + y1450)) + y1456)) → (-2147483648 ≤ y1457 ∧ y1457 ≤ 2147483647) →
    ∀ y1458 : Int, y1458 = (shrZ .i32 (IntKind.wrap .i32 (y1445 + y1450)) 20) → (-2048 ≤ y1458 ∧ y1458 ≤ 2047) →
    ∀ y1459 : Int, y1459 = (IntKind.wrap .i32 ((bxor .i32 y1458 y1454) - y1454)) → (-2147483648 ≤ y1459 ∧ y1459 ≤ 2147483647) →
    ∀ y1460 : Int, y1460 = (IntKind.wrap .i32 ((IntKind.wrap .i32 (y1448 - y1451)) - y1459)) → (-2147483648 ≤ y1460 ∧ y1460 ≤ 2147483647) →
    ∀ y1461 : Int, y1461 = (IntKind.wrap .i32 ((bxor .i32 512 y1454) - y1454)) → (-2147483648 ≤ y1461 ∧ y1461 ≤ 2147483647) →
    ∀ y1462 : Int, y1462 = (IntKind.wrap .i32 ((bxor .i32 (shrZ .i32 y1460 21) (shrZ .i32 y1460 31)) - (shrZ .i32 y1460 31))) → (-2147483648 ≤ y1462 ∧ y1462 ≤ 2147483647) →
    ∀ y1463 : Int, y1463 = (IntKind.wrap .i32 ((bxor .i32 (shrZ .i32 y1457 21) (shrZ .i32 y1460 31)) - (shrZ .i32 y1460 31))) → (-2147483648 ≤ y1463 ∧ y1463 ≤ 2147483647) →
    ∀ y1464 : Int, y1464 = (IntKind.wrap .i32 ((bxor .i32 256 (shrZ .i32 y1460 31)) - (shrZ .i32 y1460 31))) → (-2147483648 ≤ y1464 ∧ y1464 ≤ 2147483647) →
    ∀ y1465 : Int, y1465 = (IntKind.wrap .i32 ((IntKind.wrap .i32 (y1453 + y1461)) + y1464)) → (-2147483648 ≤ y1465 ∧ y1465 ≤ 2147483647) →
    ∀ y1466 : Int, y1466 = (shrZ .i32 (IntKind.wrap .i32 (y1460 - y1463)) 31) → (-1 ≤ y1466 ∧ y1466 ≤ 0) →
    ∀ y1467 : Int, y1467 = (shrZ .i32 (IntKind.wrap .i32 (y1460 - y1463)) 22) → (-512 ≤ y1467 ∧ y1467 ≤ 511) →
    ∀ y1468 : Int, y1468 = (IntKind.wrap .i32 ((bxor .i32 y1467 y1466) - y1466)) → (-2147483648 ≤ y1468 ∧ y1468 ≤ 2147483647) →
    ∀ y1469 : Int, y1469 = (IntKind.wrap .i32 ((IntKind.wrap .i32 (y1457 + y1462)) + y1468)) → (-2147483648 ≤ y1469 ∧ y1469 ≤ 2147483647) →
    ∀ y1470 : Int, y1470 = (shrZ .i32 (IntKind.wrap .i32 (y1457 + y1462)) 22) → (-512 ≤ y1470 ∧ y1470 ≤ 511) →
    ∀ y1471 : Int, y1471 = (IntKind.wrap .i32 ((bxor .i32 y1470 y1466) - y1466)) → (-2147483648 ≤ y1471 ∧ y1471 ≤ 2147483647) →
    ∀ y1472 : Int, y1472 = (IntKind.wrap .i32 ((IntKind.wrap .i32 (y1460 - y1463)) - y1471)) → (-2147483648 ≤ y1472 ∧ y1472 ≤ 2147483647) →
    ∀ y1473 : Int, y1473 = (IntKind.wrap .i32 ((bxor .i32 128 y1466) - y1466)) → (-2147483648 ≤ y1473 ∧ y1473 ≤ 2147483647) →
    ∀ y1474 : Int, y1474 = (IntKind.wrap .i32 ((bxor .i32 (shrZ .i32 y1472 23) (shrZ .i32 y1472 31)) - (shrZ .i32 y1472 31))) → (-2147483648 ≤ y1474 ∧ y1474 ≤ 2147483647) →
    ∀ y1475 : Int, y1475 = (IntKind.wrap .i32 ((bxor .i32 (shrZ .i32 y1469 23) (shrZ .i32 y1472 31)) - (shrZ .i32 y1472 31))) → (-2147483648 ≤ y1475 ∧ y1475 ≤ 2147483647) →
    ∀ y1476 : Int, y1476 = (IntKind.wrap .i32 ((bxor .i32 64 (shrZ .i32 y1472 31)) - (shrZ .i32 y1472 31))) → (-2147483648 ≤ y1476 ∧ y1476 ≤ 2147483647) →
    ∀ y1477 : Int, y1477 = (IntKind.wrap .i32 ((IntKind.wrap .i32 (y1465 + y1473)) + y1476)) → (-2147483648 ≤ y1477 ∧ y1477 ≤ 2147483647) →
    ∀ y1478 : Int, y1478 = (shrZ .i32 (IntKind.wrap .i32 (y1472 - y1475)) 31) → (-1 ≤ y1478 ∧ y1478 ≤ 0) →
    ∀ y1479 : Int, y1479 = (shrZ .i32 (IntKind.wrap .i32 (y1472 - y1475)) 24) → (-128 ≤ y1479 ∧ y1479 ≤ 127) →
    ∀ y1480 : Int, y1480 = (IntKind.wrap .i32 ((bxor .i32 y1479 y1478) - y1478)) → (-2147483648 ≤ y1480 ∧ y1480 ≤ 2147483647) →
    ∀ y1481 : Int, y1481 = (IntKind.wrap .i32 ((IntKind.wrap .i32 (y1469 + y1474)) + y1480)) → (-2147483648 ≤ y1481 ∧ y1481 ≤ 2147483647) →
    ∀ y1482 : Int, y1482 = (shrZ .i32 (IntKind.wrap .i32 (y1469 + y1474)) 24) → (-128 ≤ y1482 ∧ y1482 ≤ 127) →
    ∀ y1483 : Int, y1483 = (IntKind.wrap .i32 ((bxor .i32 y1482 y1478) - y1478)) → (-2147483648 ≤ y1483 ∧ y1483 ≤ 2147483647) →
    ∀ y1484 : Int, y1484 = (IntKind.wrap .i32 ((IntKind.wrap .i32 (y1472 - y1475)) - y1483)) → (-2147483648 ≤ y1484 ∧ y1484 ≤ 2147483647) →
    ∀ y1485 : Int, y1485 = (IntKind.wrap .i32 ((bxor .i32 32 y1478) - y1478)) → (-2147483648 ≤ y1485 ∧ y1485 ≤ 2147483647) →
    ∀ y1486 : Int, y1486 = (IntKind.wrap .i32 ((bxor .i32 (shrZ .i32 y1484 25) (shrZ .i32 y1484 31)) - (shrZ .i32 y1484 31))) → (-2147483648 ≤ y1486 ∧ y1486 ≤ 2147483647) →
    ∀ y1487 : Int, y1487 = (IntKind.wrap .i32 ((bxor .i32 (shrZ .i32 y1481 25) (shrZ .i32 y1484 31)) - (shrZ .i32 y1484 31))) → (-2147483648 ≤ y1487 ∧ y1487 ≤ 2147483647) →
    ∀ y1488 : Int, y1488 = (IntKind.wrap .i32 ((bxor .i32 16 (shrZ .i32 y1484 31)) - (shrZ .i32 y1484 31))) → (-2147483648 ≤ y1488 ∧ y1488 ≤ 2147483647) →
    ∀ y1489 : Int, y1489 = (IntKind.wrap .i32 ((IntKind.wrap .i32 (y1477 + y1485)) + y1488)) → (-2147483648 ≤ y1489 ∧ y1489 ≤ 2147483647) →
    ∀ y1490 : Int, y1490 = (shrZ .i32 (IntKind.wrap .i32 (y1484 - y1487)) 31) → (-1 ≤ y1490 ∧ y1490 ≤ 0) →
    ∀ y1491 : Int, y1491 = (shrZ .i32 (IntKind.wrap .i32 (y1484 - y1487)) 26) → (-32 ≤ y1491 ∧ y1491 ≤ 31) →
    ∀ y1492 : Int, y1492 = (IntKind.wrap .i32 ((bxor .i32 y1491 y1490) - y1490)) → (-2147483648 ≤ y1492 ∧ y1492 ≤ 2147483647) →
    ∀ y1493 : Int, y1493 = (IntKind.wrap .i32 ((IntKind.wrap .i32 (y1481 + y1486)) + y1492)) → (-2147483648 ≤ y1493 ∧ y1493 ≤ 2147483647) →
    ∀ y1494 : Int, y1494 = (shrZ .i32 (IntKind.wrap .i32 (y1481 + y1486)) 26) → (-32 ≤ y1494 ∧ y1494 ≤ 31) →
    ∀ y1495 : Int, y1495 = (IntKind.wrap .i32 ((bxor .i32 y1494 y1490) - y1490)) → (-2147483648 ≤ y1495 ∧ y1495 ≤ 2147483647) →
    ∀ y1496 : Int, y1496 = (IntKind.wrap .i32 ((IntKind.wrap .i32 (y1484 - y1487)) - y1495)) → (-2147483648 ≤ y1496 ∧ y1496 ≤ 2147483647) →
    ∀ y1497 : Int, y1497 = (IntKind.wrap .i32 ((bxor .i32 8 y1490) - y1490)) → (-2147483648 ≤ y1497 ∧ y1497 ≤ 2147483647) →
    ∀ y1498 : Int, y1498 = (IntKind.wrap .i32 ((bxor .i32 (shrZ .i32 y1496 27) (shrZ .i32 y1496 31)) - (shrZ .i32 y1496 31))) → (-2147483648 ≤ y1498 ∧ y1498 ≤ 2147483647) →
    ∀ y1499 : Int, y1499 = (IntKind.wrap .i32 ((bxor .i32 (shrZ .i32 y1493 27) (shrZ .i32 y1496 31)) - (shrZ .i32 y1496 31))) → (-2147483648 ≤ y1499 ∧ y1499 ≤ 2147483647) →
    ∀ y1500 : Int, y1500 = (IntKind.wrap .i32 ((bxor .i32 4 (shrZ .i32 y1496 31)) - (shrZ .i32 y1496 31))) → (-2147483648 ≤ y1500 ∧ y1500 ≤ 2147483647) →
    ∀ y1501 : Int, y1501 = (IntKind.wrap .i32 ((IntKind.wrap .i32 (y1489 + y1497)) + y1500)) → (-2147483648 ≤ y1501 ∧ y1501 ≤ 2147483647) →
    ∀ y1502 : Int, y1502 = (0 - (iteZ (bool01 (decide (y1332 < y1333))) 1 0)) → (-1 ≤ y1502 ∧ y1502 ≤ 0) →
    ∀ y1503 : Int, y1503 = (bor .i32 (band .i32 (IntKind.wrap .i32 (843314857 - y1501)) y1502) (bandn .i32 y1501 y1502)) → (-2147483648 ≤ y1503 ∧ y1503 ≤ 2147483647) →
    ∀ y1504 : Int, y1504 = (bor .i32 (band .i32 (IntKind.wrap .i32 (1686629713 - y1503)) (shrZ .i32 a1 31)) (bandn .i32 y1503 (shrZ .i32 a1 31))) → (-2147483648 ≤ y1504 ∧ y1504 ≤ 2147483647) →
    ∀ y1505 : Int, y1505 = (IntKind.wrap .i32 ((bxor .i32 y1504 (shrZ .i32 a0 31)) - (shrZ .i32 a0 31))) → (-2147483648 ≤ y1505 ∧ y1505 ≤ 2147483647) →
    ∀ y1506 : Int, y1506 = (maxZ a1 (minZ (0 - a1) 2147483647)) → (-2147483647 ≤ y1506 ∧ y1506 ≤ 2147483647) →
    ∀ y1507 : Int, y1507 = (maxZ a0 (minZ (0 - a0) 2147483647)) → (-2147483647 ≤ y1507 ∧ y1507 ≤ 2147483647) →
    ∀ y1508 : Int, y1508 = (32 - (blen (IntKind.wrap .u32 (maxZ y1506 y1507)))) → (0 ≤ y1508 ∧ y1508 ≤ 32) →
    ∀ y1509 : Int, y1509 = (IntKind.wrap .i32 (shlZ .u32 (IntKind.wrap .u32 (minZ y1506 y1507)) (band .i32 (y1508 - 1) 31))) → (-2147483648 ≤ y1509 ∧ y1509 ≤ 2147483647) →
    ∀ y1510 : Int, y1510 = (IntKind.wrap .i32 (shlZ .u32 (IntKind.wrap .u32 (maxZ y1506 y1507)) (band .i32 (y1508 - 1) 31))) → (-2147483648 ≤ y1510 ∧ y1510 ≤ 2147483647) →
    ∀ y1511 : Int, y1511 = (shrZ .i32 (shrZ .u32 (IntKind.wrap .u32 y1509) 2) 31) → (0 ≤ y1511 ∧ y1511 ≤ 0) →
    ∀ y1512 : Int, y1512 = (shrZ .i32 (shrZ .u32 (IntKind.wrap .u32 y1509) 2) 0) → (0 ≤ y1512 ∧ y1512 ≤ 1073741823) →
    ∀ y1513 : Int, y1513 = ((shrZ .u32 (IntKind.wrap .u32 y1510) 2) + ((bxor .i32 y1512 y1511) - y1511)) → (-2147483648 ≤ y1513 ∧ y1513 ≤ 3221225470) →
    ∀ y1514 : Int, y1514 = (shrZ .i32 (shrZ .u32 (IntKind.wrap .u32 y1510) 2) 0) → (0 ≤ y1514 ∧ y1514 ≤ 1073741823) →
    ∀ y1515 : Int, y1515 = ((shrZ .u32 (IntKind.wrap .u32 y1509) 2) - ((bxor .i32 y1514 y1511) - y1511)) → (-2147483647 ≤ y1515 ∧ y1515 ≤ 3221225471) →
    ∀ y1516 : Int, y1516 = (IntKind.wrap .i32 ((bxor .i32 (shrZ .i32 (IntKind.wrap .i32 y1515) 1) (shrZ .i32 (IntKind.wrap .i32 y1515) 31)) - (shrZ .i32 (IntKind.wrap .i32 y1515) 31))) → (-2147483648 ≤ y1516 ∧ y1516 ≤ 2147483647) →
    ∀ y1517 : Int, y1517 = (IntKind.wrap .i32 ((IntKind.wrap .i32 y1513) + y1516)) → (-2147483648 ≤ y1517 ∧ y1517 ≤ 2147483647) →
    ∀ y1518 : Int, y1518 = (IntKind.wrap .i32 ((bxor .i32 (shrZ .i32 (IntKind.wrap .i32 y1513) 1) (shrZ .i32 (IntKind.wrap .i32 y1515) 31)) - (shrZ .i32 (IntKind.wrap .i32 y1515) 31))) → (-2147483648 ≤ y1518 ∧ y1518 ≤ 2147483647) →
    ∀ y1519 : Int, y1519 = (IntKind.wrap .i32 ((IntKind.wrap .i32 y1515) - y1518)) → (-2147483648 ≤ y1519 ∧ y1519 ≤ 2147483647) →
    ∀ y1520 : Int, y1520 = (IntKind.wrap .i32 ((bxor .i32 248918915 (shrZ .i32 (IntKind.wrap .i32 y1515) 31)) - (shrZ .i32 (IntKind.wrap .i32 y1515) 31))) → (-2147483648 ≤ y1520 ∧ y1520 ≤ 2147483647) →
    ∀ y1521 : Int, y1521 = (((bxor .i32 421657428 y1511) - y1511) + y1520) → (-4294967296 ≤ y1521 ∧ y1521 ≤ 4294967294) →
    ∀ y1522 : Int, y1522 = (IntKind.wrap .i32 ((bxor .i32 (shrZ .i32 y1519 2) (shrZ .i32 y1519 31)) - (shrZ .i32 y1519 31))) → (-2147483648 ≤ y1522 ∧ y1522 ≤ 2147483647) →
    ∀ y1523 : Int, y1523 = (IntKind.wrap .i32 ((bxor .i32 (shrZ .i32 y1517 2) (shrZ .i32 y1519 31)) - (shrZ .i32 y1519 31))) → (-2147483648 ≤ y1523 ∧ y1523 ≤ 2147483647) →
    ∀ y1524 : Int, y1524 = (IntKind.wrap .i32 ((bxor .i32 131521918 (shrZ .i32 y1519 31)) - (shrZ .i32 y1519 31))) → (-2147483648 ≤ y1524 ∧ y1524 ≤ 2147483647) →
    ∀ y1525 : Int, y1525 = (IntKind.wrap .i32 ((IntKind.wrap .i32 y1521) + y1524)) → (-2147483648 ≤ y1525 ∧ y1525 ≤ 2147483647) →
    ∀ y1526 : Int, y1526 = (shrZ .i32 (IntKind.wrap .i32 (y1519 - y1523)) 31) → (-1 ≤ y1526 ∧ y1526 ≤ 0) →
    ∀ y1527 : Int, y1527 = (shrZ .i32 (IntKind.wrap .i32 (y1519 - y1523)) 3) → (-268435456 ≤ y1527 ∧ y1527 ≤ 268435455) →
    ∀ y1528 : Int, y1528 = (IntKind.wrap .i32 ((bxor .i32 y1527 y1526) - y1526)) → (-2147483648 ≤ y1528 ∧ y1528 ≤ 2147483647) →
    ∀ y1529 : Int, y1529 = ((IntKind.wrap .i32 (y1517 + y1522)) + y1528) → (-4294967296 ≤ y1529 ∧ y1529 ≤ 4294967294) →
    ∀ y1530 : Int, y1530 = (shrZ .i32 (IntKind.wrap .i32 (y1517 + y1522)) 3) → (-268435456 ≤ y1530 ∧ y1530 ≤ 268435455) →
    ∀ y1531 : Int, y1531 = (IntKind.wrap .i32 ((bxor .i32 y1530 y1526) - y1526)) → (-2147483648 ≤ y1531 ∧ y1531 ≤ 2147483647) →
    ∀ y1532 : Int, y1532 = ((IntKind.wrap .i32 (y1519 - y1523)) - y1531) → (-4294967295 ≤ y1532 ∧ y1532 ≤ 4294967295) →
    ∀ y1533 : Int, y1533 = (IntKind.wrap .i32 ((bxor .i32 66762579 y1526) - y1526)) → (-2147483648 ≤ y1533 ∧ y1533 ≤ 2147483647) →
    ∀ y1534 : Int, y1534 = (IntKind.wrap .i32 ((bxor .i32 (shrZ .i32 (IntKind.wrap .i32 y1532) 4) (shrZ .i32 (IntKind.wrap .i32 y1532) 31)) - (shrZ .i32 (IntKind.wrap .i32 y1532) 31))) → (-2147483648 ≤ y1534 ∧ y1534 ≤ 2147483647) →
    ∀ y1535 : Int, y1535 = (IntKind.wrap .i32 ((IntKind.wrap .i32 y1529) + y1534)) → (-2147483648 ≤ y1535 ∧ y1535 ≤ 2147483647) →
    ∀ y1536 : Int, y1536 = (IntKind.wrap .i32 ((bxor .i32 (shrZ .i32 (IntKind.wrap .i32 y1529) 4) (shrZ .i32 (IntKind.wrap .i32 y1532) 31)) - (shrZ .i32 (IntKind.wrap .i32 y1532) 31))) → (-2147483648 ≤ y1536 ∧ y1536 ≤ 2147483647) →
    ∀ y1537 : Int, y1537 = (IntKind.wrap .i32 ((IntKind.wrap .i32 y1532) - y1536)) → (-2147483648 ≤ y1537 ∧ y1537 ≤ 2147483647) →
    ∀ y1538 : Int, y1538 = (IntKind.wrap .i32 ((bxor .i32 33510843 (shrZ .i32 (IntKind.wrap .i32 y1532) 31)) - (shrZ .i32 (IntKind.wrap .i32 y1532) 31))) → (-2147483648 ≤ y1538 ∧ y1538 ≤ 2147483647) →
    ∀ y1539 : Int, y1539 = ((IntKind.wrap .i32 (y1525 + y1533)) + y1538) → (-4294967296 ≤ y1539 ∧ y1539 ≤ 4294967294) →
    ∀ y1540 : Int, y1540 = (IntKind.wrap .i32 ((bxor .i32 (shrZ .i32 y1537 5) (shrZ .i32 y1537 31)) - (shrZ .i32 y1537 31))) → (-2147483648 ≤ y1540 ∧ y1540 ≤ 2147483647) →
    ∀ y1541 : Int, y1541 = (IntKind.wrap .i32 ((bxor .i32 (shrZ .i32 y1535 5) (shrZ .i32 y1537 31)) - (shrZ .i32 y1537 31))) → (-2147483648 ≤ y1541 ∧ y1541 ≤ 2147483647) →
    ∀ y1542 : Int, y1542 = (IntKind.wrap .i32 ((bxor .i32 16771758 (shrZ .i32 y1537 31)) - (shrZ .i32 y1537 31))) → (-2147483648 ≤ y1542 ∧ y1542 ≤ 2147483647) →
    ∀ y1543 : Int, y1543 = (IntKind.wrap .i32 ((IntKind.wrap .i32 y1539) + y1542)) → (-2147483648 ≤ y1543 ∧ y1543 ≤ 2147483647) →
    ∀ y1544 : Int, y1544 = (shrZ .i32 (IntKind.wrap .i32 (y1537 - y1541)) 31) → (-1 ≤ y1544 ∧ y1544 ≤ 0) →
    ∀ y1545 : Int, y1545 = (shrZ .i32 (IntKind.wrap .i32 (y1537 - y1541)) 6) → (-33554432 ≤ y1545 ∧ y1545 ≤ 33554431) →
    ∀ y1546 : Int, y1546 = (IntKind.wrap .i32 ((bxor .i32 y1545 y1544) - y1544)) → (-2147483648 ≤ y1546 ∧ y1546 ≤ 2147483647) →
    ∀ y1547 : Int, y1547 = ((IntKind.wrap .i32 (y1535 + y1540)) + y1546) → (-4294967296 ≤ y1547 ∧ y1547 ≤ 4294967294) →
    ∀ y1548 : Int, y1548 = (shrZ .i32 (IntKind.wrap .i32 (y1535 + y1540)) 6) → (-33554432 ≤ y1548 ∧ y1548 ≤ 33554431) →
    ∀ y1549 : Int, y1549 = (IntKind.wrap .i32 ((bxor .i32 y1548 y1544) - y1544)) → (-2147483648 ≤ y1549 ∧ y1549 ≤ 2147483647) →
    ∀ y1550 : Int, y1550 = ((IntKind.wrap .i32 (y1537 - y1541)) - y1549) → (-4294967295 ≤ y1550 ∧ y1550 ≤ 4294967295) →
    ∀ y1551 : Int, y1551 = (IntKind.wrap .i32 ((bxor .i32 8387925 y1544) - y1544)) → (-2147483648 ≤ y1551 ∧ y1551 ≤ 2147483647) →
    ∀ y1552 : Int, y1552 = (IntKind.wrap .i32 ((bxor .i32 (shrZ .i32 (IntKind.wrap .i32 y1550) 7) (shrZ .i32 (IntKind.wrap .i32 y1550) 31)) - (shrZ .i32 (IntKind.wrap .i32 y1550) 31))) → (-2147483648 ≤ y1552 ∧ y1552 ≤ 2147483647) →
    ∀ y1553 : Int, y1553 = (IntKind.wrap .i32 ((IntKind.wrap .i32 y1547) + y1552)) → (-2147483648 ≤ y1553 ∧ y1553 ≤ 2147483647) →
    ∀ y1554 : Int, y1554 = (IntKind.wrap .i32 ((bxor .i32 (shrZ .i32 (IntKind.wrap .i32 y1547) 7) (shrZ .i32 (IntKind.wrap .i32 y1550) 31)) - (shrZ .i32 (IntKind.wrap .i32 y1550) 31))) → (-2147483648 ≤ y1554 ∧ y1554 ≤ 2147483647) →
    ∀ y1555 : Int, y1555 = (IntKind.wrap .i32 ((IntKind.wrap .i32 y1550) - y1554)) → (-2147483648 ≤ y1555 ∧ y1555 ≤ 2147483647) →
    ∀ y1556 : Int, y1556 = (IntKind.wrap .i32 ((bxor .i32 4194219 (shrZ .i32 (IntKind.wrap .i32 y1550) 31)) - (shrZ .i32 (IntKind.wrap .i32 y1550) 31))) → (-2147483648 ≤ y1556 ∧ y1556 ≤ 2147483647) →
    ∀ y1557 : Int, y1557 = ((IntKind.wrap .i32 (y1543 + y1551)) + y1556) → (-4294967296 ≤ y1557 ∧ y1557 ≤ 4294967294) →
    ∀ y1558 : Int, y1558 = (IntKind.wrap .i32 ((bxor .i32 (shrZ .i32 y1555 8) (shrZ .i32 y1555 31)) - (shrZ .i32 y1555 31))) → (-2147483648 ≤ y1558 ∧ y1558 ≤ 2147483647) →
    ∀ y1559 : Int, y1559 = (IntKind.wrap .i32 ((bxor .i32 (shrZ .i32 y1553 8) (shrZ .i32 y1555 31)) - (shrZ .i32 y1555 31))) → (-2147483648 ≤ y1559 ∧ y1559 ≤ 2147483647) →
    ∀ y1560 : Int, y1560 = (IntKind.wrap .i32 ((bxor .i32 2097141 (shrZ .i32 y1555 31)) - (shrZ .i32 y1555 31))) → (-2147483648 ≤ y1560 ∧ y1560 ≤ 2147483647) →
    ∀ y1561 : Int, y1561 = (IntKind.wrap .i32 ((IntKind.wrap .i32 y1557) + y1560)) → (-2147483648 ≤ y1561 ∧ y1561 ≤ 2147483647) →
    ∀ y1562 : Int, y1562 = (shrZ .i32 (IntKind.wrap .i32 (y1555 - y1559)) 31) → (-1 ≤ y1562 ∧ y1562 ≤ 0) →
    ∀ y1563 : Int, y1563 = (shrZ .i32 (IntKind.wrap .i32 (y1555 - y1559)) 9) → (-4194304 ≤ y1563 ∧ y1563 ≤ 4194303) →
    ∀ y1564 : Int, y1564 = (IntKind.wrap .i32 ((bxor .i32 y1563 y1562) - y1562)) → (-2147483648 ≤ y1564 ∧ y1564 ≤ 2147483647) →
    ∀ y1565 : Int, y1565 = ((IntKind.wrap .i32 (y1553 + y1558)) + y1564) → (-4294967296 ≤ y1565 ∧ y1565 ≤ 4294967294) →
    ∀ y1566 : Int, y1566 = (shrZ .i32 (IntKind.wrap .i32 (y1553 + y1558)) 9) → (-4194304 ≤ y1566 ∧ y1566 ≤ 4194303) →
    ∀ y1567 : Int, y1567 = (IntKind.wrap .i32 ((bxor .i32 y1566 y1562) - y1562)) → (-2147483648 ≤ y1567 ∧ y1567 ≤ 2147483647) →
    ∀ y1568 : Int, y1568 = ((IntKind.wrap .i32 (y1555 - y1559)) - y1567) → (-4294967295 ≤ y1568 ∧ y1568 ≤ 4294967295) →
    ∀ y1569 : Int, y1569 = (IntKind.wrap .i32 ((bxor .i32 1048575 y1562) - y1562)) → (-2147483648 ≤ y1569 ∧ y1569 ≤ 2147483647) →
    ∀ y1570 : Int, y1570 = (IntKind.wrap .i32 ((bxor .i32 (shrZ .i32 (IntKind.wrap .i32 y1568) 10) (shrZ .i32 (IntKind.wrap .i32 y1568) 31)) - (shrZ .i32 (IntKind.wrap .i32 y1568) 31))) → (-2147483648 ≤ y1570 ∧ y1570 ≤ 2147483647) →
    ∀ y1571 : Int, y1571 = (IntKind.wrap .i32 ((IntKind.wrap .i32 y1565) + y1570)) → (-2147483648 ≤ y1571 ∧ y1571 ≤ 2147483647) →
    ∀ y1572 : Int, y1572 = (IntKind.wrap .i32 ((bxor .i32 (shrZ .i32 (IntKind.wrap .i32 y1565) 10) (shrZ .i32 (IntKind.wrap .i32 y1568) 31)) - (shrZ .i32 (IntKind.wrap .i32 y1568) 31))) → (-2147483648 ≤ y1572 ∧ y1572 ≤ 2147483647) →
    ∀ y1573 : Int, y1573 = (IntKind.wrap .i32 ((IntKind.wrap .i32 y1568) - y1572)) → (-2147483648 ≤ y1573 ∧ y1573 ≤ 2147483647) →
    ∀ y1574 : Int, y1574 = (IntKind.wrap .i32 ((bxor .i32 524288 (shrZ .i32 (IntKind.wrap .i32 y1568) 31)) - (shrZ .i32 (IntKind.wrap .i32 y1568) 31))) → (-2147483648 ≤ y1574 ∧ y1574 ≤ 2147483647) →
    ∀ y1575 : Int, y1575 = ((IntKind.wrap .i32 (y1561 + y1569)) + y1574) → (-4294967296 ≤ y1575 ∧ y1575 ≤ 4294967294) →
    ∀ y1576 : Int, y1576 = (IntKind.wrap .i32 ((bxor .i32 (shrZ .i32 y1573 11) (shrZ .i32 y1573 31)) - (shrZ .i32 y1573 31))) → (-2147483648 ≤ y1576 ∧ y1576 ≤ 2147483647) →
    ∀ y1577 : Int, y1577 = (IntKind.wrap .i32 ((bxor .i32 (shrZ .i32 y1571 11) (shrZ .i32 y1573 31)) - (shrZ .i32 y1573 31))) → (-2147483648 ≤ y1577 ∧ y1577 ≤ 2147483647) →
    ∀ y1578 : Int, y1578 = (IntKind.wrap .i32 ((bxor .i32 262144 (shrZ .i32 y1573 31)) - (shrZ .i32 y1573 31))) → (-2147483648 ≤ y1578 ∧ y1578 ≤ 2147483647) →
    ∀ y1579 : Int, y1579 = (IntKind.wrap .i32 ((IntKind.wrap .i32 y1575) + y1578)) → (-2147483648 ≤ y1579 ∧ y1579 ≤ 2147483647) →
    ∀ y1580 : Int, y1580 = (shrZ .i32 (IntKind.wrap .i32 (y1573 - y1577)) 31) → (-1 ≤ y1580 ∧ y1580 ≤ 0) →
    ∀ y1581 : Int, y1581 = (shrZ .i32 (IntKind.wrap .i32 (y1573 - y1577)) 12) → (-524288 ≤ y1581 ∧ y1581 ≤ 524287) →
    ∀ y1582 : Int, y1582 = (IntKind.wrap .i32 ((bxor .i32 y1581 y1580) - y1580)) → (-2147483648 ≤ y1582 ∧ y1582 ≤ 2147483647) →
    ∀ y1583 : Int, y1583 = ((IntKind.wrap .i32 (y1571 + y1576)) + y1582) → (-4294967296 ≤ y1583 ∧ y1583 ≤ 4294967294) →
    ∀ y1584 : Int, y1584 = (shrZ .i32 (IntKind.wrap .i32 (y1571 + y1576)) 12) → (-524288 ≤ y1584 ∧ y1584 ≤ 524287) →
    ∀ y1585 : Int, y1585 = (IntKind.wrap .i32 ((bxor .i32 y1584 y1580) - y1580)) → (-2147483648 ≤ y1585 ∧ y1585 ≤ 2147483647) →
    ∀ y1586 : Int, y1586 = ((IntKind.wrap .i32 (y1573 - y1577)) - y1585) → (-4294967295 ≤ y1586 ∧ y1586 ≤ 4294967295) →
    ∀ y1587 : Int, y1587 = (IntKind.wrap .i32 ((bxor .i32 131072 y1580) - y1580)) → (-2147483648 ≤ y1587 ∧ y1587 ≤ 2147483647) →
    ∀ y1588 : Int, y1588 = (IntKind.wrap .i32 ((bxor .i32 (shrZ .i32 (IntKind.wrap .i32 y1586) 13) (shrZ .i32 (IntKind.wrap .i32 y1586) 31)) - (shrZ .i32 (IntKind.wrap .i32 y1586) 31))) → (-2147483648 ≤ y1588 ∧ y1588 ≤ 2147483647) →
    ∀ y1589 : Int, y1589 = (IntKind.wrap .i32 ((IntKind.wrap .i32 y1583) + y1588)) → (-2147483648 ≤ y1589 ∧ y1589 ≤ 2147483647) →
    ∀ y1590 : Int, y1590 = (IntKind.wrap .i32 ((bxor .i32 (shrZ .i32 (IntKind.wrap .i32 y1583) 13) (shrZ .i32 (IntKind.wrap .i32 y1586) 31)) - (shrZ .i32 (IntKind.wrap .i32 y1586) 31))) → (-2147483648 ≤ y1590 ∧ y1590 ≤ 2147483647) →
    ∀ y1591 : Int, y1591 = (IntKind.wrap .i32 ((IntKind.wrap .i32 y1586) - y1590)) → (-2147483648 ≤ y1591 ∧ y1591 ≤ 2147483647) →
    ∀ y1592 : Int, y1592 = (IntKind.wrap .i32 ((bxor .i32 65536 (shrZ .i32 (IntKind.wrap .i32 y1586) 31)) - (shrZ .i32 (IntKind.wrap .i32 y1586) 31))) → (-2147483648 ≤ y1592 ∧ y1592 ≤ 2147483647) →
    ∀ y1593 : Int, y1593 = ((IntKind.wrap .i32 (y1579 + y1587)) + y1592) → (-4294967296 ≤ y1593 ∧ y1593 ≤ 4294967294) →
    ∀ y1594 : Int, y1594 = (IntKind.wrap .i32 ((bxor .i32 (shrZ .i32 y1591 14) (shrZ .i32 y1591 31)) - (shrZ .i32 y1591 31))) → (-2147483648 ≤ y1594 ∧ y1594 ≤ 2147483647) →
    ∀ y1595 : Int, y1595 = (IntKind.wrap .i32 ((bxor .i32 (shrZ .i32 y1589 14) (shrZ .i32 y1591 31)) - (shrZ .i32 y1591 31))) → (-2147483648 ≤ y1595 ∧ y1595 ≤ 2147483647) →
    ∀ y1596 : Int, y1596 = (IntKind.wrap .i32 ((bxor .i32 32768 (shrZ .i32 y1591 31)) - (shrZ .i32 y1591 31))) → (-2147483648 ≤ y1596 ∧ y1596 ≤ 2147483647) →
    ∀ y1597 : Int, y1597 = (IntKind.wrap .i32 ((IntKind.wrap .i32 y1593) + y1596)) → (-2147483648 ≤ y1597 ∧ y1597 ≤ 2147483647) →
    ∀ y1598 : Int, y1598 = (shrZ .i32 (IntKind.wrap .i32 (y1591 - y1595)) 31) → (-1 ≤ y1598 ∧ y1598 ≤ 0) →
    ∀ y1599 : Int, y1599 = (shrZ .i32 (IntKind.wrap .i32 (y1591 - y1595)) 15) → (-65536 ≤ y1599 ∧ y1599 ≤ 65535) →
    ∀ y1600 : Int, y1600 = (IntKind.wrap .i32 ((bxor .i32 y1599 y1598) - y1598)) → (-2147483648 ≤ y1600 ∧ y1600 ≤ 2147483647) →
    ∀ y1601 : Int, y1601 = ((IntKind.wrap .i32 (y1589 + y1594)) + y1600) → (-4294967296 ≤ y1601 ∧ y1601 ≤ 4294967294) →
    ∀ y1602 : Int, y1602 = (shrZ .i32 (IntKind.wrap .i32 (y1589 + y1594)) 15) → (-65536 ≤ y1602 ∧ y1602 ≤ 65535) →
    ∀ y1603 : Int, y1603 = (IntKind.wrap .i32 ((bxor .i32 y1602 y1598) - y1598)) → (-2147483648 ≤ y1603 ∧ y1603 ≤ 2147483647) →
    ∀ y1604 : Int, y1604 = ((IntKind.wrap .i32 (y1591 - y1595)) - y1603) → (-4294967295 ≤ y1604 ∧ y1604 ≤ 4294967295) →
    ∀ y1605 : Int, y1605 = (IntKind.wrap .i32 ((bxor .i32 16384 y1598) - y1598)) → (-2147483648 ≤ y1605 ∧ y1605 ≤ 2147483647) →
    ∀ y1606 : Int, y1606 = (IntKind.wrap .i32 ((bxor .i32 (shrZ .i32 (IntKind.wrap .i32 y1604) 16) (shrZ .i32 (IntKind.wrap .i32 y1604) 31)) - (shrZ .i32 (IntKind.wrap .i32 y1604) 31))) → (-2147483648 ≤ y1606 ∧ y1606 ≤ 2147483647) →
    ∀ y1607 : Int, y1607 = (IntKind.wrap .i32 ((IntKind.wrap .i32 y1601) + y1606)) → (-2147483648 ≤ y1607 ∧ y1607 ≤ 2147483647) →
    ∀ y1608 : Int, y1608 = (IntKind.wrap .i32 ((bxor .i32 (shrZ .i32 (IntKind.wrap .i32 y1601) 16) (shrZ .i32 (IntKind.wrap .i32 y1604) 31)) - (shrZ .i32 (IntKind.wrap .i32 y1604) 31))) → (-2147483648 ≤ y1608 ∧ y1608 ≤ 2147483647) →
    ∀ y1609 : Int, y1609 = (IntKind.wrap .i32 ((IntKind.wrap .i32 y1604) - y1608)) → (-2147483648 ≤ y1609 ∧ y1609 ≤ 2147483647) →
    ∀ y1610 : Int, y1610 = (IntKind.wrap .i32 ((bxor .i32 8192 (shrZ .i32 (IntKind.wrap .i32 y1604) 31)) - (shrZ .i32 (IntKind.wrap .i32 y1604) 31))) → (-2147483648 ≤ y1610 ∧ y1610 ≤ 2147483647) →
    ∀ y1611 : Int, y1611 = ((IntKind.wrap .i32 (y1597 + y1605)) + y1610) → (-4294967296 ≤ y1611 ∧ y1611 ≤ 4294967294) →
    ∀ y1612 : Int, y1612 = (IntKind.wrap .i32 ((bxor .i32 (shrZ .i32 y1609 17) (shrZ .i32 y1609 31)) - (shrZ .i32 y1609 31))) → (-2147483648 ≤ y1612 ∧ y1612 ≤ 2147483647) →
    ∀ y1613 : Int, y1613 = (IntKind.wrap .i32 ((bxor .i32 (shrZ .i32 y1607 17) (shrZ .i32 y1609 31)) - (shrZ .i32 y1609 31))) → (-2147483648 ≤ y1613 ∧ y1613 ≤ 2147483647) →
    ∀ y1614 : Int, y1614 = (IntKind.wrap .i32 ((bxor .i32 4096 (shrZ .i32 y1609 31)) - (shrZ .i32 y1609 31))) → (-2147483648 ≤ y1614 ∧ y1614 ≤ 2147483647) →
    ∀ y1615 : Int, y1615 = (IntKind.wrap .i32 ((IntKind.wrap .i32 y1611) + y1614)) → (-2147483648 ≤ y1615 ∧ y1615 ≤ 2147483647) →
    ∀ y1616 : Int, y1616 = (shrZ .i32 (IntKind.wrap .i32 (y1609 - y1613)) 31) → (-1 ≤ y1616 ∧ y1616 ≤ 0) →
    ∀ y1617 : Int, y1617 = (shrZ .i32 (IntKind.wrap .i32 (y1609 - y1613)) 18) → (-8192 ≤ y1617 ∧ y1617 ≤ 8191) →
    ∀ y1618 : Int, y1618 = (IntKind.wrap .i32 ((bxor .i32 y1617 y1616) - y1616)) → (-2147483648 ≤ y1618 ∧ y1618 ≤ 2147483647) →
    ∀ y1619 : Int, y1619 = ((IntKind.wrap .i32 (y1607 + y1612)) + y1618) → (-4294967296 ≤ y1619 ∧ y1619 ≤ 4294967294) →
    ∀ y1620 : Int, y1620 = (shrZ .i32 (IntKind.wrap .i32 (y1607 + y1612)) 18) → (-8192 ≤ y1620 ∧ y1620 ≤ 8191) →
    ∀ y1621 : Int, y1621 = (IntKind.wrap .i32 ((bxor .i32 y1620 y1616) - y1616)) → (-2147483648 ≤ y1621 ∧ y1621 ≤ 2147483647) →
    ∀ y1622 : Int, y1622 = ((IntKind.wrap .i32 (y1609 - y1613)) - y1621) → (-4294967295 ≤ y1622 ∧ y1622 ≤ 4294967295) →
    ∀ y1623 : Int, y1623 = (IntKind.wrap .i32 ((bxor .i32 2048 y1616) - y1616)) → (-2147483648 ≤ y1623 ∧ y1623 ≤ 2147483647) →
    ∀ y1624 : Int, y1624 = (IntKind.wrap .i32 ((bxor .i32 (shrZ .i32 (IntKind.wrap .i32 y1622) 19) (shrZ .i32 (IntKind.wrap .i32 y1622) 31)) - (shrZ .i32 (IntKind.wrap .i32 y1622) 31))) → (-2147483648 ≤ y1624 ∧ y1624 ≤ 2147483647) →
    ∀ y1625 : Int, y1625 = (IntKind.wrap .i32 ((IntKind.wrap .i32 y1619) + y1624)) → (-2147483648 ≤ y1625 ∧ y1625 ≤ 2147483647) →
    ∀ y1626 : Int, y1626 = (IntKind.wrap .i32 ((bxor .i32 (shrZ .i32 (IntKind.wrap .i32 y1619) 19) (shrZ .i32 (IntKind.wrap .i32 y1622) 31)) - (shrZ .i32 (IntKind.wrap .i32 y1622) 31))) → (-2147483648 ≤ y1626 ∧ y1626 ≤ 2147483647) →
    ∀ y1627 : Int, y1627 = (IntKind.wrap .i32 ((IntKind.wrap .i32 y1622) - y1626)) → (-2147483648 ≤ y1627 ∧ y1627 ≤ 2147483647) →
    ∀ y1628 : Int, y1628 = (IntKind.wrap .i32 ((bxor .i32 1024 (shrZ .i32 (IntKind.wrap .i32 y1622) 31)) - (shrZ .i32 (IntKind.wrap .i32 y1622) 31))) → (-2147483648 ≤ y1628 ∧ y1628 ≤ 2147483647) →
    ∀ y1629 : Int, y1629 = ((IntKind.wrap .i32 (y1615 + y1623)) + y1628) → (-4294967296 ≤ y1629 ∧ y1629 ≤ 4294967294) →
    ∀ y1630 : Int, y1630 = (IntKind.wrap .i32 ((bxor .i32 (shrZ .i32 y1627 20) (shrZ .i32 y1627 31)) - (shrZ .i32 y1627 31))) → (-2147483648 ≤ y1630 ∧ y1630 ≤ 2147483647) →
    ∀ y1631 : Int, y1631 = (IntKind.wrap .i32 ((bxor .i32 (shrZ .i32 y1625 20) (shrZ .i32 y1627 31)) - (shrZ .i32 y1627 31))) → (-2147483648 ≤ y1631 ∧ y1631 ≤ 2147483647) →
    ∀ y1632 : Int, y1632 = (IntKind.wrap .i32 ((bxor .i32 512 (shrZ .i32 y1627 31)) - (shrZ .i32 y1627 31))) → (-2147483648 ≤ y1632 ∧ y1632 ≤ 2147483647) →
    ∀ y1633 : Int, y1633 = (IntKind.wrap .i32 ((IntKind.wrap .i32 y1629) + y1632)) → (-2147483648 ≤ y1633 ∧ y1633 ≤ 2147483647) →
    ∀ y1634 : Int, y1634 = (shrZ .i32 (IntKind.wrap .i32 (y1627 - y1631)) 31) → (-1 ≤ y1634 ∧ y1634 ≤ 0) →
    ∀ y1635 : Int, y1635 = (shrZ .i32 (IntKind.wrap .i32 (y1627 - y1631)) 21) → (-1024 ≤ y1635 ∧ y1635 ≤ 1023) →
    ∀ y1636 : Int, y1636 = (IntKind.wrap .i32 ((bxor .i32 y1635 y1634) - y1634)) → (-2147483648 ≤ y1636 ∧ y1636 ≤ 2147483647) →
    ∀ y1637 : Int, y1637 = ((IntKind.wrap .i32 (y1625 + y1630)) + y1636) → (-4294967296 ≤ y1637 ∧ y1637 ≤ 4294967294) →
    ∀ y1638 : Int, y1638 = (shrZ .i32 (IntKind.wrap .i32 (y1625 + y1630)) 21) → (-1024 ≤ y1638 ∧ y1638 ≤ 1023) →
    ∀ y1639 : Int, y1639 = (IntKind.wrap .i32 ((bxor .i32 y1638 y1634) - y1634)) → (-2147483648 ≤ y1639 ∧ y1639 ≤ 2147483647) →
    ∀ y1640 : Int, y1640 = ((IntKind.wrap .i32 (y1627 - y1631)) - y1639) → (-4294967295 ≤ y1640 ∧ y1640 ≤ 4294967295) →
    ∀ y1641 : Int, y1641 = (IntKind.wrap .i32 ((bxor .i32 256 y1634) - y1634)) → (-2147483648 ≤ y1641 ∧ y1641 ≤ 2147483647) →
    ∀ y1642 : Int, y1642 = (IntKind.wrap .i32 ((bxor .i32 (shrZ .i32 (IntKind.wrap .i32 y1640) 22) (shrZ .i32 (IntKind.wrap .i32 y1640) 31)) - (shrZ .i32 (IntKind.wrap .i32 y1640) 31))) → (-2147483648 ≤ y1642 ∧ y1642 ≤ 2147483647) →
    ∀ y1643 : Int, y1643 = (IntKind.wrap .i32 ((IntKind.wrap .i32 y1637) + y1642)) → (-2147483648 ≤ y1643 ∧ y1643 ≤ 2147483647) →
    ∀ y1644 : Int, y1644 = (IntKind.wrap .i32 ((bxor .i32 (shrZ .i32 (IntKind.wrap .i32 y1637) 22) (shrZ .i32 (IntKind.wrap .i32 y1640) 31)) - (shrZ .i32 (IntKind.wrap .i32 y1640) 31))) → (-2147483648 ≤ y1644 ∧ y1644 ≤ 2147483647) →
    ∀ y1645 : Int, y1645 = (IntKind.wrap .i32 ((IntKind.wrap .i32 y1640) - y1644)) → (-2147483648 ≤ y1645 ∧ y1645 ≤ 2147483647) →
    ∀ y1646 : Int, y1646 = (IntKind.wrap .i32 ((bxor .i32 128 (shrZ .i32 (IntKind.wrap .i32 y1640) 31)) - (shrZ .i32 (IntKind.wrap .i32 y1640) 31))) → (-2147483648 ≤ y1646 ∧ y1646 ≤ 2147483647) →
    ∀ y1647 : Int, y1647 = ((IntKind.wrap .i32 (y1633 + y1641)) + y1646) → (-4294967296 ≤ y1647 ∧ y1647 ≤ 4294967294) →
    ∀ y1648 : Int, y1648 = (IntKind.wrap .i32 ((bxor .i32 (shrZ .i32 y1645 23) (shrZ .i32 y1645 31)) - (shrZ .i32 y1645 31))) → (-2147483648 ≤ y1648 ∧ y1648 ≤ 2147483647) →
    ∀ y1649 : Int, y1649 = (IntKind.wrap .i32 ((bxor .i32 (shrZ .i32 y1643 23) (shrZ .i32 y1645 31)) - (shrZ .i32 y1645 31))) → (-2147483648 ≤ y1649 ∧ y1649 ≤ 2147483647) →
    ∀ y1650 : Int, y1650 = (IntKind.wrap .i32 ((bxor .i32 64 (shrZ .i32 y1645 31)) - (shrZ .i32 y1645 31))) → (-2147483648 ≤ y1650 ∧ y1650 ≤ 2147483647) →
    ∀ y1651 : Int, y1651 = (IntKind.wrap .i32 ((IntKind.wrap .i32 y1647) + y1650)) → (-2147483648 ≤ y1651 ∧ y1651 ≤ 2147483647) →
    ∀ y1652 : Int, y1652 = (shrZ .i32 (IntKind.wrap .i32 (y1645 - y1649)) 31) → (-1 ≤ y1652 ∧ y1652 ≤ 0) →
    ∀ y1653 : Int, y1653 = (shrZ .i32 (IntKind.wrap .i32 (y1645 - y1649)) 24) → (-128 ≤ y1653 ∧ y1653 ≤ 127) →
    ∀ y1654 : Int, y1654 = (IntKind.wrap .i32 ((bxor .i32 y1653 y1652) - y1652)) → (-2147483648 ≤ y1654 ∧ y1654 ≤ 2147483647) →
    ∀ y1655 : Int, y1655 = ((IntKind.wrap .i32 (y1643 + y1648)) + y1654) → (-4294967296 ≤ y1655 ∧ y1655 ≤ 4294967294) →
    ∀ y1656 : Int, y1656 = (shrZ .i32 (IntKind.wrap .i32 (y1643 + y1648)) 24) → (-128 ≤ y1656 ∧ y1656 ≤ 127) →
    ∀ y1657 : Int, y1657 = (IntKind.wrap .i32 ((bxor .i32 y1656 y1652) - y1652)) → (-2147483648 ≤ y1657 ∧ y1657 ≤ 2147483647) →
    ∀ y1658 : Int, y1658 = ((IntKind.wrap .i32 (y1645 - y1649)) - y1657) → (-4294967295 ≤ y1658 ∧ y1658 ≤ 4294967295) →
    ∀ y1659 : Int, y1659 = (IntKind.wrap .i32 ((bxor .i32 32 y1652) - y1652)) → (-2147483648 ≤ y1659 ∧ y1659 ≤ 2147483647) →
    ∀ y1660 : Int, y1660 = (IntKind.wrap .i32 ((bxor .i32 (shrZ .i32 (IntKind.wrap .i32 y1658) 25) (shrZ .i32 (IntKind.wrap .i32 y1658) 31)) - (shrZ .i32 (IntKind.wrap .i32 y1658) 31))) → (-2147483648 ≤ y1660 ∧ y1660 ≤ 2147483647) →
    ∀ y1661 : Int, y1661 = (IntKind.wrap .i32 ((IntKind.wrap .i32 y1655) + y1660)) → (-2147483648 ≤ y1661 ∧ y1661 ≤ 2147483647) →
    ∀ y1662 : Int, y1662 = (IntKind.wrap .i32 ((bxor .i32 (shrZ .i32 (IntKind.wrap .i32 y1655) 25) (shrZ .i32 (IntKind.wrap .i32 y1658) 31)) - (shrZ .i32 (IntKind.wrap .i32 y1658) 31))) → (-2147483648 ≤ y1662 ∧ y1662 ≤ 2147483647) →
    ∀ y1663 : Int, y1663 = (IntKind.wrap .i32 ((IntKind.wrap .i32 y1658) - y1662)) → (-2147483648 ≤ y1663 ∧ y1663 ≤ 2147483647) →
    ∀ y1664 : Int, y1664 = (IntKind.wrap .i32 ((bxor .i32 16 (shrZ .i32 (IntKind.wrap .i32 y1658) 31)) - (shrZ .i32 (IntKind.wrap .i32 y1658) 31))) → (-2147483648 ≤ y1664 ∧ y1664 ≤ 2147483647) →
    ∀ y1665 : Int, y1665 = ((IntKind.wrap .i32 (y1651 + y1659)) + y1664) → (-4294967296 ≤ y1665 ∧ y1665 ≤ 4294967294) →
    ∀ y1666 : Int, y1666 = (IntKind.wrap .i32 ((bxor .i32 (shrZ .i32 y1663 26) (shrZ .i32 y1663 31)) - (shrZ .i32 y1663 31))) → (-2147483648 ≤ y1666 ∧ y1666 ≤ 2147483647) →
    ∀ y1667 : Int, y1667 = (IntKind.wrap .i32 ((bxor .i32 (shrZ .i32 y1661 26) (shrZ .i32 y1663 31)) - (shrZ .i32 y1663 31))) → (-2147483648 ≤ y1667 ∧ y1667 ≤ 2147483647) →
    ∀ y1668 : Int, y1668 = (IntKind.wrap .i32 ((bxor .i32 8 (shrZ .i32 y1663 31)) - (shrZ .i32 y1663 31))) → (-2147483648 ≤ y1668 ∧ y1668 ≤ 2147483647) →
    ∀ y1669 : Int, y1669 = (IntKind.wrap .i32 ((IntKind.wrap .i32 y1665) + y1668)) → (-2147483648 ≤ y1669 ∧ y1669 ≤ 2147483647) →
    ∀ y1670 : Int, y1670 = (shrZ .i32 (IntKind.wrap .i32 (y1663 - y1667)) 31) → (-1 ≤ y1670 ∧ y1670 ≤ 0) →
    ∀ y1671 : Int, y1671 = (shrZ .i32 (IntKind.wrap .i32 (y1663 - y1667)) 27) → (-16 ≤ y1671 ∧ y1671 ≤ 15) →
    ∀ y1672 : Int, y1672 = (IntKind.wrap .i32 ((bxor .i32 y1671 y1670) - y1670)) → (-2147483648 ≤ y1672 ∧ y1672 ≤ 2147483647) →
    ∀ y1673 : Int, y1673 = ((IntKind.wrap .i32 (y1661 + y1666)) + y1672) → (-4294967296 ≤ y1673 ∧ y1673 ≤ 4294967294) →
    ∀ y1674 : Int, y1674 = (shrZ .i32 (IntKind.wrap .i32 (y1661 + y1666)) 27) → (-16 ≤ y1674 ∧ y1674 ≤ 15) →
    ∀ y1675 : Int, y1675 = (IntKind.wrap .i32 ((bxor .i32 y1674 y1670) - y1670)) → (-2147483648 ≤ y1675 ∧ y1675 ≤ 2147483647) →
    ∀ y1676 : Int, y1676 = ((IntKind.wrap .i32 (y1663 - y1667)) - y1675) → (-4294967295 ≤ y1676 ∧ y1676 ≤ 4294967295) →
    ∀ y1677 : Int, y1677 = (IntKind.wrap .i32 ((bxor .i32 4 y1670) - y1670)) → (-2147483648 ≤ y1677 ∧ y1677 ≤ 2147483647) →
    (((bool01 (decide (y1506 < y1507))) ≠ 0 →
     ∀ y1679 : Int, y1679 = (843314857 - (IntKind.wrap .i32 (y1669 + y1677))) → (-1304168790 ≤ y1679 ∧ y1679 ≤ 2990798505) →
     (((bool01 (decide (a1 < 0))) ≠ 0 →
      ∀ y1681 : Int, y1681 = (IntKind.wrap .i32 (1686629713 - (IntKind.wrap .i32 y1679))) → (-2147483648 ≤ y1681 ∧ y1681 ≤ 2147483647) →
      (((bool01 (decide (a0 < 0))) ≠ 0 →
       (((bool01 (y1505 == (IntKind.wrap .i32 (0 - y1681)))) ≠ 0 →
        (1 : Int) ≠ 0) ∧ ((bool01 (y1505 == (IntKind.wrap .i32 (0 - y1681)))) = 0 →
        (0 : Int) ≠ 0))) ∧ ((bool01 (decide (a0 < 0))) = 0 →
       (((bool01 (y1505 == y1681)) ≠ 0 →
        (1 : Int) ≠ 0) ∧ ((bool01 (y1505 == y1681)) = 0 →
        (0 : Int) ≠ 0))))) ∧ ((bool01 (decide (a1 < 0))) = 0 →
      (((bool01 (decide (a0 < 0))) ≠ 0 →
       ∀ y1682 : Int, y1682 = (IntKind.wrap .i32 (0 - (IntKind.wrap .i32 y1679))) → (-2147483648 ≤ y1682 ∧ y1682 ≤ 2147483647) →
       (((bool01 (y1505 == y1682)) ≠ 0 →
        (1 : Int) ≠ 0) ∧ ((bool01 (y1505 == y1682)) = 0 →
        (0 : Int) ≠ 0))) ∧ ((bool01 (decide (a0 < 0))) = 0 →
       (((bool01 (y1505 == (IntKind.wrap .i32 y1679))) ≠ 0 →
        (1 : Int) ≠ 0) ∧ ((bool01 (y1505 == (IntKind.wrap .i32 y1679))) = 0 →
        (0 : Int) ≠ 0))))))) ∧ ((bool01 (decide (y1506 < y1507))) = 0 →
     (((bool01 (decide (a1 < 0))) ≠ 0 →
      ∀ y1680 : Int, y1680 = (1686629713 - (IntKind.wrap .i32 (y1669 + y1677))) → (-460853934 ≤ y1680 ∧ y1680 ≤ 3834113361) →
      (((bool01 (decide (a0 < 0))) ≠ 0 →
       ∀ y1682 : Int, y1682 = (IntKind.wrap .i32 (0 - (IntKind.wrap .i32 y1680))) → (-2147483648 ≤ y1682 ∧ y1682 ≤ 2147483647) →
       (((bool01 (y1505 == y1682)) ≠ 0 →
        (1 : Int) ≠ 0) ∧ ((bool01 (y1505 == y1682)) = 0 →
        (0 : Int) ≠ 0))) ∧ ((bool01 (decide (a0 < 0))) = 0 →
       (((bool01 (y1505 == (IntKind.wrap .i32 y1680))) ≠ 0 →
        (1 : Int) ≠ 0) ∧ ((bool01 (y1505 == (IntKind.wrap .i32 y1680))) = 0 →
        (0 : Int) ≠ 0))))) ∧ ((bool01 (decide (a1 < 0))) = 0 →
      (((bool01 (decide (a0 < 0))) ≠ 0 →
       ∀ y1681 : Int, y1681 = (0 - (IntKind.wrap .i32 (y1669 + y1677))) → (-2147483647 ≤ y1681 ∧ y1681 ≤ 2147483648) →
       (((bool01 (y1505 == (IntKind.wrap .i32 y1681))) ≠ 0 →
        (1 : Int) ≠ 0) ∧ ((bool01 (y1505 == (IntKind.wrap .i32 y1681))) = 0 →
        (0 : Int) ≠ 0))) ∧ ((bool01 (decide (a0 < 0))) = 0 →
       (((bool01 (y1505 == (IntKind.wrap .i32 (y1669 + y1677)))) ≠ 0 →
        (1 : Int) ≠ 0) ∧ ((bool01 (y1505 == (IntKind.wrap .i32 (y1669 + y1677)))) = 0 →
        (0 : Int) ≠ 0))))))))) ∧ ((bool01 ((IntKind.wrap .i32 (y1158 + y1166)) == y1331)) = 0 →
    (0 : Int) ≠ 0))) ∧ ((bool01 (y1165 == (IntKind.wrap .i32 (y1325 - y1329)))) = 0 →
   (0 : Int) ≠ 0))) ∧ ((bool01 (y1162 == (IntKind.wrap .i32 (y1323 + y1328)))) = 0 →
  (0 : Int) ≠ 0))

noncomputable def cxP : Cx := cxOf 2 [(-2147483648, 2147483647), (-2147483648, 2147483647)]
theorem plain (a0 a1 : Int) : (fun ρ => (trWe0.holdsL cxP (fun la => trWc0.holdsL cxP (fun lb => cmpL (trT0.holdsL cxP (fun la => trWd0.holdsL cxP (fun lb => cmpL ((1 : Int) ≠ 0) la lb) ρ) ρ) la lb) ρ) ρ)) (envOf [a0, a1]) = P a0 a1 := by kernel_rfl
theorem tidy0 : T.tidyV cxP [] trWe0 = true := by kernel_rfl
theorem tidy1 : T.tidyV cxP [] trWc0 = true := by kernel_rfl
theorem tidy2 : T.tidyV cxP [] trT0 = true := by kernel_rfl
theorem tidy3 : T.tidyV cxP [] trWd0 = true := by kernel_rfl

theorem wrap_id {x : Int} (l : -2147483648 ≤ x) (u : x ≤ 2147483647) : IntKind.wrap .i32 x = x := wrap_in .i32 x (by simpa [klo] using l) (by simpa [khi] using u)
theorem wrap_bv (x : Int) : IntKind.wrap .i32 (BitVec.ofInt 32 x).toNat = IntKind.wrap .i32 x := by
  rw [wi32, wi32, BitVec.toNat_ofInt]
  have e : (((x % ((2 ^ 32 : Nat) : Int)).toNat : Nat) : Int) % 4294967296 = x % 4294967296 := by omega
  rw [e]
theorem and_one (x : Int) : band .i32 x (-1) = IntKind.wrap .i32 x := by
  show IntKind.wrap .i32 (BitVec.ofInt 32 x &&& BitVec.ofInt 32 (-1)).toNat = _
  rw [show BitVec.ofInt 32 (-1) = BitVec.allOnes 32 from by decide, BitVec.and_allOnes, wrap_bv]
theorem and_zero (x : Int) : band .i32 x 0 = 0 := by
  show IntKind.wrap .i32 (BitVec.ofInt 32 x &&& BitVec.ofInt 32 0).toNat = _
  rw [show BitVec.ofInt 32 0 = 0#32 from by decide, BitVec.and_zero]; decide
theorem andn_one (x : Int) : bandn .i32 x (-1) = 0 := by
  show IntKind.wrap .i32 (BitVec.ofInt 32 x &&& ~~~(BitVec.ofInt 32 (-1))).toNat = _
  rw [show ~~~(BitVec.ofInt 32 (-1)) = 0#32 from by decide, BitVec.and_zero]; decide
theorem andn_zero (x : Int) : bandn .i32 x 0 = IntKind.wrap .i32 x := by
  show IntKind.wrap .i32 (BitVec.ofInt 32 x &&& ~~~(BitVec.ofInt 32 0)).toNat = _
  rw [show ~~~(BitVec.ofInt 32 0) = BitVec.allOnes 32 from by decide, BitVec.and_allOnes, wrap_bv]
theorem or_zero (x : Int) : bor .i32 x 0 = IntKind.wrap .i32 x := by
  show IntKind.wrap .i32 (BitVec.ofInt 32 x ||| BitVec.ofInt 32 0).toNat = _
  rw [show BitVec.ofInt 32 0 = 0#32 from by decide, BitVec.or_zero, wrap_bv]
theorem zero_or (x : Int) : bor .i32 0 x = IntKind.wrap .i32 x := by
  show IntKind.wrap .i32 (BitVec.ofInt 32 0 ||| BitVec.ofInt 32 x).toNat = _
  rw [show BitVec.ofInt 32 0 = 0#32 from by decide, BitVec.zero_or, wrap_bv]
theorem xor_zero {x : Int} (l : -2147483648 ≤ x) (u : x ≤ 2147483647) : bxor .i32 x 0 = x := by
  show IntKind.wrap .i32 (BitVec.ofInt 32 x ^^^ BitVec.ofInt 32 0).toNat = _
  rw [show BitVec.ofInt 32 0 = 0#32 from by decide, BitVec.xor_zero, wrap_bv, wrap_id l u]
theorem xor_neg1 {x : Int} (l : -2147483648 ≤ x) (u : x ≤ 2147483647) : bxor .i32 x (-1) = -x - 1 := by
  show IntKind.wrap .i32 (BitVec.ofInt 32 x ^^^ BitVec.ofInt 32 (-1)).toNat = _
  rw [show BitVec.ofInt 32 (-1) = BitVec.allOnes 32 from by decide, BitVec.xor_allOnes, BitVec.toNat_not, BitVec.toNat_ofInt, wi32]
  have : (((x % ((2 ^ 32 : Nat) : Int)).toNat : Nat) : Int) = x % 4294967296 := by omega
  omega
theorem sel_one {x : Int} (y : Int) : bor .i32 (band .i32 (IntKind.wrap .i32 y) (-1)) (bandn .i32 x (-1)) = IntKind.wrap .i32 y := by
  rw [and_one, andn_one, or_zero, wrap_wrap .i32 .i32 _ (by decide), wrap_wrap .i32 .i32 _ (by decide)]
theorem sel_zero {x : Int} (y : Int) (l : -2147483648 ≤ x) (u : x ≤ 2147483647) : bor .i32 (band .i32 y 0) (bandn .i32 x 0) = x := by
  rw [and_zero, andn_zero, zero_or, wrap_wrap .i32 .i32 _ (by decide), wrap_id l u]
theorem sign_neg {x : Int} (l : -2147483648 ≤ x) (u : x < 0) : shrZ .i32 x 31 = -1 := by
  have h := sign_ref (x := x) ⟨l, by omega⟩
  rw [show shrZ .i32 x 31 = BO.ev .shr .i32 x 31 from rfl, ← h]; simp [bool01, u]
theorem sign_pos {x : Int} (l : 0 ≤ x) (u : x ≤ 2147483647) : shrZ .i32 x 31 = 0 := by
  have h := sign_ref (x := x) ⟨by omega, u⟩
  rw [show shrZ .i32 x 31 = BO.ev .shr .i32 x 31 from rfl, ← h]; simp [bool01, show ¬ x < 0 by omega]
theorem fl_neg {x : Int} (l : -2147483648 ≤ x) (u : x ≤ 2147483647) : IntKind.wrap .i32 (bxor .i32 x (-1) - (-1)) = IntKind.wrap .i32 (0 - x) := by
  rw [xor_neg1 l u]; congr 1; omega
theorem fl_zero {x : Int} (l : -2147483648 ≤ x) (u : x ≤ 2147483647) : IntKind.wrap .i32 (bxor .i32 x 0 - 0) = x := by
  rw [xor_zero l u, Int.sub_zero]; exact wrap_id l u
theorem both {a b : Int} {X : Prop} (h : a = b) (x : X) : ((bool01 (a == b)) ≠ 0 → X) ∧ ((bool01 (a == b)) = 0 → (0 : Int) ≠ 0) :=
  ⟨fun _ => x, fun h' => by simp [bool01, h] at h'⟩
set_option maxHeartbeats 4000000 in
theorem holds (a0 a1 : Int) (l0 : -2147483648 ≤ a0) (u0 : a0 ≤ 2147483647) (l1 : -2147483648 ≤ a1) (u1 : a1 ≤ 2147483647) : P a0 a1 := by
  unfold P
  intro y1000 e1000 _ y1001 e1001 _ y1002 e1002 _ y1003 e1003 _ y1004 e1004 _ y1005 e1005 _ y1006 e1006 _ y1007 e1007 _ y1008 e1008 _ y1009 e1009 _ y1010 e1010 _ y1011 e1011 _ y1012 e1012 _ y1013 e1013 _ y1014 e1014 _ y1015 e1015 _ y1016 e1016 _ y1017 e1017 _ y1018 e1018 _ y1019 e1019 _ y1020 e1020 _ y1021 e1021 _ y1022 e1022 _ y1023 e1023 _ y1024 e1024 _ y1025 e1025 _ y1026 e1026 _ y1027 e1027 _ y1028 e1028 _ y1029 e1029 _ y1030 e1030 _ y1031 e1031 _ y1032 e1032 _ y1033 e1033 _ y1034 e1034 _ y1035 e1035 _ y1036 e1036 _ y1037 e1037 _ y1038 e1038 _ y1039 e1039 _ y1040 e1040 _ y1041 e1041 _ y1042 e1042 _ y1043 e1043 _ y1044 e1044 _ y1045 e1045 _ y1046 e1046 _ y1047 e1047 _ y1048 e1048 _ y1049 e1049 _ y1050 e1050 _ y1051 e1051 _ y1052 e1052 _ y1053 e1053 _ y1054 e1054 _ y1055 e1055 _ y1056 e1056 _ y1057 e1057 _ y1058 e1058 _ y1059 e1059 _ y1060 e1060 _ y1061 e1061 _ y1062 e1062 _ y1063 e1063 _ y1064 e1064 _ y1065 e1065 _ y1066 e1066 _ y1067 e1067 _ y1068 e1068 _ y1069 e1069 _ y1070 e1070 _ y1071 e1071 _ y1072 e1072 _ y1073 e1073 _ y1074 e1074 _ y1075 e1075 _ y1076 e1076 _ y1077 e1077 _ y1078 e1078 _ y1079 e1079 _ y1080 e1080 _ y1081 e1081 _ y1082 e1082 _ y1083 e1083 _ y1084 e1084 _ y1085 e1085 _ y1086 e1086 _ y1087 e1087 _ y1088 e1088 _ y1089 e1089 _ y1090 e1090 _ y1091 e1091 _ y1092 e1092 _ y1093 e1093 _ y1094 e1094 _ y1095 e1095 _ y1096 e1096 _ y1097 e1097 _ y1098 e1098 _ y1099 e1099 _ y1100 e1100 _ y1101 e1101 _ y1102 e1102 _ y1103 e1103 _ y1104 e1104 _ y1105 e1105 _ y1106 e1106 _ y1107 e1107 _ y1108 e1108 _ y1109 e1109 _ y1110 e1110 _ y1111 e1111 _ y1112 e1112 _ y1113 e1113 _ y1114 e1114 _ y1115 e1115 _ y1116 e1116 _ y1117 e1117 _ y1118 e1118 _ y1119 e1119 _ y1120 e1120 _ y1121 e1121 _ y1122 e1122 _ y1123 e1123 _ y1124 e1124 _ y1125 e1125 _ y1126 e1126 _ y1127 e1127 _ y1128 e1128 _ y1129 e1129 _ y1130 e1130 _ y1131 e1131 _ y1132 e1132 _ y1133 e1133 _ y1134 e1134 _ y1135 e1135 _ y1136 e1136 _ y1137 e1137 _ y1138 e1138 _ y1139 e1139 _ y1140 e1140 _ y1141 e1141 _ y1142 e1142 _ y1143 e1143 _ y1144 e1144 _ y1145 e1145 _ y1146 e1146 _ y1147 e1147 _ y1148 e1148 _ y1149 e1149 _ y1150 e1150 _ y1151 e1151 _ y1152 e1152 _ y1153 e1153 _ y1154 e1154 _ y1155 e1155 _ y1156 e1156 _ y1157 e1157 _ y1158 e1158 _ y1159 e1159 _ y1160 e1160 _ y1161 e1161 _ y1162 e1162 _ y1163 e1163 _ y1164 e1164 _ y1165 e1165 _ y1166 e1166 _ y1167 e1167 _ y1168 e1168 _ y1169 e1169 _ y1170 e1170 _ y1171 e1171 _ y1172 e1172 _ y1173 e1173 _ y1174 e1174 _ y1175 e1175 _ y1176 e1176 _ y1177 e1177 _ y1178 e1178 _ y1179 e1179 _ y1180 e1180 _ y1181 e1181 _ y1182 e1182 _ y1183 e1183 _ y1184 e1184 _ y1185 e1185 _ y1186 e1186 _ y1187 e1187 _ y1188 e1188 _ y1189 e1189 _ y1190 e1190 _ y1191 e1191 _ y1192 e1192 _ y1193 e1193 _ y1194 e1194 _ y1195 e1195 _ y1196 e1196 _ y1197 e1197 _ y1198 e1198 _ y1199 e1199 _ y1200 e1200 _ y1201 e1201 _ y1202 e1202 _ y1203 e1203 _ y1204 e1204 _ y1205 e1205 _ y1206 e1206 _ y1207 e1207 _ y1208 e1208 _ y1209 e1209 _ y1210 e1210 _ y1211 e1211 _ y1212 e1212 _ y1213 e1213 _ y1214 e1214 _ y1215 e1215 _ y1216 e1216 _ y1217 e1217 _ y1218 e1218 _ y1219 e1219 _ y1220 e1220 _ y1221 e1221 _ y1222 e1222 _ y1223 e1223 _ y1224 e1224 _ y1225 e1225 _ y1226 e1226 _ y1227 e1227 _ y1228 e1228 _ y1229 e1229 _ y1230 e1230 _ y1231 e1231 _ y1232 e1232 _ y1233 e1233 _ y1234 e1234 _ y1235 e1235 _ y1236 e1236 _ y1237 e1237 _ y1238 e1238 _ y1239 e1239 _ y1240 e1240 _ y1241 e1241 _ y1242 e1242 _ y1243 e1243 _ y1244 e1244 _ y1245 e1245 _ y1246 e1246 _ y1247 e1247 _ y1248 e1248 _ y1249 e1249 _ y1250 e1250 _ y1251 e1251 _ y1252 e1252 _ y1253 e1253 _ y1254 e1254 _ y1255 e1255 _ y1256 e1256 _ y1257 e1257 _ y1258 e1258 _ y1259 e1259 _ y1260 e1260 _ y1261 e1261 _ y1262 e1262 _ y1263 e1263 _ y1264 e1264 _ y1265 e1265 _ y1266 e1266 _ y1267 e1267 _ y1268 e1268 _ y1269 e1269 _ y1270 e1270 _ y1271 e1271 _ y1272 e1272 _ y1273 e1273 _ y1274 e1274 _ y1275 e1275 _ y1276 e1276 _ y1277 e1277 _ y1278 e1278 _ y1279 e1279 _ y1280 e1280 _ y1281 e1281 _ y1282 e1282 _ y1283 e1283 _ y1284 e1284 _ y1285 e1285 _ y1286 e1286 _ y1287 e1287 _ y1288 e1288 _ y1289 e1289 _ y1290 e1290 _ y1291 e1291 _ y1292 e1292 _ y1293 e1293 _ y1294 e1294 _ y1295 e1295 _ y1296 e1296 _ y1297 e1297 _ y1298 e1298 _ y1299 e1299 _ y1300 e1300 _ y1301 e1301 _ y1302 e1302 _ y1303 e1303 _ y1304 e1304 _ y1305 e1305 _ y1306 e1306 _ y1307 e1307 _ y1308 e1308 _ y1309 e1309 _ y1310 e1310 _ y1311 e1311 _ y1312 e1312 _ y1313 e1313 _ y1314 e1314 _ y1315 e1315 _ y1316 e1316 _ y1317 e1317 _ y1318 e1318 _ y1319 e1319 _ y1320 e1320 _ y1321 e1321 _ y1322 e1322 _ y1323 e1323 _ y1324 e1324 _ y1325 e1325 _ y1326 e1326 _ y1327 e1327 _ y1328 e1328 _ y1329 e1329 _ y1330 e1330 _ y1331 e1331 _
  have q1167 : y1167 = y1000 := by rw [e1167, e1000]
  have q1168 : y1168 = y1001 := by rw [e1168, e1001]
  have q1169 : y1169 = y1002 := by rw [e1169, e1002]
  have q1170 : y1170 = y1003 := by rw [e1170, q1168, e1003]
  have q1171 : y1171 = y1004 := by rw [e1171, q1168, e1004]
  have q1172 : y1172 = y1005 := by rw [e1172, q1171, q1170, e1005]
  have q1173 : y1173 = ((IntKind.wrap .i32 (a1 + y1000)) + y1005) := by rw [e1173, q1167, q1172]
  have q1174 : y1174 = y1007 := by rw [e1174, q1167, e1007]
  have q1175 : y1175 = y1008 := by rw [e1175, q1174, q1170, e1008]
  have q1176 : y1176 = ((IntKind.wrap .i32 (a0 - y1001)) - y1008) := by rw [e1176, q1168, q1175]
  have q1177 : y1177 = y1010 := by rw [e1177, q1170, e1010]
  have q1178 : y1178 = y1011 := by rw [e1178, q1176, e1011, e1009]
  have q1179 : y1179 = (IntKind.wrap .i32 (y1006 + y1011)) := by rw [e1179, q1173, q1178, e1006]
  have q1180 : y1180 = y1012 := by rw [e1180, q1173, q1176, e1012, e1009, e1006]
  have q1181 : y1181 = (IntKind.wrap .i32 (y1009 - y1012)) := by rw [e1181, q1176, q1180, e1009]
  have q1182 : y1182 = y1013 := by rw [e1182, q1176, e1013, e1009]
  have q1183 : y1183 = ((IntKind.wrap .i32 (y1002 + y1010)) + y1013) := by rw [e1183, q1169, q1177, q1182]
  have q1184 : y1184 = y1017 := by rw [e1184, q1181, e1017, e1015, e1016]
  have q1185 : y1185 = y1020 := by rw [e1185, q1179, q1181, e1020, e1015, e1019]
  have q1186 : y1186 = y1022 := by rw [e1186, q1181, e1022, e1015]
  have q1187 : y1187 = (IntKind.wrap .i32 (y1014 + y1022)) := by rw [e1187, q1183, q1186, e1014]
  have q1188 : y1188 = (shrZ .i32 y1021 31) := by rw [e1188, q1181, q1185, e1021]
  have q1189 : y1189 = (shrZ .i32 y1021 4) := by rw [e1189, q1181, q1185, e1021]
  have q1190 : y1190 = y1023 := by rw [e1190, q1189, q1188, e1023]
  have q1191 : y1191 = (y1018 + y1023) := by rw [e1191, q1179, q1184, q1190, e1018]
  have q1192 : y1192 = (shrZ .i32 y1018 4) := by rw [e1192, q1179, q1184, e1018]
  have q1193 : y1193 = y1024 := by rw [e1193, q1192, q1188, e1024]
  have q1194 : y1194 = (y1021 - y1024) := by rw [e1194, q1181, q1185, q1193, e1021]
  have q1195 : y1195 = y1025 := by rw [e1195, q1188, e1025]
  have q1196 : y1196 = y1029 := by rw [e1196, q1194, e1029, e1027, e1028]
  have q1197 : y1197 = y1030 := by rw [e1197, q1191, q1196, e1030]
  have q1198 : y1198 = y1032 := by rw [e1198, q1191, q1194, e1032, e1027, e1031]
  have q1199 : y1199 = y1033 := by rw [e1199, q1194, q1198, e1033]
  have q1200 : y1200 = y1034 := by rw [e1200, q1194, e1034, e1027]
  have q1201 : y1201 = (y1026 + y1034) := by rw [e1201, q1187, q1195, q1200, e1026]
  have q1202 : y1202 = y1035 := by rw [e1202, q1199, e1035]
  have q1203 : y1203 = y1036 := by rw [e1203, q1197, q1199, e1036]
  have q1204 : y1204 = y1037 := by rw [e1204, q1199, e1037]
  have q1205 : y1205 = y1038 := by rw [e1205, q1201, q1204, e1038]
  have q1206 : y1206 = y1039 := by rw [e1206, q1199, q1203, e1039]
  have q1207 : y1207 = y1040 := by rw [e1207, q1199, q1203, e1040]
  have q1208 : y1208 = y1041 := by rw [e1208, q1207, q1206, e1041]
  have q1209 : y1209 = ((IntKind.wrap .i32 (y1030 + y1035)) + y1041) := by rw [e1209, q1197, q1202, q1208]
  have q1210 : y1210 = y1043 := by rw [e1210, q1197, q1202, e1043]
  have q1211 : y1211 = y1044 := by rw [e1211, q1210, q1206, e1044]
  have q1212 : y1212 = ((IntKind.wrap .i32 (y1033 - y1036)) - y1044) := by rw [e1212, q1199, q1203, q1211]
  have q1213 : y1213 = y1046 := by rw [e1213, q1206, e1046]
  have q1214 : y1214 = y1047 := by rw [e1214, q1212, e1047, e1045]
  have q1215 : y1215 = (IntKind.wrap .i32 (y1042 + y1047)) := by rw [e1215, q1209, q1214, e1042]
  have q1216 : y1216 = y1048 := by rw [e1216, q1209, q1212, e1048, e1045, e1042]
  have q1217 : y1217 = (IntKind.wrap .i32 (y1045 - y1048)) := by rw [e1217, q1212, q1216, e1045]
  have q1218 : y1218 = y1049 := by rw [e1218, q1212, e1049, e1045]
  have q1219 : y1219 = ((IntKind.wrap .i32 (y1038 + y1046)) + y1049) := by rw [e1219, q1205, q1213, q1218]
  have q1220 : y1220 = y1053 := by rw [e1220, q1217, e1053, e1051, e1052]
  have q1221 : y1221 = y1056 := by rw [e1221, q1215, q1217, e1056, e1051, e1055]
  have q1222 : y1222 = y1058 := by rw [e1222, q1217, e1058, e1051]
  have q1223 : y1223 = (IntKind.wrap .i32 (y1050 + y1058)) := by rw [e1223, q1219, q1222, e1050]
  have q1224 : y1224 = (shrZ .i32 y1057 31) := by rw [e1224, q1217, q1221, e1057]
  have q1225 : y1225 = (shrZ .i32 y1057 10) := by rw [e1225, q1217, q1221, e1057]
  have q1226 : y1226 = y1059 := by rw [e1226, q1225, q1224, e1059]
  have q1227 : y1227 = (y1054 + y1059) := by rw [e1227, q1215, q1220, q1226, e1054]
  have q1228 : y1228 = (shrZ .i32 y1054 10) := by rw [e1228, q1215, q1220, e1054]
  have q1229 : y1229 = y1060 := by rw [e1229, q1228, q1224, e1060]
  have q1230 : y1230 = (y1057 - y1060) := by rw [e1230, q1217, q1221, q1229, e1057]
  have q1231 : y1231 = y1061 := by rw [e1231, q1224, e1061]
  have q1232 : y1232 = y1065 := by rw [e1232, q1230, e1065, e1063, e1064]
  have q1233 : y1233 = y1066 := by rw [e1233, q1227, q1232, e1066]
  have q1234 : y1234 = y1068 := by rw [e1234, q1227, q1230, e1068, e1063, e1067]
  have q1235 : y1235 = y1069 := by rw [e1235, q1230, q1234, e1069]
  have q1236 : y1236 = y1070 := by rw [e1236, q1230, e1070, e1063]
  have q1237 : y1237 = (y1062 + y1070) := by rw [e1237, q1223, q1231, q1236, e1062]
  have q1238 : y1238 = y1071 := by rw [e1238, q1235, e1071]
  have q1239 : y1239 = y1072 := by rw [e1239, q1233, q1235, e1072]
  have q1240 : y1240 = y1073 := by rw [e1240, q1235, e1073]
  have q1241 : y1241 = y1074 := by rw [e1241, q1237, q1240, e1074]
  have q1242 : y1242 = y1075 := by rw [e1242, q1235, q1239, e1075]
  have q1243 : y1243 = y1076 := by rw [e1243, q1235, q1239, e1076]
  have q1244 : y1244 = y1077 := by rw [e1244, q1243, q1242, e1077]
  have q1245 : y1245 = ((IntKind.wrap .i32 (y1066 + y1071)) + y1077) := by rw [e1245, q1233, q1238, q1244]
  have q1246 : y1246 = y1079 := by rw [e1246, q1233, q1238, e1079]
  have q1247 : y1247 = y1080 := by rw [e1247, q1246, q1242, e1080]
  have q1248 : y1248 = ((IntKind.wrap .i32 (y1069 - y1072)) - y1080) := by rw [e1248, q1235, q1239, q1247]
  have q1249 : y1249 = y1082 := by rw [e1249, q1242, e1082]
  have q1250 : y1250 = y1083 := by rw [e1250, q1248, e1083, e1081]
  have q1251 : y1251 = (IntKind.wrap .i32 (y1078 + y1083)) := by rw [e1251, q1245, q1250, e1078]
  have q1252 : y1252 = y1084 := by rw [e1252, q1245, q1248, e1084, e1081, e1078]
  have q1253 : y1253 = (IntKind.wrap .i32 (y1081 - y1084)) := by rw [e1253, q1248, q1252, e1081]
  have q1254 : y1254 = y1085 := by rw [e1254, q1248, e1085, e1081]
  have q1255 : y1255 = ((IntKind.wrap .i32 (y1074 + y1082)) + y1085) := by rw [e1255, q1241, q1249, q1254]
  have q1256 : y1256 = y1089 := by rw [e1256, q1253, e1089, e1087, e1088]
  have q1257 : y1257 = y1092 := by rw [e1257, q1251, q1253, e1092, e1087, e1091]
  have q1258 : y1258 = y1094 := by rw [e1258, q1253, e1094, e1087]
  have q1259 : y1259 = (IntKind.wrap .i32 (y1086 + y1094)) := by rw [e1259, q1255, q1258, e1086]
  have q1260 : y1260 = (shrZ .i32 y1093 31) := by rw [e1260, q1253, q1257, e1093]
  have q1261 : y1261 = (shrZ .i32 y1093 16) := by rw [e1261, q1253, q1257, e1093]
  have q1262 : y1262 = y1095 := by rw [e1262, q1261, q1260, e1095]
  have q1263 : y1263 = (y1090 + y1095) := by rw [e1263, q1251, q1256, q1262, e1090]
  have q1264 : y1264 = (shrZ .i32 y1090 16) := by rw [e1264, q1251, q1256, e1090]
  have q1265 : y1265 = y1096 := by rw [e1265, q1264, q1260, e1096]
  have q1266 : y1266 = (y1093 - y1096) := by rw [e1266, q1253, q1257, q1265, e1093]
  have q1267 : y1267 = y1097 := by rw [e1267, q1260, e1097]
  have q1268 : y1268 = y1101 := by rw [e1268, q1266, e1101, e1099, e1100]
  have q1269 : y1269 = y1102 := by rw [e1269, q1263, q1268, e1102]
  have q1270 : y1270 = y1104 := by rw [e1270, q1263, q1266, e1104, e1099, e1103]
  have q1271 : y1271 = y1105 := by rw [e1271, q1266, q1270, e1105]
  have q1272 : y1272 = y1106 := by rw [e1272, q1266, e1106, e1099]
  have q1273 : y1273 = (y1098 + y1106) := by rw [e1273, q1259, q1267, q1272, e1098]
  have q1274 : y1274 = y1107 := by rw [e1274, q1271, e1107]
  have q1275 : y1275 = y1108 := by rw [e1275, q1269, q1271, e1108]
  have q1276 : y1276 = y1109 := by rw [e1276, q1271, e1109]
  have q1277 : y1277 = y1110 := by rw [e1277, q1273, q1276, e1110]
  have q1278 : y1278 = y1111 := by rw [e1278, q1271, q1275, e1111]
  have q1279 : y1279 = y1112 := by rw [e1279, q1271, q1275, e1112]
  have q1280 : y1280 = y1113 := by rw [e1280, q1279, q1278, e1113]
  have q1281 : y1281 = ((IntKind.wrap .i32 (y1102 + y1107)) + y1113) := by rw [e1281, q1269, q1274, q1280]
  have q1282 : y1282 = y1115 := by rw [e1282, q1269, q1274, e1115]
  have q1283 : y1283 = y1116 := by rw [e1283, q1282, q1278, e1116]
  have q1284 : y1284 = ((IntKind.wrap .i32 (y1105 - y1108)) - y1116) := by rw [e1284, q1271, q1275, q1283]
  have q1285 : y1285 = y1118 := by rw [e1285, q1278, e1118]
  have q1286 : y1286 = y1119 := by rw [e1286, q1284, e1119, e1117]
  have q1287 : y1287 = (IntKind.wrap .i32 (y1114 + y1119)) := by rw [e1287, q1281, q1286, e1114]
  have q1288 : y1288 = y1120 := by rw [e1288, q1281, q1284, e1120, e1117, e1114]
  have q1289 : y1289 = (IntKind.wrap .i32 (y1117 - y1120)) := by rw [e1289, q1284, q1288, e1117]
  have q1290 : y1290 = y1121 := by rw [e1290, q1284, e1121, e1117]
  have q1291 : y1291 = ((IntKind.wrap .i32 (y1110 + y1118)) + y1121) := by rw [e1291, q1277, q1285, q1290]
  have q1292 : y1292 = y1125 := by rw [e1292, q1289, e1125, e1123, e1124]
  have q1293 : y1293 = y1128 := by rw [e1293, q1287, q1289, e1128, e1123, e1127]
  have q1294 : y1294 = y1130 := by rw [e1294, q1289, e1130, e1123]
  have q1295 : y1295 = (IntKind.wrap .i32 (y1122 + y1130)) := by rw [e1295, q1291, q1294, e1122]
  have q1296 : y1296 = (shrZ .i32 y1129 31) := by rw [e1296, q1289, q1293, e1129]
  have q1297 : y1297 = (shrZ .i32 y1129 22) := by rw [e1297, q1289, q1293, e1129]
  have q1298 : y1298 = y1131 := by rw [e1298, q1297, q1296, e1131]
  have q1299 : y1299 = (y1126 + y1131) := by rw [e1299, q1287, q1292, q1298, e1126]
  have q1300 : y1300 = (shrZ .i32 y1126 22) := by rw [e1300, q1287, q1292, e1126]
  have q1301 : y1301 = y1132 := by rw [e1301, q1300, q1296, e1132]
  have q1302 : y1302 = (y1129 - y1132) := by rw [e1302, q1289, q1293, q1301, e1129]
  have q1303 : y1303 = y1133 := by rw [e1303, q1296, e1133]
  have q1304 : y1304 = y1137 := by rw [e1304, q1302, e1137, e1135, e1136]
  have q1305 : y1305 = y1138 := by rw [e1305, q1299, q1304, e1138]
  have q1306 : y1306 = y1140 := by rw [e1306, q1299, q1302, e1140, e1135, e1139]
  have q1307 : y1307 = y1141 := by rw [e1307, q1302, q1306, e1141]
  have q1308 : y1308 = y1142 := by rw [e1308, q1302, e1142, e1135]
  have q1309 : y1309 = (y1134 + y1142) := by rw [e1309, q1295, q1303, q1308, e1134]
  have q1310 : y1310 = y1143 := by rw [e1310, q1307, e1143]
  have q1311 : y1311 = y1144 := by rw [e1311, q1305, q1307, e1144]
  have q1312 : y1312 = y1145 := by rw [e1312, q1307, e1145]
  have q1313 : y1313 = y1146 := by rw [e1313, q1309, q1312, e1146]
  have q1314 : y1314 = y1147 := by rw [e1314, q1307, q1311, e1147]
  have q1315 : y1315 = y1148 := by rw [e1315, q1307, q1311, e1148]
  have q1316 : y1316 = y1149 := by rw [e1316, q1315, q1314, e1149]
  have q1317 : y1317 = ((IntKind.wrap .i32 (y1138 + y1143)) + y1149) := by rw [e1317, q1305, q1310, q1316]
  have q1318 : y1318 = y1151 := by rw [e1318, q1305, q1310, e1151]
  have q1319 : y1319 = y1152 := by rw [e1319, q1318, q1314, e1152]
  have q1320 : y1320 = ((IntKind.wrap .i32 (y1141 - y1144)) - y1152) := by rw [e1320, q1307, q1311, q1319]
  have q1321 : y1321 = y1154 := by rw [e1321, q1314, e1154]
  have q1322 : y1322 = y1155 := by rw [e1322, q1320, e1155, e1153]
  have q1323 : y1323 = (IntKind.wrap .i32 (y1150 + y1155)) := by rw [e1323, q1317, q1322, e1150]
  have q1324 : y1324 = y1156 := by rw [e1324, q1317, q1320, e1156, e1153, e1150]
  have q1325 : y1325 = (IntKind.wrap .i32 (y1153 - y1156)) := by rw [e1325, q1320, q1324, e1153]
  have q1326 : y1326 = y1157 := by rw [e1326, q1320, e1157, e1153]
  have q1327 : y1327 = ((IntKind.wrap .i32 (y1146 + y1154)) + y1157) := by rw [e1327, q1313, q1321, q1326]
  have q1328 : y1328 = y1161 := by rw [e1328, q1325, e1161, e1159, e1160]
  have q1329 : y1329 = y1164 := by rw [e1329, q1323, q1325, e1164, e1159, e1163]
  have q1330 : y1330 = y1166 := by rw [e1330, q1325, e1166, e1159]
  have q1331 : y1331 = (IntKind.wrap .i32 (y1158 + y1166)) := by rw [e1331, q1327, q1330, e1158]
  have r1 : (IntKind.wrap .i32 (y1323 + y1328)) = y1162 := by rw [q1323, q1328, e1162]
  have r2 : (IntKind.wrap .i32 (y1325 - y1329)) = y1165 := by rw [q1325, q1329, e1165]
  refine both r1.symm (both r2.symm (both q1331.symm ?_))
  intro y1332 e1332 _ y1333 e1333 _ y1334 e1334 _ y1335 e1335 _ y1336 e1336 _ y1337 e1337 _ y1338 e1338 _ y1339 e1339 _ y1340 e1340 _ y1341 e1341 _ y1342 e1342 _ y1343 e1343 _ y1344 e1344 _ y1345 e1345 _ y1346 e1346 _ y1347 e1347 _ y1348 e1348 _ y1349 e1349 _ y1350 e1350 _ y1351 e1351 _ y1352 e1352 _ y1353 e1353 _ y1354 e1354 _ y1355 e1355 _ y1356 e1356 _ y1357 e1357 _ y1358 e1358 _ y1359 e1359 _ y1360 e1360 _ y1361 e1361 _ y1362 e1362 _ y1363 e1363 _ y1364 e1364 _ y1365 e1365 _ y1366 e1366 _ y1367 e1367 _ y1368 e1368 _ y1369 e1369 _ y1370 e1370 _ y1371 e1371 _ y1372 e1372 _ y1373 e1373 _ y1374 e1374 _ y1375 e1375 _ y1376 e1376 _ y1377 e1377 _ y1378 e1378 _ y1379 e1379 _ y1380 e1380 _ y1381 e1381 _ y1382 e1382 _ y1383 e1383 _ y1384 e1384 _ y1385 e1385 _ y1386 e1386 _ y1387 e1387 _ y1388 e1388 _ y1389 e1389 _ y1390 e1390 _ y1391 e1391 _ y1392 e1392 _ y1393 e1393 _ y1394 e1394 _ y1395 e1395 _ y1396 e1396 _ y1397 e1397 _ y1398 e1398 _ y1399 e1399 _ y1400 e1400 _ y1401 e1401 _ y1402 e1402 _ y1403 e1403 _ y1404 e1404 _ y1405 e1405 _ y1406 e1406 _ y1407 e1407 _ y1408 e1408 _ y1409 e1409 _ y1410 e1410 _ y1411 e1411 _ y1412 e1412 _ y1413 e1413 _ y1414 e1414 _ y1415 e1415 _ y1416 e1416 _ y1417 e1417 _ y1418 e1418 _ y1419 e1419 _ y1420 e1420 _ y1421 e1421 _ y1422 e1422 _ y1423 e1423 _ y1424 e1424 _ y1425 e1425 _ y1426 e1426 _ y1427 e1427 _ y1428 e1428 _ y1429 e1429 _ y1430 e1430 _ y1431 e1431 _ y1432 e1432 _ y1433 e1433 _ y1434 e1434 _ y1435 e1435 _ y1436 e1436 _ y1437 e1437 _ y1438 e1438 _ y1439 e1439 _ y1440 e1440 _ y1441 e1441 _ y1442 e1442 _ y1443 e1443 _ y1444 e1444 _ y1445 e1445 _ y1446 e1446 _ y1447 e1447 _ y1448 e1448 _ y1449 e1449 _ y1450 e1450 _ y1451 e1451 _ y1452 e1452 _ y1453 e1453 _ y1454 e1454 _ y1455 e1455 _ y1456 e1456 _ y1457 e1457 _ y1458 e1458 _ y1459 e1459 _ y1460 e1460 _ y1461 e1461 _ y1462 e1462 _ y1463 e1463 _ y1464 e1464 _ y1465 e1465 _ y1466 e1466 _ y1467 e1467 _ y1468 e1468 _ y1469 e1469 _ y1470 e1470 _ y1471 e1471 _ y1472 e1472 _ y1473 e1473 _ y1474 e1474 _ y1475 e1475 _ y1476 e1476 _ y1477 e1477 _ y1478 e1478 _ y1479 e1479 _ y1480 e1480 _ y1481 e1481 _ y1482 e1482 _ y1483 e1483 _ y1484 e1484 _ y1485 e1485 _ y1486 e1486 _ y1487 e1487 _ y1488 e1488 _ y1489 e1489 _ y1490 e1490 _ y1491 e1491 _ y1492 e1492 _ y1493 e1493 _ y1494 e1494 _ y1495 e1495 _ y1496 e1496 _ y1497 e1497 _ y1498 e1498 _ y1499 e1499 _ y1500 e1500 _ y1501 e1501 b1501 y1502 e1502 _ y1503 e1503 b1503 y1504 e1504 b1504 y1505 e1505 b1505 y1506 e1506 _ y1507 e1507 _ y1508 e1508 _ y1509 e1509 _ y1510 e1510 _ y1511 e1511 _ y1512 e1512 _ y1513 e1513 _ y1514 e1514 _ y1515 e1515 _ y1516 e1516 _ y1517 e1517 _ y1518 e1518 _ y1519 e1519 _ y1520 e1520 _ y1521 e1521 _ y1522 e1522 _ y1523 e1523 _ y1524 e1524 _ y1525 e1525 _ y1526 e1526 _ y1527 e1527 _ y1528 e1528 _ y1529 e1529 _ y1530 e1530 _ y1531 e1531 _ y1532 e1532 _ y1533 e1533 _ y1534 e1534 _ y1535 e1535 _ y1536 e1536 _ y1537 e1537 _ y1538 e1538 _ y1539 e1539 _ y1540 e1540 _ y1541 e1541 _ y1542 e1542 _ y1543 e1543 _ y1544 e1544 _ y1545 e1545 _ y1546 e1546 _ y1547 e1547 _ y1548 e1548 _ y1549 e1549 _ y1550 e1550 _ y1551 e1551 _ y1552 e1552 _ y1553 e1553 _ y1554 e1554 _ y1555 e1555 _ y1556 e1556 _ y1557 e1557 _ y1558 e1558 _ y1559 e1559 _ y1560 e1560 _ y1561 e1561 _ y1562 e1562 _ y1563 e1563 _ y1564 e1564 _ y1565 e1565 _ y1566 e1566 _ y1567 e1567 _ y1568 e1568 _ y1569 e1569 _ y1570 e1570 _ y1571 e1571 _ y1572 e1572 _ y1573 e1573 _ y1574 e1574 _ y1575 e1575 _ y1576 e1576 _ y1577 e1577 _ y1578 e1578 _ y1579 e1579 _ y1580 e1580 _ y1581 e1581 _ y1582 e1582 _ y1583 e1583 _ y1584 e1584 _ y1585 e1585 _ y1586 e1586 _ y1587 e1587 _ y1588 e1588 _ y1589 e1589 _ y1590 e1590 _ y1591 e1591 _ y1592 e1592 _ y1593 e1593 _ y1594 e1594 _ y1595 e1595 _ y1596 e1596 _ y1597 e1597 _ y1598 e1598 _ y1599 e1599 _ y1600 e1600 _ y1601 e1601 _ y1602 e1602 _ y1603 e1603 _ y1604 e1604 _ y1605 e1605 _ y1606 e1606 _ y1607 e1607 _ y1608 e1608 _ y1609 e1609 _ y1610 e1610 _ y1611 e1611 _ y1612 e1612 _ y1613 e1613 _ y1614 e1614 _ y1615 e1615 _ y1616 e1616 _ y1617 e1617 _ y1618 e1618 _ y1619 e1619 _ y1620 e1620 _ y1621 e1621 _ y1622 e1622 _ y1623 e1623 _ y1624 e1624 _ y1625 e1625 _ y1626 e1626 _ y1627 e1627 _ y1628 e1628 _ y1629 e1629 _ y1630 e1630 _ y1631 e1631 _ y1632 e1632 _ y1633 e1633 _ y1634 e1634 _ y1635 e1635 _ y1636 e1636 _ y1637 e1637 _ y1638 e1638 _ y1639 e1639 _ y1640 e1640 _ y1641 e1641 _ y1642 e1642 _ y1643 e1643 _ y1644 e1644 _ y1645 e1645 _ y1646 e1646 _ y1647 e1647 _ y1648 e1648 _ y1649 e1649 _ y1650 e1650 _ y1651 e1651 _ y1652 e1652 _ y1653 e1653 _ y1654 e1654 _ y1655 e1655 _ y1656 e1656 _ y1657 e1657 _ y1658 e1658 _ y1659 e1659 _ y1660 e1660 _ y1661 e1661 _ y1662 e1662 _ y1663 e1663 _ y1664 e1664 _ y1665 e1665 _ y1666 e1666 _ y1667 e1667 _ y1668 e1668 _ y1669 e1669 _ y1670 e1670 _ y1671 e1671 _ y1672 e1672 _ y1673 e1673 _ y1674 e1674 _ y1675 e1675 _ y1676 e1676 _ y1677 e1677 _
  have q1506 : y1506 = y1332 := by rw [e1506, e1332]
  have q1507 : y1507 = y1333 := by rw [e1507, e1333]
  have q1508 : y1508 = (32 - (blen (IntKind.wrap .u32 (maxZ y1332 y1333)))) := by rw [e1508, q1506, q1507]
  have q1509 : y1509 = y1336 := by rw [e1509, q1506, q1507, q1508, e1336, e1334]
  have q1510 : y1510 = y1335 := by rw [e1510, q1506, q1507, q1508, e1335, e1334]
  have q1511 : y1511 = y1337 := by rw [e1511, q1509, e1337]
  have q1512 : y1512 = y1338 := by rw [e1512, q1509, e1338]
  have q1513 : y1513 = ((shrZ .u32 (IntKind.wrap .u32 y1335) 2) + ((bxor .i32 y1338 y1337) - y1337)) := by rw [e1513, q1510, q1512, q1511]
  have q1514 : y1514 = y1340 := by rw [e1514, q1510, e1340]
  have q1515 : y1515 = ((shrZ .u32 (IntKind.wrap .u32 y1336) 2) - ((bxor .i32 y1340 y1337) - y1337)) := by rw [e1515, q1509, q1514, q1511]
  have q1516 : y1516 = y1342 := by rw [e1516, q1515, e1342, e1341]
  have q1517 : y1517 = (IntKind.wrap .i32 (y1339 + y1342)) := by rw [e1517, q1513, q1516, e1339]
  have q1518 : y1518 = y1343 := by rw [e1518, q1513, q1515, e1343, e1341, e1339]
  have q1519 : y1519 = (IntKind.wrap .i32 (y1341 - y1343)) := by rw [e1519, q1515, q1518, e1341]
  have q1520 : y1520 = y1344 := by rw [e1520, q1515, e1344, e1341]
  have q1521 : y1521 = (((bxor .i32 421657428 y1337) - y1337) + y1344) := by rw [e1521, q1511, q1520]
  have q1522 : y1522 = y1348 := by rw [e1522, q1519, e1348, e1346, e1347]
  have q1523 : y1523 = y1351 := by rw [e1523, q1517, q1519, e1351, e1346, e1350]
  have q1524 : y1524 = y1353 := by rw [e1524, q1519, e1353, e1346]
  have q1525 : y1525 = (IntKind.wrap .i32 (y1345 + y1353)) := by rw [e1525, q1521, q1524, e1345]
  have q1526 : y1526 = (shrZ .i32 y1352 31) := by rw [e1526, q1519, q1523, e1352]
  have q1527 : y1527 = (shrZ .i32 y1352 3) := by rw [e1527, q1519, q1523, e1352]
  have q1528 : y1528 = y1354 := by rw [e1528, q1527, q1526, e1354]
  have q1529 : y1529 = (y1349 + y1354) := by rw [e1529, q1517, q1522, q1528, e1349]
  have q1530 : y1530 = (shrZ .i32 y1349 3) := by rw [e1530, q1517, q1522, e1349]
  have q1531 : y1531 = y1355 := by rw [e1531, q1530, q1526, e1355]
  have q1532 : y1532 = (y1352 - y1355) := by rw [e1532, q1519, q1523, q1531, e1352]
  have q1533 : y1533 = y1356 := by rw [e1533, q1526, e1356]
  have q1534 : y1534 = y1360 := by rw [e1534, q1532, e1360, e1358, e1359]
  have q1535 : y1535 = y1361 := by rw [e1535, q1529, q1534, e1361]
  have q1536 : y1536 = y1363 := by rw [e1536, q1529, q1532, e1363, e1358, e1362]
  have q1537 : y1537 = y1364 := by rw [e1537, q1532, q1536, e1364]
  have q1538 : y1538 = y1365 := by rw [e1538, q1532, e1365, e1358]
  have q1539 : y1539 = (y1357 + y1365) := by rw [e1539, q1525, q1533, q1538, e1357]
  have q1540 : y1540 = y1366 := by rw [e1540, q1537, e1366]
  have q1541 : y1541 = y1367 := by rw [e1541, q1535, q1537, e1367]
  have q1542 : y1542 = y1368 := by rw [e1542, q1537, e1368]
  have q1543 : y1543 = y1369 := by rw [e1543, q1539, q1542, e1369]
  have q1544 : y1544 = y1370 := by rw [e1544, q1537, q1541, e1370]
  have q1545 : y1545 = y1371 := by rw [e1545, q1537, q1541, e1371]
  have q1546 : y1546 = y1372 := by rw [e1546, q1545, q1544, e1372]
  have q1547 : y1547 = ((IntKind.wrap .i32 (y1361 + y1366)) + y1372) := by rw [e1547, q1535, q1540, q1546]
  have q1548 : y1548 = y1374 := by rw [e1548, q1535, q1540, e1374]
  have q1549 : y1549 = y1375 := by rw [e1549, q1548, q1544, e1375]
  have q1550 : y1550 = ((IntKind.wrap .i32 (y1364 - y1367)) - y1375) := by rw [e1550, q1537, q1541, q1549]
  have q1551 : y1551 = y1377 := by rw [e1551, q1544, e1377]
  have q1552 : y1552 = y1378 := by rw [e1552, q1550, e1378, e1376]
  have q1553 : y1553 = (IntKind.wrap .i32 (y1373 + y1378)) := by rw [e1553, q1547, q1552, e1373]
  have q1554 : y1554 = y1379 := by rw [e1554, q1547, q1550, e1379, e1376, e1373]
  have q1555 : y1555 = (IntKind.wrap .i32 (y1376 - y1379)) := by rw [e1555, q1550, q1554, e1376]
  have q1556 : y1556 = y1380 := by rw [e1556, q1550, e1380, e1376]
  have q1557 : y1557 = ((IntKind.wrap .i32 (y1369 + y1377)) + y1380) := by rw [e1557, q1543, q1551, q1556]
  have q1558 : y1558 = y1384 := by rw [e1558, q1555, e1384, e1382, e1383]
  have q1559 : y1559 = y1387 := by rw [e1559, q1553, q1555, e1387, e1382, e1386]
  have q1560 : y1560 = y1389 := by rw [e1560, q1555, e1389, e1382]
  have q1561 : y1561 = (IntKind.wrap .i32 (y1381 + y1389)) := by rw [e1561, q1557, q1560, e1381]
  have q1562 : y1562 = (shrZ .i32 y1388 31) := by rw [e1562, q1555, q1559, e1388]
  have q1563 : y1563 = (shrZ .i32 y1388 9) := by rw [e1563, q1555, q1559, e1388]
  have q1564 : y1564 = y1390 := by rw [e1564, q1563, q1562, e1390]
  have q1565 : y1565 = (y1385 + y1390) := by rw [e1565, q1553, q1558, q1564, e1385]
  have q1566 : y1566 = (shrZ .i32 y1385 9) := by rw [e1566, q1553, q1558, e1385]
  have q1567 : y1567 = y1391 := by rw [e1567, q1566, q1562, e1391]
  have q1568 : y1568 = (y1388 - y1391) := by rw [e1568, q1555, q1559, q1567, e1388]
  have q1569 : y1569 = y1392 := by rw [e1569, q1562, e1392]
  have q1570 : y1570 = y1396 := by rw [e1570, q1568, e1396, e1394, e1395]
  have q1571 : y1571 = y1397 := by rw [e1571, q1565, q1570, e1397]
  have q1572 : y1572 = y1399 := by rw [e1572, q1565, q1568, e1399, e1394, e1398]
  have q1573 : y1573 = y1400 := by rw [e1573, q1568, q1572, e1400]
  have q1574 : y1574 = y1401 := by rw [e1574, q1568, e1401, e1394]
  have q1575 : y1575 = (y1393 + y1401) := by rw [e1575, q1561, q1569, q1574, e1393]
  have q1576 : y1576 = y1402 := by rw [e1576, q1573, e1402]
  have q1577 : y1577 = y1403 := by rw [e1577, q1571, q1573, e1403]
  have q1578 : y1578 = y1404 := by rw [e1578, q1573, e1404]
  have q1579 : y1579 = y1405 := by rw [e1579, q1575, q1578, e1405]
  have q1580 : y1580 = y1406 := by rw [e1580, q1573, q1577, e1406]
  have q1581 : y1581 = y1407 := by rw [e1581, q1573, q1577, e1407]
  have q1582 : y1582 = y1408 := by rw [e1582, q1581, q1580, e1408]
  have q1583 : y1583 = ((IntKind.wrap .i32 (y1397 + y1402)) + y1408) := by rw [e1583, q1571, q1576, q1582]
  have q1584 : y1584 = y1410 := by rw [e1584, q1571, q1576, e1410]
  have q1585 : y1585 = y1411 := by rw [e1585, q1584, q1580, e1411]
  have q1586 : y1586 = ((IntKind.wrap .i32 (y1400 - y1403)) - y1411) := by rw [e1586, q1573, q1577, q1585]
  have q1587 : y1587 = y1413 := by rw [e1587, q1580, e1413]
  have q1588 : y1588 = y1414 := by rw [e1588, q1586, e1414, e1412]
  have q1589 : y1589 = (IntKind.wrap .i32 (y1409 + y1414)) := by rw [e1589, q1583, q1588, e1409]
  have q1590 : y1590 = y1415 := by rw [e1590, q1583, q1586, e1415, e1412, e1409]
  have q1591 : y1591 = (IntKind.wrap .i32 (y1412 - y1415)) := by rw [e1591, q1586, q1590, e1412]
  have q1592 : y1592 = y1416 := by rw [e1592, q1586, e1416, e1412]
  have q1593 : y1593 = ((IntKind.wrap .i32 (y1405 + y1413)) + y1416) := by rw [e1593, q1579, q1587, q1592]
  have q1594 : y1594 = y1420 := by rw [e1594, q1591, e1420, e1418, e1419]
  have q1595 : y1595 = y1423 := by rw [e1595, q1589, q1591, e1423, e1418, e1422]
  have q1596 : y1596 = y1425 := by rw [e1596, q1591, e1425, e1418]
  have q1597 : y1597 = (IntKind.wrap .i32 (y1417 + y1425)) := by rw [e1597, q1593, q1596, e1417]
  have q1598 : y1598 = (shrZ .i32 y1424 31) := by rw [e1598, q1591, q1595, e1424]
  have q1599 : y1599 = (shrZ .i32 y1424 15) := by rw [e1599, q1591, q1595, e1424]
  have q1600 : y1600 = y1426 := by rw [e1600, q1599, q1598, e1426]
  have q1601 : y1601 = (y1421 + y1426) := by rw [e1601, q1589, q1594, q1600, e1421]
  have q1602 : y1602 = (shrZ .i32 y1421 15) := by rw [e1602, q1589, q1594, e1421]
  have q1603 : y1603 = y1427 := by rw [e1603, q1602, q1598, e1427]
  have q1604 : y1604 = (y1424 - y1427) := by rw [e1604, q1591, q1595, q1603, e1424]
  have q1605 : y1605 = y1428 := by rw [e1605, q1598, e1428]
  have q1606 : y1606 = y1432 := by rw [e1606, q1604, e1432, e1430, e1431]
  have q1607 : y1607 = y1433 := by rw [e1607, q1601, q1606, e1433]
  have q1608 : y1608 = y1435 := by rw [e1608, q1601, q1604, e1435, e1430, e1434]
  have q1609 : y1609 = y1436 := by rw [e1609, q1604, q1608, e1436]
  have q1610 : y1610 = y1437 := by rw [e1610, q1604, e1437, e1430]
  have q1611 : y1611 = (y1429 + y1437) := by rw [e1611, q1597, q1605, q1610, e1429]
  have q1612 : y1612 = y1438 := by rw [e1612, q1609, e1438]
  have q1613 : y1613 = y1439 := by rw [e1613, q1607, q1609, e1439]
  have q1614 : y1614 = y1440 := by rw [e1614, q1609, e1440]
  have q1615 : y1615 = y1441 := by rw [e1615, q1611, q1614, e1441]
  have q1616 : y1616 = y1442 := by rw [e1616, q1609, q1613, e1442]
  have q1617 : y1617 = y1443 := by rw [e1617, q1609, q1613, e1443]
  have q1618 : y1618 = y1444 := by rw [e1618, q1617, q1616, e1444]
  have q1619 : y1619 = ((IntKind.wrap .i32 (y1433 + y1438)) + y1444) := by rw [e1619, q1607, q1612, q1618]
  have q1620 : y1620 = y1446 := by rw [e1620, q1607, q1612, e1446]
  have q1621 : y1621 = y1447 := by rw [e1621, q1620, q1616, e1447]
  have q1622 : y1622 = ((IntKind.wrap .i32 (y1436 - y1439)) - y1447) := by rw [e1622, q1609, q1613, q1621]
  have q1623 : y1623 = y1449 := by rw [e1623, q1616, e1449]
  have q1624 : y1624 = y1450 := by rw [e1624, q1622, e1450, e1448]
  have q1625 : y1625 = (IntKind.wrap .i32 (y1445 + y1450)) := by rw [e1625, q1619, q1624, e1445]
  have q1626 : y1626 = y1451 := by rw [e1626, q1619, q1622, e1451, e1448, e1445]
  have q1627 : y1627 = (IntKind.wrap .i32 (y1448 - y1451)) := by rw [e1627, q1622, q1626, e1448]
  have q1628 : y1628 = y1452 := by rw [e1628, q1622, e1452, e1448]
  have q1629 : y1629 = ((IntKind.wrap .i32 (y1441 + y1449)) + y1452) := by rw [e1629, q1615, q1623, q1628]
  have q1630 : y1630 = y1456 := by rw [e1630, q1627, e1456, e1454, e1455]
  have q1631 : y1631 = y1459 := by rw [e1631, q1625, q1627, e1459, e1454, e1458]
  have q1632 : y1632 = y1461 := by rw [e1632, q1627, e1461, e1454]
  have q1633 : y1633 = (IntKind.wrap .i32 (y1453 + y1461)) := by rw [e1633, q1629, q1632, e1453]
  have q1634 : y1634 = (shrZ .i32 y1460 31) := by rw [e1634, q1627, q1631, e1460]
  have q1635 : y1635 = (shrZ .i32 y1460 21) := by rw [e1635, q1627, q1631, e1460]
  have q1636 : y1636 = y1462 := by rw [e1636, q1635, q1634, e1462]
  have q1637 : y1637 = (y1457 + y1462) := by rw [e1637, q1625, q1630, q1636, e1457]
  have q1638 : y1638 = (shrZ .i32 y1457 21) := by rw [e1638, q1625, q1630, e1457]
  have q1639 : y1639 = y1463 := by rw [e1639, q1638, q1634, e1463]
  have q1640 : y1640 = (y1460 - y1463) := by rw [e1640, q1627, q1631, q1639, e1460]
  have q1641 : y1641 = y1464 := by rw [e1641, q1634, e1464]
  have q1642 : y1642 = y1468 := by rw [e1642, q1640, e1468, e1466, e1467]
  have q1643 : y1643 = y1469 := by rw [e1643, q1637, q1642, e1469]
  have q1644 : y1644 = y1471 := by rw [e1644, q1637, q1640, e1471, e1466, e1470]
  have q1645 : y1645 = y1472 := by rw [e1645, q1640, q1644, e1472]
  have q1646 : y1646 = y1473 := by rw [e1646, q1640, e1473, e1466]
  have q1647 : y1647 = (y1465 + y1473) := by rw [e1647, q1633, q1641, q1646, e1465]
  have q1648 : y1648 = y1474 := by rw [e1648, q1645, e1474]
  have q1649 : y1649 = y1475 := by rw [e1649, q1643, q1645, e1475]
  have q1650 : y1650 = y1476 := by rw [e1650, q1645, e1476]
  have q1651 : y1651 = y1477 := by rw [e1651, q1647, q1650, e1477]
  have q1652 : y1652 = y1478 := by rw [e1652, q1645, q1649, e1478]
  have q1653 : y1653 = y1479 := by rw [e1653, q1645, q1649, e1479]
  have q1654 : y1654 = y1480 := by rw [e1654, q1653, q1652, e1480]
  have q1655 : y1655 = ((IntKind.wrap .i32 (y1469 + y1474)) + y1480) := by rw [e1655, q1643, q1648, q1654]
  have q1656 : y1656 = y1482 := by rw [e1656, q1643, q1648, e1482]
  have q1657 : y1657 = y1483 := by rw [e1657, q1656, q1652, e1483]
  have q1658 : y1658 = ((IntKind.wrap .i32 (y1472 - y1475)) - y1483) := by rw [e1658, q1645, q1649, q1657]
  have q1659 : y1659 = y1485 := by rw [e1659, q1652, e1485]
  have q1660 : y1660 = y1486 := by rw [e1660, q1658, e1486, e1484]
  have q1661 : y1661 = (IntKind.wrap .i32 (y1481 + y1486)) := by rw [e1661, q1655, q1660, e1481]
  have q1662 : y1662 = y1487 := by rw [e1662, q1655, q1658, e1487, e1484, e1481]
  have q1663 : y1663 = (IntKind.wrap .i32 (y1484 - y1487)) := by rw [e1663, q1658, q1662, e1484]
  have q1664 : y1664 = y1488 := by rw [e1664, q1658, e1488, e1484]
  have q1665 : y1665 = ((IntKind.wrap .i32 (y1477 + y1485)) + y1488) := by rw [e1665, q1651, q1659, q1664]
  have q1666 : y1666 = y1492 := by rw [e1666, q1663, e1492, e1490, e1491]
  have q1667 : y1667 = y1495 := by rw [e1667, q1661, q1663, e1495, e1490, e1494]
  have q1668 : y1668 = y1497 := by rw [e1668, q1663, e1497, e1490]
  have q1669 : y1669 = (IntKind.wrap .i32 (y1489 + y1497)) := by rw [e1669, q1665, q1668, e1489]
  have q1670 : y1670 = (shrZ .i32 y1496 31) := by rw [e1670, q1663, q1667, e1496]
  have q1671 : y1671 = (shrZ .i32 y1496 27) := by rw [e1671, q1663, q1667, e1496]
  have q1672 : y1672 = y1498 := by rw [e1672, q1671, q1670, e1498]
  have q1673 : y1673 = (y1493 + y1498) := by rw [e1673, q1661, q1666, q1672, e1493]
  have q1674 : y1674 = (shrZ .i32 y1493 27) := by rw [e1674, q1661, q1666, e1493]
  have q1675 : y1675 = y1499 := by rw [e1675, q1674, q1670, e1499]
  have q1676 : y1676 = (y1496 - y1499) := by rw [e1676, q1663, q1667, q1675, e1496]
  have q1677 : y1677 = y1500 := by rw [e1677, q1670, e1500]
  have r4 : (IntKind.wrap .i32 (y1669 + y1677)) = y1501 := by rw [q1669, q1677, e1501]
  rw [q1506, q1507]
  refine ⟨fun g => ?_, fun g => ?_⟩
  · have g1 : y1332 < y1333 := by simpa [bool01] using g
    have s6 : y1502 = -1 := by rw [e1502]; simp [bool01, iteZ, g1]
    have k7 : y1503 = IntKind.wrap .i32 (843314857 - y1501) := by rw [e1503, s6]; exact sel_one _
    intro y1679 e1679 _
    refine ⟨fun g => ?_, fun g => ?_⟩
    · have g2 : a1 < 0 := by simpa [bool01] using g
      have s1 : shrZ .i32 a1 31 = -1 := sign_neg l1 g2
      have k8 : y1504 = IntKind.wrap .i32 (1686629713 - y1503) := by rw [e1504, s1]; exact sel_one _
      intro y1681 e1681 _
      refine ⟨fun g => ?_, fun g => ?_⟩
      · have g3 : a0 < 0 := by simpa [bool01] using g
        have s0 : shrZ .i32 a0 31 = -1 := sign_neg l0 g3
        have k9 : y1505 = IntKind.wrap .i32 (0 - y1504) := by rw [e1505, s0, fl_neg b1504.1 b1504.2]
        exact both (by rw [k9, k8, k7, e1681, e1679, r4]) (by decide)
      · have g3 : 0 ≤ a0 := by simpa [bool01] using g
        have s0 : shrZ .i32 a0 31 = 0 := sign_pos g3 u0
        have k9 : y1505 = y1504 := by rw [e1505, s0, fl_zero b1504.1 b1504.2]
        exact both (by rw [k9, k8, k7, e1681, e1679, r4]) (by decide)
    · have g2 : 0 ≤ a1 := by simpa [bool01] using g
      have s1 : shrZ .i32 a1 31 = 0 := sign_pos g2 u1
      have k8 : y1504 = y1503 := by rw [e1504, s1]; exact sel_zero _ b1503.1 b1503.2
      refine ⟨fun g => ?_, fun g => ?_⟩
      · have g3 : a0 < 0 := by simpa [bool01] using g
        have s0 : shrZ .i32 a0 31 = -1 := sign_neg l0 g3
        have k9 : y1505 = IntKind.wrap .i32 (0 - y1504) := by rw [e1505, s0, fl_neg b1504.1 b1504.2]
        intro y1682 e1682 _
        exact both (by rw [k9, k8, k7, e1682, e1679, r4]) (by decide)
      · have g3 : 0 ≤ a0 := by simpa [bool01] using g
        have s0 : shrZ .i32 a0 31 = 0 := sign_pos g3 u0
        have k9 : y1505 = y1504 := by rw [e1505, s0, fl_zero b1504.1 b1504.2]
        exact both (by rw [k9, k8, k7, e1679, r4]) (by decide)
  · have g1 : ¬ y1332 < y1333 := by simpa [bool01] using g
    have s6 : y1502 = 0 := by rw [e1502]; simp [bool01, iteZ, g1]
    have k7 : y1503 = y1501 := by rw [e1503, s6]; exact sel_zero _ b1501.1 b1501.2
    refine ⟨fun g => ?_, fun g => ?_⟩
    · have g2 : a1 < 0 := by simpa [bool01] using g
      have s1 : shrZ .i32 a1 31 = -1 := sign_neg l1 g2
      have k8 : y1504 = IntKind.wrap .i32 (1686629713 - y1503) := by rw [e1504, s1]; exact sel_one _
      intro y1680 e1680 _
      refine ⟨fun g => ?_, fun g => ?_⟩
      · have g3 : a0 < 0 := by simpa [bool01] using g
        have s0 : shrZ .i32 a0 31 = -1 := sign_neg l0 g3
        have k9 : y1505 = IntKind.wrap .i32 (0 - y1504) := by rw [e1505, s0, fl_neg b1504.1 b1504.2]
        intro y1682 e1682 _
        exact both (by rw [k9, k8, k7, e1682, e1680, r4]) (by decide)
      · have g3 : 0 ≤ a0 := by simpa [bool01] using g
        have s0 : shrZ .i32 a0 31 = 0 := sign_pos g3 u0
        have k9 : y1505 = y1504 := by rw [e1505, s0, fl_zero b1504.1 b1504.2]
        exact both (by rw [k9, k8, k7, e1680, r4]) (by decide)
    · have g2 : 0 ≤ a1 := by simpa [bool01] using g
      have s1 : shrZ .i32 a1 31 = 0 := sign_pos g2 u1
      have k8 : y1504 = y1503 := by rw [e1504, s1]; exact sel_zero _ b1503.1 b1503.2
      refine ⟨fun g => ?_, fun g => ?_⟩
      · have g3 : a0 < 0 := by simpa [bool01] using g
        have s0 : shrZ .i32 a0 31 = -1 := sign_neg l0 g3
        have k9 : y1505 = IntKind.wrap .i32 (0 - y1504) := by rw [e1505, s0, fl_neg b1504.1 b1504.2]
        intro y1681 e1681 _
        exact both (by rw [k9, k8, k7, e1681, r4]) (by decide)
      · have g3 : 0 ≤ a0 := by simpa [bool01] using g
        have s0 : shrZ .i32 a0 31 = 0 := sign_pos g3 u0
        have k9 : y1505 = y1504 := by rw [e1505, s0, fl_zero b1504.1 b1504.2]
        exact both (by rw [k9, k8, k7, r4]) (by decide)

theorem alikes (a0 a1 : Int) (w0 : (Lit.int .i32 a0).wf = true) (w1 : (Lit.int .i32 a1).wf = true) : fn0 a0 a1 = fn1 a0 a1 ∧ fn2 a0 a1 = fn3 a0 a1 := by
    have hρ0 : EnvOk cxP (envOf [a0, a1]) := envOf_ok (n := 2) (bnd_cons (wf_bd w0) (bnd_cons (wf_bd w1) (bnd_nil _)))
    have hP := holds a0 a1 (wf_bd w0).1 (wf_bd w0).2 (wf_bd w1).1 (wf_bd w1).2
    rw [← plain] at hP
    obtain ⟨e0, hP⟩ := alike (cx := cxP) hρ0 tidy0 tidy1 hP
    obtain ⟨e1, hP⟩ := alike (cx := cxP) hρ0 tidy2 tidy3 hP
    exact ⟨e0, e1⟩

/-! ### the law -/
def tree : T E :=
(.br (.b .eq .i64 (.f 4 (.v 0) (.v 1) (.c 0)) (.f 7 (.v 0) (.v 1) (.c 0)))
  (.br (.b .eq .i64 (.f 5 (.v 0) (.v 1) (.c 0)) (.f 8 (.v 0) (.v 1) (.c 0)))
  (.br (.b .eq .i64 (.f 6 (.v 0) (.v 1) (.c 0)) (.f 9 (.v 0) (.v 1) (.c 0)))
  (.br (.b .eq .i64 (.f 10 (.v 0) (.v 1) (.c 0)) (.f 11 (.v 0) (.v 1) (.c 0)))
  (.leaf (.c 1))
  (.leaf (.c 0)))
  (.leaf (.c 0)))
  (.leaf (.c 0)))
  (.leaf (.c 0)))
theorem ran : T.beq (projB (runL 4 [.int .i32 (.v 0), .int .i32 (.v 1)] ⟨[], []⟩)) tree = true := by kernel_rfl
theorem fineT : (Nat.ble cxL.Γ.length 1000 && T.fine 1000 tree && SV.vbL 1000 [.int .i32 (.v 0), .int .i32 (.v 1)]) = true := by kernel_rfl
theorem walk (a0 a1 : Int) (w0 : (Lit.int .i32 a0).wf = true) (w1 : (Lit.int .i32 a1).wf = true) (w : World) :
    Calls Tryz.prog 4 #[.int .i32 a0, .int .i32 a1] w fun e w' => e = .returned (.bool true) ∧ Below w.heap.size w w' := by
  refine truth_of runL_ok (ρ := envL [a0, a1]) (envL_ok (bnd_cons (wf_bd w0) (bnd_cons (wf_bd w1) (bnd_nil _)))) (f := 4) (args := [.int .i32 (.v 0), .int .i32 (.v 1)]) (t := tree) ran ?_ fineT rfl w
  have hE := alikes a0 a1 w0 w1
  obtain ⟨e0, e1⟩ := hE
  have z : ∀ j, (envL [a0, a1]).i j = [a0, a1].getD j 0 := fun _ => rfl
  have zf : (envL [a0, a1]).f = F' := rfl
  simp only [tree, T.holds, E.ev, BO.ev, z, zf, List.getD_cons_zero, List.getD_cons_succ, F', e0, e1]
  simp [bool01]

/-! ### the row's step -/
set_option maxRecDepth 100000
theorem lifted (os : Os) (started : os.Started) (H : Type) (enc : TypeId × Value → H) :
    ReturnsInHanded {} Tryz.checked os 4 .any (Rows.turnTellsSpec.pre6 enc Tryz.prog Tryz.f4 Rows.turnTellsRow.domain false) (Rows.turnTellsSpec.post enc Tryz.prog Tryz.f4 false true false false) := by
  refine returnsInHanded_of_change (C := Tryz.checked) own started (by kernel_rfl) Tryz.func4
    (ChangeSpec.witness6 (enc := enc) (C := Tryz.checked) false ⟨#[], #[.int .i32 0, .int .i32 0], []⟩ 8 (by kernel_rfl) (by kernel_rfl) (by kernel_rfl) (by kernel_rfl)) ?_
  intro W base args ds gs before hval0 hW hcnd _
  have hval : ∀ (j : Nat) t v, Tryz.f4.params[j]? = some t → args[j]? = some v → Value.okWide Tryz.prog W .any base t v := hval0
  have hW' := hW
  obtain ⟨p, q, hA0, hV, rfl, hfz, hnd⟩ := hW
  have hA : DataW.TrodAll enc Tryz.prog W 0 (fun _ => true) true Tryz.f4.params.toList args.toList ds p := hA0
  rw [Tryz.params4] at hA hval
  obtain ⟨v0, vs0, d0, ds0, p0, q0, hargs, rfl, rfl, h0, r0⟩ := trodAll_cons hA
  obtain ⟨v1, vs1, d1, ds1, p1, q1, rfl, rfl, rfl, h1, r1⟩ := trodAll_cons r0
  obtain ⟨rfl, rfl, rfl⟩ := trodAll_nil r1
  obtain rfl : args = #[v0, v1] := by cases args; simp_all
  obtain ⟨rfl, rfl⟩ := trodVars_none hV
  obtain ⟨a0, rfl, rfl, rfl, w0⟩ := open_int Tryz.underlying21 (hval 0 21 v0 rfl rfl) h0
  obtain ⟨a1, rfl, rfl, rfl, w1⟩ := open_int Tryz.underlying21 (hval 1 21 v1 rfl rfl) h1
  clear hA0 hval0
  simp only [List.append_nil] at hW'
  refine (walk a0 a1 w0 w1 W).mono fun e W' ⟨he, hg⟩ => ?_
  subst he
  exact ⟨_, rfl, post_below (pa := []) (pv := []) hW' hg (fun _ _ _ => (trodAll_cons_mk (shut_bool Tryz.underlying4 _) trodAll_mk0)) (fun sp _ => (trodAll_cons_mk (shut_int Tryz.underlying21 w0) (trodAll_cons_mk (shut_int Tryz.underlying21 w1) trodAll_mk0))) (fun _ _ => rfl) rfl
    (ok_one (by kernel_rfl) rfl (okWide_bool_mk Tryz.underlying4 _))⟩

theorem over : Rows.turnTellsRow.holds Tryz.pinned (OpenSpec.ofChange Rows.turnTellsSpec) :=
  OpenClaim.holds_of_wide 4 Tryz.f4 rfl rfl rfl rfl rfl rfl rfl ⟨rfl, rfl, rfl, rfl, rfl⟩ rfl rfl rfl rfl rfl (by kernel_rfl) Tryz.func4 (by kernel_rfl)
    (of_decide_eq_true (by kernel_rfl)) (by unfold Func.isWrapper; first | (rw [if_pos (by decide +kernel)]; kernel_rfl) | (rw [if_neg (by decide +kernel)]; exact ⟨rfl, rfl⟩))
    (fun os started H enc _ => lifted os started H enc)

/-- the statement -/
theorem proved : Rows.TurnTellsSaid :=
  over
#print axioms proved
end Go.Proofs.YtjooaieolphomaaGreat.turnTells
