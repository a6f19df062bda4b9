/-
  The law TurnWaves answers true at every input: each function that it holds against another one is told by a tree of numbers (the engine's run of it), and that the trees answer alike is shown as a plain statement. No condition.
-/
import Derived.Test.YtjooaieolphomaaGreatRows
import Derived.Test.YtjooaieolphomaaGreatTmAb
import Derived.Test.YtjooaieolphomaaGreatTmT
import Derived.Test.YtjooaieolphomaaGreatTmWb
import Derived.Test.YtjooaieolphomaaGreatFunA
import Derived.Test.YtjooaieolphomaaGreatPlA
import Derived.Test.YtjooaieolphomaaGreatPlR
import Derived.Test.YtjooaieolphomaaGreatPlS
import Derived.Test.YtjooaieolphomaaGreatPlU
import Derived.Test.YtjooaieolphomaaGreatPlV
import Derived.WalkKit
import Derived.ProofKit
import Derived.OpenShut
namespace Go.Proofs.YtjooaieolphomaaGreat.turnWaves
open Go.ChangeShapes Go.WideShapes Go.ChangeAt Go.RowKit
open Go.Eng
set_option linter.unusedVariables false
set_option linter.unusedSimpArgs false

theorem own : ownKnob Tryz.prog.godebug = none := by kernel_rfl

set_option maxRecDepth 100000
/-! ### what the functions answer -/
def fn0 (x y : Int) : List Int := trT1.outs (envOf [x, y])
theorem ar0 : T.ar 2 trT1 = true := by kernel_rfl
theorem sem0 (x : Int) (w : World) (l : -2147483648 ≤ x) (u : x ≤ 2147483647) : Calls Tryz.prog 23 #[.int .i32 x] w fun e w' => e = .returned (mkV false (fn0 x 0)) ∧ Below w.heap.size w w' :=
  sem_of (one := false) (tsT1 2 []) (by kernel_rfl) (envOf_ok (n := 2) (g := [(-2147483648, 2147483647)]) (l := [x, 0]) (bnd_cons (g := []) ⟨l, u⟩ (bnd_nil _))) w rfl
def fn1 (x y : Int) : List Int := trWb0.outs (envOf [x, y])
theorem ar1 : T.ar 2 trWb0 = true := by kernel_rfl
theorem sem1 (x : Int) (w : World) (l : -2147483648 ≤ x) (u : x ≤ 2147483647) : Calls Tryz.prog 24 #[.int .i32 x] w fun e w' => e = .returned (mkV false (fn1 x 0)) ∧ Below w.heap.size w w' :=
  sem_of (one := false) (tsWb0 2 []) (by kernel_rfl) (envOf_ok (n := 2) (g := [(-2147483648, 2147483647)]) (l := [x, 0]) (bnd_cons (g := []) ⟨l, u⟩ (bnd_nil _))) w rfl
theorem aw (w : World) : Calls Tryz.prog 22 #[] w fun e w' => e = .returned (.bool true) ∧ Below w.heap.size w w' :=
  tmAb0 2 [] (envOf []) w (envOf_ok (n := 2) (bnd_nil _))

noncomputable def F' (n : Nat) (x y z : Int) : Int :=
  match n with
  | 4 => (fn0 x y).getD 0 0
  | 5 => (fn0 x y).getD 1 0
  | 6 => (fn1 x y).getD 0 0
  | 7 => (fn1 x y).getD 1 0
  | n => fN n x y z
theorem F'_ok (n : Nat) (p : Int × Int) (x y z : Int) (h : phiN n = some p) : p.1 ≤ F' n x y z ∧ F' n x y z ≤ p.2 := by
  have e : F' n x y z = fN n x y z := by
    unfold phiN at h
    split at h <;> first | rfl | cases h
  rw [e]
  exact phiN_ok n p x y z h
noncomputable def cxL : Cx := { cxOf 2 [(-2147483648, 2147483647)] with F := F' }
theorem cxL_ok : CxOk cxL := ⟨(cxOf_ok 2 [(-2147483648, 2147483647)]).1, (cxOf_ok 2 [(-2147483648, 2147483647)]).2⟩
noncomputable def envL (l : List Int) : Env := ⟨fun i => l.getD i 0, F', fun _ => ptr0⟩
theorem envL_ok {l : List Int} (h : Bnd [(-2147483648, 2147483647)] l) : EnvOk cxL (envL l) := ⟨h, F'_ok, fun _ => ⟨_, rfl⟩, rfl⟩
noncomputable def toldL : Eng.Told := [(23, gSym cxL false 4 2 false), (24, gSym cxL false 6 2 false), (22, gTrue)]
theorem toldL_ok : ToldOk cxL toldL := told_cons (gSym_ok (g := fn0) (fun x y => outs_len ar0) (fun h => by cases h) (fun j x y hj => by match j, hj with | 0, _ => rfl | 1, _ => rfl | j + 2, hj => exact absurd hj (by omega)) (fun _ x w l u => sem0 x w l u) (fun h => by cases h)) (told_cons (gSym_ok (g := fn1) (fun x y => outs_len ar1) (fun h => by cases h) (fun j x y hj => by match j, hj with | 0, _ => rfl | 1, _ => rfl | j + 2, hj => exact absurd hj (by omega)) (fun _ x w l u => sem1 x w l u) (fun h => by cases h)) (told_cons (gTrue_ok aw) (told_nil _)))
noncomputable def runL : CF := execFn cxL (rtsB rtB) (smOf toldL) (fun _ _ => none) 40 30
theorem runL_ok : CallOk cxL runL := execFn_ok cxL_ok rtB_ok (smOf_ok toldL_ok) (xok_none _) _

/-! ### the plain statement -/
def P (a0 : Int) : Prop :=
 ∀ y1000 : Int, y1000 = (maxZ a0 (minZ (0 - a0) 2147483647)) → (-2147483647 ≤ y1000 ∧ y1000 ≤ 2147483647) →
 ∀ y1001 : Int, y1001 = (0 - (iteZ (bool01 (decide (843314857 < y1000))) 1 0)) → (-1 ≤ y1001 ∧ y1001 ≤ 0) →
 ∀ y1002 : Int, y1002 = (IntKind.wrap .i32 ((bxor .i32 1686629713 (shrZ .i32 a0 31)) - (shrZ .i32 a0 31))) → (-2147483648 ≤ y1002 ∧ y1002 ≤ 2147483647) →
 ∀ y1003 : Int, y1003 = (bor .i32 (band .i32 (IntKind.wrap .i32 (y1002 - a0)) y1001) (bandn .i32 a0 y1001)) → (-2147483648 ≤ y1003 ∧ y1003 ≤ 2147483647) →
 ∀ y1004 : Int, y1004 = (IntKind.wrap .i32 ((bxor .i32 0 (shrZ .i32 y1003 31)) - (shrZ .i32 y1003 31))) → (-2147483648 ≤ y1004 ∧ y1004 ≤ 2147483647) →
 ∀ y1005 : Int, y1005 = (IntKind.wrap .i32 ((bxor .i32 652032874 (shrZ .i32 y1003 31)) - (shrZ .i32 y1003 31))) → (-2147483648 ≤ y1005 ∧ y1005 ≤ 2147483647) →
 ∀ y1006 : Int, y1006 = (IntKind.wrap .i32 ((bxor .i32 421657428 (shrZ .i32 y1003 31)) - (shrZ .i32 y1003 31))) → (-2147483648 ≤ y1006 ∧ y1006 ≤ 2147483647) →
 ∀ y1007 : Int, y1007 = (shrZ .i32 (IntKind.wrap .i32 (y1003 - y1006)) 31) → (-1 ≤ y1007 ∧ y1007 ≤ 0) →
 ∀ y1008 : Int, y1008 = (IntKind.wrap .i32 ((bxor .i32 (shrZ .i32 y1005 1) y1007) - y1007)) → (-2147483648 ≤ y1008 ∧ y1008 ≤ 2147483647) →
 ∀ y1009 : Int, y1009 = (IntKind.wrap .i32 ((IntKind.wrap .i32 (652032874 - y1004)) - y1008)) → (-2147483648 ≤ y1009 ∧ y1009 ≤ 2147483647) →
 ∀ y1010 : Int, y1010 = (shrZ .i32 (IntKind.wrap .i32 (652032874 - y1004)) 1) → (-1073741824 ≤ y1010 ∧ y1010 ≤ 1073741823) →
 ∀ y1011 : Int, y1011 = (IntKind.wrap .i32 ((bxor .i32 y1010 y1007) - y1007)) → (-2147483648 ≤ y1011 ∧ y1011 ≤ 2147483647) →
 ∀ y1012 : Int, y1012 = (IntKind.wrap .i32 ((bxor .i32 248918915 y1007) - y1007)) → (-2147483648 ≤ y1012 ∧ y1012 ≤ 2147483647) →
 ∀ y1013 : Int, y1013 = (IntKind.wrap .i32 ((IntKind.wrap .i32 (y1003 - y1006)) - y1012)) → (-2147483648 ≤ y1013 ∧ y1013 ≤ 2147483647) →
 ∀ y1014 : Int, y1014 = (shrZ .i32 (IntKind.wrap .i32 (y1005 + y1011)) 2) → (-536870912 ≤ y1014 ∧ y1014 ≤ 536870911) →
 ∀ y1015 : Int, y1015 = (IntKind.wrap .i32 ((bxor .i32 y1014 (shrZ .i32 y1013 31)) - (shrZ .i32 y1013 31))) → (-2147483648 ≤ y1015 ∧ y1015 ≤ 2147483647) →
 ∀ y1016 : Int, y1016 = (IntKind.wrap .i32 ((bxor .i32 (shrZ .i32 y1009 2) (shrZ .i32 y1013 31)) - (shrZ .i32 y1013 31))) → (-2147483648 ≤ y1016 ∧ y1016 ≤ 2147483647) →
 ∀ y1017 : Int, y1017 = (IntKind.wrap .i32 ((IntKind.wrap .i32 (y1005 + y1011)) + y1016)) → (-2147483648 ≤ y1017 ∧ y1017 ≤ 2147483647) →
 ∀ y1018 : Int, y1018 = (IntKind.wrap .i32 ((bxor .i32 131521918 (shrZ .i32 y1013 31)) - (shrZ .i32 y1013 31))) → (-2147483648 ≤ y1018 ∧ y1018 ≤ 2147483647) →
 ∀ y1019 : Int, y1019 = (shrZ .i32 (IntKind.wrap .i32 (y1013 - y1018)) 31) → (-1 ≤ y1019 ∧ y1019 ≤ 0) →
 ∀ y1020 : Int, y1020 = (IntKind.wrap .i32 ((bxor .i32 (shrZ .i32 y1017 3) y1019) - y1019)) → (-2147483648 ≤ y1020 ∧ y1020 ≤ 2147483647) →
 ∀ y1021 : Int, y1021 = (IntKind.wrap .i32 ((IntKind.wrap .i32 (y1009 - y1015)) - y1020)) → (-2147483648 ≤ y1021 ∧ y1021 ≤ 2147483647) →
 ∀ y1022 : Int, y1022 = (shrZ .i32 (IntKind.wrap .i32 (y1009 - y1015)) 3) → (-268435456 ≤ y1022 ∧ y1022 ≤ 268435455) →
 ∀ y1023 : Int, y1023 = (IntKind.wrap .i32 ((bxor .i32 y1022 y1019) - y1019)) → (-2147483648 ≤ y1023 ∧ y1023 ≤ 2147483647) →
 ∀ y1024 : Int, y1024 = (IntKind.wrap .i32 ((bxor .i32 66762579 y1019) - y1019)) → (-2147483648 ≤ y1024 ∧ y1024 ≤ 2147483647) →
 ∀ y1025 : Int, y1025 = (IntKind.wrap .i32 ((IntKind.wrap .i32 (y1013 - y1018)) - y1024)) → (-2147483648 ≤ y1025 ∧ y1025 ≤ 2147483647) →
 ∀ y1026 : Int, y1026 = (shrZ .i32 (IntKind.wrap .i32 (y1017 + y1023)) 4) → (-134217728 ≤ y1026 ∧ y1026 ≤ 134217727) →
 ∀ y1027 : Int, y1027 = (IntKind.wrap .i32 ((bxor .i32 y1026 (shrZ .i32 y1025 31)) - (shrZ .i32 y1025 31))) → (-2147483648 ≤ y1027 ∧ y1027 ≤ 2147483647) →
 ∀ y1028 : Int, y1028 = (IntKind.wrap .i32 ((bxor .i32 (shrZ .i32 y1021 4) (shrZ .i32 y1025 31)) - (shrZ .i32 y1025 31))) → (-2147483648 ≤ y1028 ∧ y1028 ≤ 2147483647) →
 ∀ y1029 : Int, y1029 = (IntKind.wrap .i32 ((IntKind.wrap .i32 (y1017 + y1023)) + y1028)) → (-2147483648 ≤ y1029 ∧ y1029 ≤ 2147483647) →
 ∀ y1030 : Int, y1030 = (IntKind.wrap .i32 ((bxor .i32 33510843 (shrZ .i32 y1025 31)) - (shrZ .i32 y1025 31))) → (-2147483648 ≤ y1030 ∧ y1030 ≤ 2147483647) →
 ∀ y1031 : Int, y1031 = (shrZ .i32 (IntKind.wrap .i32 (y1025 - y1030)) 31) → (-1 ≤ y1031 ∧ y1031 ≤ 0) →
 ∀ y1032 : Int, y1032 = (IntKind.wrap .i32 ((bxor .i32 (shrZ .i32 y1029 5) y1031) - y1031)) → (-2147483648 ≤ y1032 ∧ y1032 ≤ 2147483647) →
 ∀ y1033 : Int, y1033 = (IntKind.wrap .i32 ((IntKind.wrap .i32 (y1021 - y1027)) - y1032)) → (-2147483648 ≤ y1033 ∧ y1033 ≤ 2147483647) →
 ∀ y1034 : Int, y1034 = (shrZ .i32 (IntKind.wrap .i32 (y1021 - y1027)) 5) → (-67108864 ≤ y1034 ∧ y1034 ≤ 67108863) →
 ∀ y1035 : Int, y1035 = (IntKind.wrap .i32 ((bxor .i32 y1034 y1031) - y1031)) → (-2147483648 ≤ y1035 ∧ y1035 ≤ 2147483647) →
 ∀ y1036 : Int, y1036 = (IntKind.wrap .i32 ((bxor .i32 16771758 y1031) - y1031)) → (-2147483648 ≤ y1036 ∧ y1036 ≤ 2147483647) →
 ∀ y1037 : Int, y1037 = (IntKind.wrap .i32 ((IntKind.wrap .i32 (y1025 - y1030)) - y1036)) → (-2147483648 ≤ y1037 ∧ y1037 ≤ 2147483647) →
 ∀ y1038 : Int, y1038 = (shrZ .i32 (IntKind.wrap .i32 (y1029 + y1035)) 6) → (-33554432 ≤ y1038 ∧ y1038 ≤ 33554431) →
 ∀ y1039 : Int, y1039 = (IntKind.wrap .i32 ((bxor .i32 y1038 (shrZ .i32 y1037 31)) - (shrZ .i32 y1037 31))) → (-2147483648 ≤ y1039 ∧ y1039 ≤ 2147483647) →
 ∀ y1040 : Int, y1040 = (IntKind.wrap .i32 ((bxor .i32 (shrZ .i32 y1033 6) (shrZ .i32 y1037 31)) - (shrZ .i32 y1037 31))) → (-2147483648 ≤ y1040 ∧ y1040 ≤ 2147483647) →
 ∀ y1041 : Int, y1041 = (IntKind.wrap .i32 ((IntKind.wrap .i32 (y1029 + y1035)) + y1040)) → (-2147483648 ≤ y1041 ∧ y1041 ≤ 2147483647) →
 ∀ y1042 : Int, y1042 = (IntKind.wrap .i32 ((bxor .i32 8387925 (shrZ .i32 y1037 31)) - (shrZ .i32 y1037 31))) → (-2147483648 ≤ y1042 ∧ y1042 ≤ 2147483647) →
 ∀ y1043 : Int, y1043 = (shrZ .i32 (IntKind.wrap .i32 (y1037 - y1042)) 31) → (-1 ≤ y1043 ∧ y1043 ≤ 0) →
 ∀ y1044 : Int, y1044 = (IntKind.wrap .i32 ((bxor .i32 (shrZ .i32 y1041 7) y1043) - y1043)) → (-2147483648 ≤ y1044 ∧ y1044 ≤ 2147483647) →
 ∀ y1045 : Int, y1045 = (IntKind.wrap .i32 ((IntKind.wrap .i32 (y1033 - y1039)) - y1044)) → (-2147483648 ≤ y1045 ∧ y1045 ≤ 2147483647) →
 ∀ y1046 : Int, y1046 = (shrZ .i32 (IntKind.wrap .i32 (y1033 - y1039)) 7) → (-16777216 ≤ y1046 ∧ y1046 ≤ 16777215) →
 ∀ y1047 : Int, y1047 = (IntKind.wrap .i32 ((bxor .i32 y1046 y1043) - y1043)) → (-2147483648 ≤ y1047 ∧ y1047 ≤ 2147483647) →
 ∀ y1048 : Int, y1048 = (IntKind.wrap .i32 ((bxor .i32 4194219 y1043) - y1043)) → (-2147483648 ≤ y1048 ∧ y1048 ≤ 2147483647) →
 ∀ y1049 : Int, y1049 = (IntKind.wrap .i32 ((IntKind.wrap .i32 (y1037 - y1042)) - y1048)) → (-2147483648 ≤ y1049 ∧ y1049 ≤ 2147483647) →
 ∀ y1050 : Int, y1050 = (shrZ .i32 (IntKind.wrap .i32 (y1041 + y1047)) 8) → (-8388608 ≤ y1050 ∧ y1050 ≤ 8388607) →
 ∀ y1051 : Int, y1051 = (IntKind.wrap .i32 ((bxor .i32 y1050 (shrZ .i32 y1049 31)) - (shrZ .i32 y1049 31))) → (-2147483648 ≤ y1051 ∧ y1051 ≤ 2147483647) →
 ∀ y1052 : Int, y1052 = (IntKind.wrap .i32 ((bxor .i32 (shrZ .i32 y1045 8) (shrZ .i32 y1049 31)) - (shrZ .i32 y1049 31))) → (-2147483648 ≤ y1052 ∧ y1052 ≤ 2147483647) →
 ∀ y1053 : Int, y1053 = (IntKind.wrap .i32 ((IntKind.wrap .i32 (y1041 + y1047)) + y1052)) → (-2147483648 ≤ y1053 ∧ y1053 ≤ 2147483647) →
 ∀ y1054 : Int, y1054 = (IntKind.wrap .i32 ((bxor .i32 2097141 (shrZ .i32 y1049 31)) - (shrZ .i32 y1049 31))) → (-2147483648 ≤ y1054 ∧ y1054 ≤ 2147483647) →
 ∀ y1055 : Int, y1055 = (shrZ .i32 (IntKind.wrap .i32 (y1049 - y1054)) 31) → (-1 ≤ y1055 ∧ y1055 ≤ 0) →
 ∀ y1056 : Int, y1056 = (IntKind.wrap .i32 ((bxor .i32 (shrZ .i32 y1053 9) y1055) - y1055)) → (-2147483648 ≤ y1056 ∧ y1056 ≤ 2147483647) →
 ∀ y1057 : Int, y1057 = (IntKind.wrap .i32 ((IntKind.wrap .i32 (y1045 - y1051)) - y1056)) → (-2147483648 ≤ y1057 ∧ y1057 ≤ 2147483647) →
 ∀ y1058 : Int, y1058 = (shrZ .i32 (IntKind.wrap .i32 (y1045 - y1051)) 9) → (-4194304 ≤ y1058 ∧ y1058 ≤ 4194303) →
 ∀ y1059 : Int, y1059 = (IntKind.wrap .i32 ((bxor .i32 y1058 y1055) - y1055)) → (-2147483648 ≤ y1059 ∧ y1059 ≤ 2147483647) →
 ∀ y1060 : Int, y1060 = (IntKind.wrap .i32 ((bxor .i32 1048575 y1055) - y1055)) → (-2147483648 ≤ y1060 ∧ y1060 ≤ 2147483647) →
 ∀ y1061 : Int, y1061 = (IntKind.wrap .i32 ((IntKind.wrap .i32 (y1049 - y1054)) - y1060)) → (-2147483648 ≤ y1061 ∧ y1061 ≤ 2147483647) →
 ∀ y1062 : Int, y1062 = (shrZ .i32 (IntKind.wrap .i32 (y1053 + y1059)) 10) → (-2097152 ≤ y1062 ∧ y1062 ≤ 2097151) →
 ∀ y1063 : Int, y1063 = (IntKind.wrap .i32 ((bxor .i32 y1062 (shrZ .i32 y1061 31)) - (shrZ .i32 y1061 31))) → (-2147483648 ≤ y1063 ∧ y1063 ≤ 2147483647) →
 ∀ y1064 : Int, y1064 = (IntKind.wrap .i32 ((bxor .i32 (shrZ .i32 y1057 10) (shrZ .i32 y1061 31)) - (shrZ .i32 y1061 31))) → (-2147483648 ≤ y1064 ∧ y1064 ≤ 2147483647) →
 ∀ y1065 : Int, y1065 = (IntKind.wrap .i32 ((IntKind.wrap .i32 (y1053 + y1059)) + y1064)) → (-2147483648 ≤ y1065 ∧ y1065 ≤ 2147483647) →
 ∀ y1066 : Int, y1066 = (IntKind.wrap .i32 ((bxor .i32 524288 (shrZ .i32 y1061 31)) - (shrZ .i32 y1061 31))) → (-2147483648 ≤ y1066 ∧ y1066 ≤ 2147483647) →
 ∀ y1067 : Int, y1067 = (shrZ .i32 (IntKind.wrap .i32 (y1061 - y1066)) 31) → (-1 ≤ y1067 ∧ y1067 ≤ 0) →
 ∀ y1068 : Int, y1068 = (IntKind.wrap .i32 ((bxor .i32 (shrZ .i32 y1065 11) y1067) - y1067)) → (-2147483648 ≤ y1068 ∧ y1068 ≤ 2147483647) →
 ∀ y1069 : Int, y1069 = (IntKind.wrap .i32 ((IntKind.wrap .i32 (y1057 - y1063)) - y1068)) → (-2147483648 ≤ y1069 ∧ y1069 ≤ 2147483647) →
 ∀ y1070 : Int, y1070 = (shrZ .i32 (IntKind.wrap .i32 (y1057 - y1063)) 11) → (-1048576 ≤ y1070 ∧ y1070 ≤ 1048575) →
 ∀ y1071 : Int, y1071 = (IntKind.wrap .i32 ((bxor .i32 y1070 y1067) - y1067)) → (-2147483648 ≤ y1071 ∧ y1071 ≤ 2147483647) →
 ∀ y1072 : Int, y1072 = (IntKind.wrap .i32 ((bxor .i32 262144 y1067) - y1067)) → (-2147483648 ≤ y1072 ∧ y1072 ≤ 2147483647) →
 ∀ y1073 : Int, y1073 = (IntKind.wrap .i32 ((IntKind.wrap .i32 (y1061 - y1066)) - y1072)) → (-2147483648 ≤ y1073 ∧ y1073 ≤ 2147483647) →
 ∀ y1074 : Int, y1074 = (shrZ .i32 (IntKind.wrap .i32 (y1065 + y1071)) 12) → (-524288 ≤ y1074 ∧ y1074 ≤ 524287) →
 ∀ y1075 : Int, y1075 = (IntKind.wrap .i32 ((bxor .i32 y1074 (shrZ .i32 y1073 31)) - (shrZ .i32 y1073 31))) → (-2147483648 ≤ y1075 ∧ y1075 ≤ 2147483647) →
 ∀ y1076 : Int, y1076 = (IntKind.wrap .i32 ((bxor .i32 (shrZ .i32 y1069 12) (shrZ .i32 y1073 31)) - (shrZ .i32 y1073 31))) → (-2147483648 ≤ y1076 ∧ y1076 ≤ 2147483647) →
 ∀ y1077 : Int, y1077 = (IntKind.wrap .i32 ((IntKind.wrap .i32 (y1065 + y1071)) + y1076)) → (-2147483648 ≤ y1077 ∧ y1077 ≤ 2147483647) →
 ∀ y1078 : Int, y1078 = (IntKind.wrap .i32 ((bxor .i32 131072 (shrZ .i32 y1073 31)) - (shrZ .i32 y1073 31))) → (-2147483648 ≤ y1078 ∧ y1078 ≤ 2147483647) →
 ∀ y1079 : Int, y1079 = (shrZ .i32 (IntKind.wrap .i32 (y1073 - y1078)) 31) → (-1 ≤ y1079 ∧ y1079 ≤ 0) →
 ∀ y1080 : Int, y1080 = (IntKind.wrap .i32 ((bxor .i32 (shrZ .i32 y1077 13) y1079) - y1079)) → (-2147483648 ≤ y1080 ∧ y1080 ≤ 2147483647) →
 ∀ y1081 : Int, y1081 = (IntKind.wrap .i32 ((IntKind.wrap .i32 (y1069 - y1075)) - y1080)) → (-2147483648 ≤ y1081 ∧ y1081 ≤ 2147483647) →
 ∀ y1082 : Int, y1082 = (shrZ .i32 (IntKind.wrap .i32 (y1069 - y1075)) 13) → (-262144 ≤ y1082 ∧ y1082 ≤ 262143) →
 ∀ y1083 : Int, y1083 = (IntKind.wrap .i32 ((bxor .i32 y1082 y1079) - y1079)) → (-2147483648 ≤ y1083 ∧ y1083 ≤ 2147483647) →
 ∀ y1084 : Int, y1084 = (IntKind.wrap .i32 ((bxor .i32 65536 y1079) - y1079)) → (-2147483648 ≤ y1084 ∧ y1084 ≤ 2147483647) →
 ∀ y1085 : Int, y1085 = (IntKind.wrap .i32 ((IntKind.wrap .i32 (y1073 - y1078)) - y1084)) → (-2147483648 ≤ y1085 ∧ y1085 ≤ 2147483647) →
 ∀ y1086 : Int, y1086 = (shrZ .i32 (IntKind.wrap .i32 (y1077 + y1083)) 14) → (-131072 ≤ y1086 ∧ y1086 ≤ 131071) →
 ∀ y1087 : Int, y1087 = (IntKind.wrap .i32 ((bxor .i32 y1086 (shrZ .i32 y1085 31)) - (shrZ .i32 y1085 31))) → (-2147483648 ≤ y1087 ∧ y1087 ≤ 2147483647) →
 ∀ y1088 : Int, y1088 = (IntKind.wrap .i32 ((bxor .i32 (shrZ .i32 y1081 14) (shrZ .i32 y1085 31)) - (shrZ .i32 y1085 31))) → (-2147483648 ≤ y1088 ∧ y1088 ≤ 2147483647) →
 ∀ y1089 : Int, y1089 = (IntKind.wrap .i32 ((IntKind.wrap .i32 (y1077 + y1083)) + y1088)) → (-2147483648 ≤ y1089 ∧ y1089 ≤ 2147483647) →
 ∀ y1090 : Int, y1090 = (IntKind.wrap .i32 ((bxor .i32 32768 (shrZ .i32 y1085 31)) - (shrZ .i32 y1085 31))) → (-2147483648 ≤ y1090 ∧ y1090 ≤ 2147483647) →
 ∀ y1091 : Int, y1091 = (shrZ .i32 (IntKind.wrap .i32 (y1085 - y1090)) 31) → (-1 ≤ y1091 ∧ y1091 ≤ 0) →
 ∀ y1092 : Int, y1092 = (IntKind.wrap .i32 ((bxor .i32 (shrZ .i32 y1089 15) y1091) - y1091)) → (-2147483648 ≤ y1092 ∧ y1092 ≤ 2147483647) →
 ∀ y1093 : Int, y1093 = (IntKind.wrap .i32 ((IntKind.wrap .i32 (y1081 - y1087)) - y1092)) → (-2147483648 ≤ y1093 ∧ y1093 ≤ 2147483647) →
 ∀ y1094 : Int, y1094 = (shrZ .i32 (IntKind.wrap .i32 (y1081 - y1087)) 15) → (-65536 ≤ y1094 ∧ y1094 ≤ 65535) →
 ∀ y1095 : Int, y1095 = (IntKind.wrap .i32 ((bxor .i32 y1094 y1091) - y1091)) → (-2147483648 ≤ y1095 ∧ y1095 ≤ 2147483647) →
 ∀ y1096 : Int, y1096 = (IntKind.wrap .i32 ((bxor .i32 16384 y1091) - y1091)) → (-2147483648 ≤ y1096 ∧ y1096 ≤ 2147483647) →
 ∀ y1097 : Int, y1097 = (IntKind.wrap .i32 ((IntKind.wrap .i32 (y1085 - y1090)) - y1096)) → (-2147483648 ≤ y1097 ∧ y1097 ≤ 2147483647) →
 ∀ y1098 : Int, y1098 = (shrZ .i32 (IntKind.wrap .i32 (y1089 + y1095)) 16) → (-32768 ≤ y1098 ∧ y1098 ≤ 32767) →
 ∀ y1099 : Int, y1099 = (IntKind.wrap .i32 ((bxor .i32 y1098 (shrZ .i32 y1097 31)) - (shrZ .i32 y1097 31))) → (-2147483648 ≤ y1099 ∧ y1099 ≤ 2147483647) →
 ∀ y1100 : Int, y1100 = (IntKind.wrap .i32 ((bxor .i32 (shrZ .i32 y1093 16) (shrZ .i32 y1097 31)) - (shrZ .i32 y1097 31))) → (-2147483648 ≤ y1100 ∧ y1100 ≤ 2147483647) →
 ∀ y1101 : Int, y1101 = (IntKind.wrap .i32 ((IntKind.wrap .i32 (y1089 + y1095)) + y1100)) → (-2147483648 ≤ y1101 ∧ y1101 ≤ 2147483647) →
 ∀ y1102 : Int, y1102 = (IntKind.wrap .i32 ((bxor .i32 8192 (shrZ .i32 y1097 31)) - (shrZ .i32 y1097 31))) → (-2147483648 ≤ y1102 ∧ y1102 ≤ 2147483647) →
 ∀ y1103 : Int, y1103 = (shrZ .i32 (IntKind.wrap .i32 (y1097 - y1102)) 31) → (-1 ≤ y1103 ∧ y1103 ≤ 0) →
 ∀ y1104 : Int, y1104 = (IntKind.wrap .i32 ((bxor .i32 (shrZ .i32 y1101 17) y1103) - y1103)) → (-2147483648 ≤ y1104 ∧ y1104 ≤ 2147483647) →
 ∀ y1105 : Int, y1105 = (IntKind.wrap .i32 ((IntKind.wrap .i32 (y1093 - y1099)) - y1104)) → (-2147483648 ≤ y1105 ∧ y1105 ≤ 2147483647) →
 ∀ y1106 : Int, y1106 = (shrZ .i32 (IntKind.wrap .i32 (y1093 - y1099)) 17) → (-16384 ≤ y1106 ∧ y1106 ≤ 16383) →
 ∀ y1107 : Int, y1107 = (IntKind.wrap .i32 ((bxor .i32 y1106 y1103) - y1103)) → (-2147483648 ≤ y1107 ∧ y1107 ≤ 2147483647) →
 ∀ y1108 : Int, y1108 = (IntKind.wrap .i32 ((bxor .i32 4096 y1103) - y1103)) → (-2147483648 ≤ y1108 ∧ y1108 ≤ 2147483647) →
 ∀ y1109 : Int, y1109 = (IntKind.wrap .i32 ((IntKind.wrap .i32 (y1097 - y1102)) - y1108)) → (-2147483648 ≤ y1109 ∧ y1109 ≤ 2147483647) →
 ∀ y1110 : Int, y1110 = (shrZ .i32 (IntKind.wrap .i32 (y1101 + y1107)) 18) → (-8192 ≤ y1110 ∧ y1110 ≤ 8191) →
 ∀ y1111 : Int, y1111 = (IntKind.wrap .i32 ((bxor .i32 y1110 (shrZ .i32 y1109 31)) - (shrZ .i32 y1109 31))) → (-2147483648 ≤ y1111 ∧ y1111 ≤ 2147483647) →
 ∀ y1112 : Int, y1112 = (IntKind.wrap .i32 ((bxor .i32 (shrZ .i32 y1105 18) (shrZ .i32 y1109 31)) - (shrZ .i32 y1109 31))) → (-2147483648 ≤ y1112 ∧ y1112 ≤ 2147483647) →
 ∀ y1113 : Int, y1113 = (IntKind.wrap .i32 ((IntKind.wrap .i32 (y1101 + y1107)) + y1112)) → (-2147483648 ≤ y1113 ∧ y1113 ≤ 2147483647) →
 ∀ y1114 : Int, y1114 = (IntKind.wrap .i32 ((bxor .i32 2048 (shrZ .i32 y1109 31)) - (shrZ .i32 y1109 31))) → (-2147483648 ≤ y1114 ∧ y1114 ≤ 2147483647) →
 ∀ y1115 : Int, y1115 = (shrZ .i32 (IntKind.wrap .i32 (y1109 - y1114)) 31) → (-1 ≤ y1115 ∧ y1115 ≤ 0) →
 ∀ y1116 : Int, y1116 = (IntKind.wrap .i32 ((bxor .i32 (shrZ .i32 y1113 19) y1115) - y1115)) → (-2147483648 ≤ y1116 ∧ y1116 ≤ 2147483647) →
 ∀ y1117 : Int, y1117 = (IntKind.wrap .i32 ((IntKind.wrap .i32 (y1105 - y1111)) - y1116)) → (-2147483648 ≤ y1117 ∧ y1117 ≤ 2147483647) →
 ∀ y1118 : Int, y1118 = (shrZ .i32 (IntKind.wrap .i32 (y1105 - y1111)) 19) → (-4096 ≤ y1118 ∧ y1118 ≤ 4095) →
 ∀ y1119 : Int, y1119 = (IntKind.wrap .i32 ((bxor .i32 y1118 y1115) - y1115)) → (-2147483648 ≤ y1119 ∧ y1119 ≤ 2147483647) →
 ∀ y1120 : Int, y1120 = (IntKind.wrap .i32 ((bxor .i32 1024 y1115) - y1115)) → (-2147483648 ≤ y1120 ∧ y1120 ≤ 2147483647) →
 ∀ y1121 : Int, y1121 = (IntKind.wrap .i32 ((IntKind.wrap .i32 (y1109 - y1114)) - y1120)) → (-2147483648 ≤ y1121 ∧ y1121 ≤ 2147483647) →
 ∀ y1122 : Int, y1122 = (shrZ .i32 (IntKind.wrap .i32 (y1113 + y1119)) 20) → (-2048 ≤ y1122 ∧ y1122 ≤ 2047) →
 ∀ y1123 : Int, y1123 = (IntKind.wrap .i32 ((bxor .i32 y1122 (shrZ .i32 y1121 31)) - (shrZ .i32 y1121 31))) → (-2147483648 ≤ y1123 ∧ y1123 ≤ 2147483647) →
 ∀ y1124 : Int, y1124 = (IntKind.wrap .i32 ((bxor .i32 (shrZ .i32 y1117 20) (shrZ .i32 y1121 31)) - (shrZ .i32 y1121 31))) → (-2147483648 ≤ y1124 ∧ y1124 ≤ 2147483647) →
 ∀ y1125 : Int, y1125 = (IntKind.wrap .i32 ((IntKind.wrap .i32 (y1113 + y1119)) + y1124)) → (-2147483648 ≤ y1125 ∧ y1125 ≤ 2147483647) →
 ∀ y1126 : Int, y1126 = (IntKind.wrap .i32 ((bxor .i32 512 (shrZ .i32 y1121 31)) - (shrZ .i32 y1121 31))) → (-2147483648 ≤ y1126 ∧ y1126 ≤ 2147483647) →
 ∀ y1127 : Int, y1127 = (shrZ .i32 (IntKind.wrap .i32 (y1121 - y1126)) 31) → (-1 ≤ y1127 ∧ y1127 ≤ 0) →
 ∀ y1128 : Int, y1128 = (IntKind.wrap .i32 ((bxor .i32 (shrZ .i32 y1125 21) y1127) - y1127)) → (-2147483648 ≤ y1128 ∧ y1128 ≤ 2147483647) →
 ∀ y1129 : Int, y1129 = (IntKind.wrap .i32 ((IntKind.wrap .i32 (y1117 - y1123)) - y1128)) → (-2147483648 ≤ y1129 ∧ y1129 ≤ 2147483647) →
 ∀ y1130 : Int, y1130 = (shrZ .i32 (IntKind.wrap .i32 (y1117 - y1123)) 21) → (-1024 ≤ y1130 ∧ y1130 ≤ 1023) →
 ∀ y1131 : Int, y1131 = (IntKind.wrap .i32 ((bxor .i32 y1130 y1127) - y1127)) → (-2147483648 ≤ y1131 ∧ y1131 ≤ 2147483647) →
 ∀ y1132 : Int, y1132 = (IntKind.wrap .i32 ((bxor .i32 256 y1127) - y1127)) → (-2147483648 ≤ y1132 ∧ y1132 ≤ 2147483647) →
 ∀ y1133 : Int, y1133 = (IntKind.wrap .i32 ((IntKind.wrap .i32 (y1121 - y1126)) - y1132)) → (-2147483648 ≤ y1133 ∧ y1133 ≤ 2147483647) →
 ∀ y1134 : Int, y1134 = (shrZ .i32 (IntKind.wrap .i32 (y1125 + y1131)) 22) → (-512 ≤ y1134 ∧ y1134 ≤ 511) →
 ∀ y1135 : Int, y1135 = (IntKind.wrap .i32 ((bxor .i32 y1134 (shrZ .i32 y1133 31)) - (shrZ .i32 y1133 31))) → (-2147483648 ≤ y1135 ∧ y1135 ≤ 2147483647) →
 ∀ y1136 : Int, y1136 = (IntKind.wrap .i32 ((bxor .i32 (shrZ .i32 y1129 22) (shrZ .i32 y1133 31)) - (shrZ .i32 y1133 31))) → (-2147483648 ≤ y1136 ∧ y1136 ≤ 2147483647) →
 ∀ y1137 : Int, y1137 = (IntKind.wrap .i32 ((IntKind.wrap .i32 (y1125 + y1131)) + y1136)) → (-2147483648 ≤ y1137 ∧ y1137 ≤ 2147483647) →
 ∀ y1138 : Int, y1138 = (IntKind.wrap .i32 ((bxor .i32 128 (shrZ .i32 y1133 31)) - (shrZ .i32 y1133 31))) → (-2147483648 ≤ y1138 ∧ y1138 ≤ 2147483647) →
 ∀ y1139 : Int, y1139 = (shrZ .i32 (IntKind.wrap .i32 (y1133 - y1138)) 31) → (-1 ≤ y1139 ∧ y1139 ≤ 0) →
 ∀ y1140 : Int, y1140 = (IntKind.wrap .i32 ((bxor .i32 (shrZ .i32 y1137 23) y1139) - y1139)) → (-2147483648 ≤ y1140 ∧ y1140 ≤ 2147483647) →
 ∀ y1141 : Int, y1141 = (IntKind.wrap .i32 ((IntKind.wrap .i32 (y1129 - y1135)) - y1140)) → (-2147483648 ≤ y1141 ∧ y1141 ≤ 2147483647) →
 ∀ y1142 : Int, y1142 = (shrZ .i32 (IntKind.wrap .i32 (y1129 - y1135)) 23) → (-256 ≤ y1142 ∧ y1142 ≤ 255) →
 ∀ y1143 : Int, y1143 = (IntKind.wrap .i32 ((bxor .i32 y1142 y1139) - y1139)) → (-2147483648 ≤ y1143 ∧ y1143 ≤ 2147483647) →
 ∀ y1144 : Int, y1144 = (IntKind.wrap .i32 ((bxor .i32 64 y1139) - y1139)) → (-2147483648 ≤ y1144 ∧ y1144 ≤ 2147483647) →
 ∀ y1145 : Int, y1145 = (IntKind.wrap .i32 ((IntKind.wrap .i32 (y1133 - y1138)) - y1144)) → (-2147483648 ≤ y1145 ∧ y1145 ≤ 2147483647) →
 ∀ y1146 : Int, y1146 = (shrZ .i32 (IntKind.wrap .i32 (y1137 + y1143)) 24) → (-128 ≤ y1146 ∧ y1146 ≤ 127) →
 ∀ y1147 : Int, y1147 = (IntKind.wrap .i32 ((bxor .i32 y1146 (shrZ .i32 y1145 31)) - (shrZ .i32 y1145 31))) → (-2147483648 ≤ y1147 ∧ y1147 ≤ 2147483647) →
 ∀ y1148 : Int, y1148 = (IntKind.wrap .i32 ((bxor .i32 (shrZ .i32 y1141 24) (shrZ .i32 y1145 31)) - (shrZ .i32 y1145 31))) → (-2147483648 ≤ y1148 ∧ y1148 ≤ 2147483647) →
 ∀ y1149 : Int, y1149 = (IntKind.wrap .i32 ((IntKind.wrap .i32 (y1137 + y1143)) + y1148)) → (-2147483648 ≤ y1149 ∧ y1149 ≤ 2147483647) →
 ∀ y1150 : Int, y1150 = (IntKind.wrap .i32 ((bxor .i32 32 (shrZ .i32 y1145 31)) - (shrZ .i32 y1145 31))) → (-2147483648 ≤ y1150 ∧ y1150 ≤ 2147483647) →
 ∀ y1151 : Int, y1151 = (shrZ .i32 (IntKind.wrap .i32 (y1145 - y1150)) 31) → (-1 ≤ y1151 ∧ y1151 ≤ 0) →
 ∀ y1152 : Int, y1152 = (IntKind.wrap .i32 ((bxor .i32 (shrZ .i32 y1149 25) y1151) - y1151)) → (-2147483648 ≤ y1152 ∧ y1152 ≤ 2147483647) →
 ∀ y1153 : Int, y1153 = (IntKind.wrap .i32 ((IntKind.wrap .i32 (y1141 - y1147)) - y1152)) → (-2147483648 ≤ y1153 ∧ y1153 ≤ 2147483647) →
 ∀ y1154 : Int, y1154 = (shrZ .i32 (IntKind.wrap .i32 (y1141 - y1147)) 25) → (-64 ≤ y1154 ∧ y1154 ≤ 63) →
 ∀ y1155 : Int, y1155 = (IntKind.wrap .i32 ((bxor .i32 y1154 y1151) - y1151)) → (-2147483648 ≤ y1155 ∧ y1155 ≤ 2147483647) →
 ∀ y1156 : Int, y1156 = (IntKind.wrap .i32 ((bxor .i32 16 y1151) - y1151)) → (-2147483648 ≤ y1156 ∧ y1156 ≤ 2147483647) →
 ∀ y1157 : Int, y1157 = (IntKind.wrap .i32 ((IntKind.wrap .i32 (y1145 - y1150)) - y1156)) → (-2147483648 ≤ y1157 ∧ y1157 ≤ 2147483647) →
 ∀ y1158 : Int, y1158 = (shrZ .i32 (IntKind.wrap .i32 (y1149 + y1155)) 26) → (-32 ≤ y1158 ∧ y1158 ≤ 31) →
 ∀ y1159 : Int, y1159 = (IntKind.wrap .i32 ((bxor .i32 y1158 (shrZ .i32 y1157 31)) - (shrZ .i32 y1157 31))) → (-2147483648 ≤ y1159 ∧ y1159 ≤ 2147483647) →
 ∀ y1160 : Int, y1160 = (IntKind.wrap .i32 ((bxor .i32 (shrZ .i32 y1153 26) (shrZ .i32 y1157 31)) - (shrZ .i32 y1157 31))) → (-2147483648 ≤ y1160 ∧ y1160 ≤ 2147483647) →
 ∀ y1161 : Int, y1161 = (IntKind.wrap .i32 ((IntKind.wrap .i32 (y1149 + y1155)) + y1160)) → (-2147483648 ≤ y1161 ∧ y1161 ≤ 2147483647) →
 ∀ y1162 : Int, y1162 = (IntKind.wrap .i32 ((bxor .i32 8 (shrZ .i32 y1157 31)) - (shrZ .i32 y1157 31))) → (-2147483648 ≤ y1162 ∧ y1162 ≤ 2147483647) →
 ∀ y1163 : Int, y1163 = (shrZ .i32 (IntKind.wrap .i32 (y1157 - y1162)) 31) → (-1 ≤ y1163 ∧ y1163 ≤ 0) →
 ∀ y1164 : Int, y1164 = (IntKind.wrap .i32 ((bxor .i32 (shrZ .i32 y1161 27) y1163) - y1163)) → (-2147483648 ≤ y1164 ∧ y1164 ≤ 2147483647) →
 ∀ y1165 : Int, y1165 = (IntKind.wrap .i32 ((IntKind.wrap .i32 (y1153 - y1159)) - y1164)) → (-2147483648 ≤ y1165 ∧ y1165 ≤ 2147483647) →
 ∀ y1166 : Int, y1166 = (shrZ .i32 (IntKind.wrap .i32 (y1153 - y1159)) 27) → (-16 ≤ y1166 ∧ y1166 ≤ 15) →
 ∀ y1167 : Int, y1167 = (IntKind.wrap .i32 ((bxor .i32 y1166 y1163) - y1163)) → (-2147483648 ≤ y1167 ∧ y1167 ≤ 2147483647) →
 ∀ y1168 : Int, y1168 = (IntKind.wrap .i32 ((bxor .i32 4 y1163) - y1163)) → (-2147483648 ≤ y1168 ∧ y1168 ≤ 2147483647) →
 ∀ y1169 : Int, y1169 = (IntKind.wrap .i32 ((IntKind.wrap .i32 (y1157 - y1162)) - y1168)) → (-2147483648 ≤ y1169 ∧ y1169 ≤ 2147483647) →
 ∀ y1170 : Int, y1170 = (IntKind.wrap .i32 ((bxor .i32 y1165 y1001) - y1001)) → (-2147483648 ≤ y1170 ∧ y1170 ≤ 2147483647) →
 ∀ y1171 : Int, y1171 = (maxZ a0 (minZ (0 - a0) 2147483647)) → (-2147483647 ≤ y1171 ∧ y1171 ≤ 2147483647) →
 (((bool01 (decide (843314857 < y1171))) ≠ 0 →
  (((bool01 (decide (a0 < 0))) ≠ 0 →
   ∀ y1174 : Int, y1174 = (shrZ .i32 (IntKind.wrap .i32 ((-1686629713) - a0)) 31) → (-1 ≤ y1174 ∧ y1174 ≤ 0) →
   ∀ y1175 : Int, y1175 = (IntKind.wrap .i32 ((bxor .i32 0 y1174) - y1174)) → (-2147483648 ≤ y1175 ∧ y1175 ≤ 2147483647) →
   ∀ y1176 : Int, y1176 = (IntKind.wrap .i32 ((bxor .i32 652032874 y1174) - y1174)) → (-2147483648 ≤ y1176 ∧ y1176 ≤ 2147483647) →
   ∀ y1177 : Int, y1177 = (IntKind.wrap .i32 ((bxor .i32 421657428 y1174) - y1174)) → (-2147483648 ≤ y1177 ∧ y1177 ≤ 2147483647) →
   ∀ y1178 : Int, y1178 = ((IntKind.wrap .i32 ((-1686629713) - a0)) - y1177) → (-4294967295 ≤ y1178 ∧ y1178 ≤ 4294967295) →
   ∀ y1179 : Int, y1179 = (IntKind.wrap .i32 ((bxor .i32 (shrZ .i32 y1176 1) (shrZ .i32 (IntKind.wrap .i32 y1178) 31)) - (shrZ .i32 (IntKind.wrap .i32 y1178) 31))) → (-2147483648 ≤ y1179 ∧ y1179 ≤ 2147483647) →
   ∀ y1180 : Int, y1180 = ((IntKind.wrap .i32 (652032874 - y1175)) - y1179) → (-4294967295 ≤ y1180 ∧ y1180 ≤ 4294967295) →
   ∀ y1181 : Int, y1181 = (shrZ .i32 (IntKind.wrap .i32 (652032874 - y1175)) 1) → (-1073741824 ≤ y1181 ∧ y1181 ≤ 1073741823) →
   ∀ y1182 : Int, y1182 = (IntKind.wrap .i32 ((bxor .i32 y1181 (shrZ .i32 (IntKind.wrap .i32 y1178) 31)) - (shrZ .i32 (IntKind.wrap .i32 y1178) 31))) → (-2147483648 ≤ y1182 ∧ y1182 ≤ 2147483647) →
   ∀ y1183 : Int, y1183 = (IntKind.wrap .i32 ((bxor .i32 248918915 (shrZ .i32 (IntKind.wrap .i32 y1178) 31)) - (shrZ .i32 (IntKind.wrap .i32 y1178) 31))) → (-2147483648 ≤ y1183 ∧ y1183 ≤ 2147483647) →
   ∀ y1184 : Int, y1184 = (IntKind.wrap .i32 ((IntKind.wrap .i32 y1178) - y1183)) → (-2147483648 ≤ y1184 ∧ y1184 ≤ 2147483647) →
   ∀ y1185 : Int, y1185 = (shrZ .i32 (IntKind.wrap .i32 (y1176 + y1182)) 2) → (-536870912 ≤ y1185 ∧ y1185 ≤ 536870911) →
   ∀ y1186 : Int, y1186 = (IntKind.wrap .i32 ((bxor .i32 y1185 (shrZ .i32 y1184 31)) - (shrZ .i32 y1184 31))) → (-2147483648 ≤ y1186 ∧ y1186 ≤ 2147483647) →
   ∀ y1187 : Int, y1187 = (IntKind.wrap .i32 ((IntKind.wrap .i32 y1180) - y1186)) → (-2147483648 ≤ y1187 ∧ y1187 ≤ 2147483647) →
   ∀ y1188 : Int, y1188 = (IntKind.wrap .i32 ((bxor .i32 (shrZ .i32 (IntKind.wrap .i32 y1180) 2) (shrZ .i32 y1184 31)) - (shrZ .i32 y1184 31))) → (-2147483648 ≤ y1188 ∧ y1188 ≤ 2147483647) →
   ∀ y1189 : Int, y1189 = ((IntKind.wrap .i32 (y1176 + y1182)) + y1188) → (-4294967296 ≤ y1189 ∧ y1189 ≤ 4294967294) →
   ∀ y1190 : Int, y1190 = (IntKind.wrap .i32 ((bxor .i32 131521918 (shrZ .i32 y1184 31)) - (shrZ .i32 y1184 31))) → (-2147483648 ≤ y1190 ∧ y1190 ≤ 2147483647) →
   ∀ y1191 : Int, y1191 = (shrZ .i32 (IntKind.wrap .i32 (y1184 - y1190)) 31) → (-1 ≤ y1191 ∧ y1191 ≤ 0) →
   ∀ y1192 : Int, y1192 = (IntKind.wrap .i32 ((bxor .i32 (shrZ .i32 (IntKind.wrap .i32 y1189) 3) y1191) - y1191)) → (-2147483648 ≤ y1192 ∧ y1192 ≤ 2147483647) →
   ∀ y1193 : Int, y1193 = (IntKind.wrap .i32 ((bxor .i32 (shrZ .i32 y1187 3) y1191) - y1191)) → (-2147483648 ≤ y1193 ∧ y1193 ≤ 2147483647) →
   ∀ y1194 : Int, y1194 = (IntKind.wrap .i32 ((IntKind.wrap .i32 y1189) + y1193)) → (-2147483648 ≤ y1194 ∧ y1194 ≤ 2147483647) →
   ∀ y1195 : Int, y1195 = (IntKind.wrap .i32 ((bxor .i32 66762579 y1191) - y1191)) → (-2147483648 ≤ y1195 ∧ y1195 ≤ 2147483647) →
   ∀ y1196 : Int, y1196 = ((IntKind.wrap .i32 (y1184 - y1190)) - y1195) → (-4294967295 ≤ y1196 ∧ y1196 ≤ 4294967295) →
   ∀ y1197 : Int, y1197 = (IntKind.wrap .i32 ((bxor .i32 (shrZ .i32 y1194 4) (shrZ .i32 (IntKind.wrap .i32 y1196) 31)) - (shrZ .i32 (IntKind.wrap .i32 y1196) 31))) → (-2147483648 ≤ y1197 ∧ y1197 ≤ 2147483647) →
   ∀ y1198 : Int, y1198 = ((IntKind.wrap .i32 (y1187 - y1192)) - y1197) → (-4294967295 ≤ y1198 ∧ y1198 ≤ 4294967295) →
   ∀ y1199 : Int, y1199 = (shrZ .i32 (IntKind.wrap .i32 (y1187 - y1192)) 4) → (-134217728 ≤ y1199 ∧ y1199 ≤ 134217727) →
   ∀ y1200 : Int, y1200 = (IntKind.wrap .i32 ((bxor .i32 y1199 (shrZ .i32 (IntKind.wrap .i32 y1196) 31)) - (shrZ .i32 (IntKind.wrap .i32 y1196) 31))) → (-2147483648 ≤ y1200 ∧ y1200 ≤ 2147483647) →
   ∀ y1201 : Int, y1201 = (IntKind.wrap .i32 ((bxor .i32 33510843 (shrZ .i32 (IntKind.wrap .i32 y1196) 31)) - (shrZ .i32 (IntKind.wrap .i32 y1196) 31))) → (-2147483648 ≤ y1201 ∧ y1201 ≤ 2147483647) →
   ∀ y1202 : Int, y1202 = (IntKind.wrap .i32 ((IntKind.wrap .i32 y1196) - y1201)) → (-2147483648 ≤ y1202 ∧ y1202 ≤ 2147483647) →
   ∀ y1203 : Int, y1203 = (shrZ .i32 (IntKind.wrap .i32 (y1194 + y1200)) 5) → (-67108864 ≤ y1203 ∧ y1203 ≤ 67108863) →
   ∀ y1204 : Int, y1204 = (IntKind.wrap .i32 ((bxor .i32 y1203 (shrZ .i32 y1202 31)) - (shrZ .i32 y1202 31))) → (-2147483648 ≤ y1204 ∧ y1204 ≤ 2147483647) →
   ∀ y1205 : Int, y1205 = (IntKind.wrap .i32 ((IntKind.wrap .i32 y1198) - y1204)) → (-2147483648 ≤ y1205 ∧ y1205 ≤ 2147483647) →
   ∀ y1206 : Int, y1206 = (IntKind.wrap .i32 ((bxor .i32 (shrZ .i32 (IntKind.wrap .i32 y1198) 5) (shrZ .i32 y1202 31)) - (shrZ .i32 y1202 31))) → (-2147483648 ≤ y1206 ∧ y1206 ≤ 2147483647) →
   ∀ y1207 : Int, y1207 = ((IntKind.wrap .i32 (y1194 + y1200)) + y1206) → (-4294967296 ≤ y1207 ∧ y1207 ≤ 4294967294) →
   ∀ y1208 : Int, y1208 = (IntKind.wrap .i32 ((bxor .i32 16771758 (shrZ .i32 y1202 31)) - (shrZ .i32 y1202 31))) → (-2147483648 ≤ y1208 ∧ y1208 ≤ 2147483647) →
   ∀ y1209 : Int, y1209 = (shrZ .i32 (IntKind.wrap .i32 (y1202 - y1208)) 31) → (-1 ≤ y1209 ∧ y1209 ≤ 0) →
   ∀ y1210 : Int, y1210 = (IntKind.wrap .i32 ((bxor .i32 (shrZ .i32 (IntKind.wrap .i32 y1207) 6) y1209) - y1209)) → (-2147483648 ≤ y1210 ∧ y1210 ≤ 2147483647) →
   ∀ y1211 : Int, y1211 = (IntKind.wrap .i32 ((bxor .i32 (shrZ .i32 y1205 6) y1209) - y1209)) → (-2147483648 ≤ y1211 ∧ y1211 ≤ 2147483647) →
   ∀ y1212 : Int, y1212 = (IntKind.wrap .i32 ((IntKind.wrap .i32 y1207) + y1211)) → (-2147483648 ≤ y1212 ∧ y1212 ≤ 2147483647) →
   ∀ y1213 : Int, y1213 = (IntKind.wrap .i32 ((bxor .i32 8387925 y1209) - y1209)) → (-2147483648 ≤ y1213 ∧ y1213 ≤ 2147483647) →
   ∀ y1214 : Int, y1214 = ((IntKind.wrap .i32 (y1202 - y1208)) - y1213) → (-4294967295 ≤ y1214 ∧ y1214 ≤ 4294967295) →
   ∀ y1215 : Int, y1215 = (IntKind.wrap .i32 ((bxor .i32 (shrZ .i32 y1212 7) (shrZ .i32 (IntKind.wrap .i32 y1214) 31)) - (shrZ .i32 (IntKind.wrap .i32 y1214) 31))) → (-2147483648 ≤ y1215 ∧ y1215 ≤ 2147483647) →
   ∀ y1216 : Int, y1216 = ((IntKind.wrap .i32 (y1205 - y1210)) - y1215) → (-4294967295 ≤ y1216 ∧ y1216 ≤ 4294967295) →
   ∀ y1217 : Int, y1217 = (shrZ .i32 (IntKind.wrap .i32 (y1205 - y1210)) 7) → (-16777216 ≤ y1217 ∧ y1217 ≤ 16777215) →
   ∀ y1218 : Int, y1218 = (IntKind.wrap .i32 ((bxor .i32 y1217 (shrZ .i32 (IntKind.wrap .i32 y1214) 31)) - (shrZ .i32 (IntKind.wrap .i32 y1214) 31))) → (-2147483648 ≤ y1218 ∧ y1218 ≤ 2147483647) →
   ∀ y1219 : Int, y1219 = (IntKind.wrap .i32 ((bxor .i32 4194219 (shrZ .i32 (IntKind.wrap .i32 y1214) 31)) - (shrZ .i32 (IntKind.wrap .i32 y1214) 31))) → (-2147483648 ≤ y1219 ∧ y1219 ≤ 2147483647) →
   ∀ y1220 : Int, y1220 = (IntKind.wrap .i32 ((IntKind.wrap .i32 y1214) - y1219)) → (-2147483648 ≤ y1220 ∧ y1220 ≤ 2147483647) →
   ∀ y1221 : Int, y1221 = (shrZ .i32 (IntKind.wrap .i32 (y1212 + y1218)) 8) → (-8388608 ≤ y1221 ∧ y1221 ≤ 8388607) →
   ∀ y1222 : Int, y1222 = (IntKind.wrap .i32 ((bxor .i32 y1221 (shrZ .i32 y1220 31)) - (shrZ .i32 y1220 31))) → (-2147483648 ≤ y1222 ∧ y1222 ≤ 2147483647) →
   ∀ y1223 : Int, y1223 = (IntKind.wrap .i32 ((IntKind.wrap .i32 y1216) - y1222)) → (-2147483648 ≤ y1223 ∧ y1223 ≤ 2147483647) →
   ∀ y1224 : Int, y1224 = (IntKind.wrap .i32 ((bxor .i32 (shrZ .i32 (IntKind.wrap .i32 y1216) 8) (shrZ .i32 y1220 31)) - (shrZ .i32 y1220 31))) → (-2147483648 ≤ y1224 ∧ y1224 ≤ 2147483647) →
   ∀ y1225 : Int, y1225 = ((IntKind.wrap .i32 (y1212 + y1218)) + y1224) → (-4294967296 ≤ y1225 ∧ y1225 ≤ 4294967294) →
   ∀ y1226 : Int, y1226 = (IntKind.wrap .i32 ((bxor .i32 2097141 (shrZ .i32 y1220 31)) - (shrZ .i32 y1220 31))) → (-2147483648 ≤ y1226 ∧ y1226 ≤ 2147483647) →
   ∀ y1227 : Int, y1227 = (shrZ .i32 (IntKind.wrap .i32 (y1220 - y1226)) 31) → (-1 ≤ y1227 ∧ y1227 ≤ 0) →
   ∀ y1228 : Int, y1228 = (IntKind.wrap .i32 ((bxor .i32 (shrZ .i32 (IntKind.wrap .i32 y1225) 9) y1227) - y1227)) → (-2147483648 ≤ y1228 ∧ y1228 ≤ 2147483647) →
   ∀ y1229 : Int, y1229 = (IntKind.wrap .i32 ((bxor .i32 (shrZ .i32 y1223 9) y1227) - y1227)) → (-2147483648 ≤ y1229 ∧ y1229 ≤ 2147483647) →
   ∀ y1230 : Int, y1230 = (IntKind.wrap .i32 ((IntKind.wrap .i32 y1225) + y1229)) → (-2147483648 ≤ y1230 ∧ y1230 ≤ 2147483647) →
   ∀ y1231 : Int, y1231 = (IntKind.wrap .i32 ((bxor .i32 1048575 y1227) - y1227)) → (-2147483648 ≤ y1231 ∧ y1231 ≤ 2147483647) →
   ∀ y1232 : Int, y1232 = ((IntKind.wrap .i32 (y1220 - y1226)) - y1231) → (-4294967295 ≤ y1232 ∧ y1232 ≤ 4294967295) →
   ∀ y1233 : Int, y1233 = (IntKind.wrap .i32 ((bxor .i32 (shrZ .i32 y1230 10) (shrZ .i32 (IntKind.wrap .i32 y1232) 31)) - (shrZ .i32 (IntKind.wrap .i32 y1232) 31))) → (-2147483648 ≤ y1233 ∧ y1233 ≤ 2147483647) →
   ∀ y1234 : Int, y1234 = ((IntKind.wrap .i32 (y1223 - y1228)) - y1233) → (-4294967295 ≤ y1234 ∧ y1234 ≤ 4294967295) →
   ∀ y1235 : Int, y1235 = (shrZ .i32 (IntKind.wrap .i32 (y1223 - y1228)) 10) → (-2097152 ≤ y1235 ∧ y1235 ≤ 2097151) →
   ∀ y1236 : Int, y1236 = (IntKind.wrap .i32 ((bxor .i32 y1235 (shrZ .i32 (IntKind.wrap .i32 y1232) 31)) - (shrZ .i32 (IntKind.wrap .i32 y1232) 31))) → (-2147483648 ≤ y1236 ∧ y1236 ≤ 2147483647) →
   ∀ y1237 : Int, y1237 = (IntKind.wrap .i32 ((bxor .i32 524288 (shrZ .i32 (IntKind.wrap .i32 y1232) 31)) - (shrZ .i32 (IntKind.wrap .i32 y1232) 31))) → (-2147483648 ≤ y1237 ∧ y1237 ≤ 2147483647) →
   ∀ y1238 : Int, y1238 = (IntKind.wrap .i32 ((IntKind.wrap .i32 y1232) - y1237)) → (-2147483648 ≤ y1238 ∧ y1238 ≤ 2147483647) →
   ∀ y1239 : Int, y1239 = (shrZ .i32 (IntKind.wrap .i32 (y1230 + y1236)) 11) → (-1048576 ≤ y1239 ∧ y1239 ≤ 1048575) →
   ∀ y1240 : Int, y1240 = (IntKind.wrap .i32 ((bxor .i32 y1239 (shrZ .i32 y1238 31)) - (shrZ .i32 y1238 31))) → (-2147483648 ≤ y1240 ∧ y1240 ≤ 2147483647) →
   ∀ y1241 : Int, y1241 = (IntKind.wrap .i32 ((IntKind.wrap .i32 y1234) - y1240)) → (-2147483648 ≤ y1241 ∧ y1241 ≤ 2147483647) →
   ∀ y1242 : Int, y1242 = (IntKind.wrap .i32 ((bxor .i32 (shrZ .i32 (IntKind.wrap .i32 y1234) 11) (shrZ .i32 y1238 31)) - (shrZ .i32 y1238 31))) → (-2147483648 ≤ y1242 ∧ y1242 ≤ 2147483647) →
   ∀ y1243 : Int, y1243 = ((IntKind.wrap .i32 (y1230 + y1236)) + y1242) → (-4294967296 ≤ y1243 ∧ y1243 ≤ 4294967294) →
   ∀ y1244 : Int, y1244 = (IntKind.wrap .i32 ((bxor .i32 262144 (shrZ .i32 y1238 31)) - (shrZ .i32 y1238 31))) → (-2147483648 ≤ y1244 ∧ y1244 ≤ 2147483647) →
   ∀ y1245 : Int, y1245 = (shrZ .i32 (IntKind.wrap .i32 (y1238 - y1244)) 31) → (-1 ≤ y1245 ∧ y1245 ≤ 0) →
   ∀ y1246 : Int, y1246 = (IntKind.wrap .i32 ((bxor .i32 (shrZ .i32 (IntKind.wrap .i32 y1243) 12) y1245) - y1245)) → (-2147483648 ≤ y1246 ∧ y1246 ≤ 2147483647) →
   ∀ y1247 : Int, y1247 = (IntKind.wrap .i32 ((bxor .i32 (shrZ .i32 y1241 12) y1245) - y1245)) → (-2147483648 ≤ y1247 ∧ y1247 ≤ 2147483647) →
   ∀ y1248 : Int, y1248 = (IntKind.wrap .i32 ((IntKind.wrap .i32 y1243) + y1247)) → (-2147483648 ≤ y1248 ∧ y1248 ≤ 2147483647) →
   ∀ y1249 : Int, y1249 = (IntKind.wrap .i32 ((bxor .i32 131072 y1245) - y1245)) → (-2147483648 ≤ y1249 ∧ y1249 ≤ 2147483647) →
   ∀ y1250 : Int, y1250 = ((IntKind.wrap .i32 (y1238 - y1244)) - y1249) → (-4294967295 ≤ y1250 ∧ y1250 ≤ 4294967295) →
   ∀ y1251 : Int, y1251 = (IntKind.wrap .i32 ((bxor .i32 (shrZ .i32 y1248 13) (shrZ .i32 (IntKind.wrap .i32 y1250) 31)) - (shrZ .i32 (IntKind.wrap .i32 y1250) 31))) → (-2147483648 ≤ y1251 ∧ y1251 ≤ 2147483647) →
   ∀ y1252 : Int, y1252 = ((IntKind.wrap .i32 (y1241 - y1246)) - y1251) → (-4294967295 ≤ y1252 ∧ y1252 ≤ 4294967295) →
   ∀ y1253 : Int, y1253 = (shrZ .i32 (IntKind.wrap .i32 (y1241 - y1246)) 13) → (-262144 ≤ y1253 ∧ y1253 ≤ 262143) →
   ∀ y1254 : Int, y1254 = (IntKind.wrap .i32 ((bxor .i32 y1253 (shrZ .i32 (IntKind.wrap .i32 y1250) 31)) - (shrZ .i32 (IntKind.wrap .i32 y1250) 31))) → (-2147483648 ≤ y1254 ∧ y1254 ≤ 2147483647) →
   ∀ y1255 : Int, y1255 = (IntKind.wrap .i32 ((bxor .i32 65536 (shrZ .i32 (IntKind.wrap .i32 y1250) 31)) - (shrZ .i32 (IntKind.wrap .i32 y1250) 31))) → (-2147483648 ≤ y1255 ∧ y1255 ≤ 2147483647) →
   ∀ y1256 : Int, y1256 = (IntKind.wrap .i32 ((IntKind.wrap .i32 y1250) - y1255)) → (-2147483648 ≤ y1256 ∧ y1256 ≤ 2147483647) →
   ∀ y1257 : Int, y1257 = (shrZ .i32 (IntKind.wrap .i32 (y1248 + y1254)) 14) → (-131072 ≤ y1257 ∧ y1257 ≤ 131071) →
   ∀ y1258 : Int, y1258 = (IntKind.wrap .i32 ((bxor .i32 y1257 (shrZ .i32 y1256 31)) - (shrZ .i32 y1256 31))) → (-2147483648 ≤ y1258 ∧ y1258 ≤ 2147483647) →
   ∀ y1259 : Int, y1259 = (IntKind.wrap .i32 ((IntKind.wrap .i32 y1252) - y1258)) → (-2147483648 ≤ y1259 ∧ y1259 ≤ 2147483647) →
   ∀ y1260 : Int, y1260 = (IntKind.wrap .i32 ((bxor .i32 (shrZ .i32 (IntKind.wrap .i32 y1252) 14) (shrZ .i32 y1256 31)) - (shrZ .i32 y1256 31))) → (-2147483648 ≤ y1260 ∧ y1260 ≤ 2147483647) →
   ∀ y1261 : Int, y1261 = ((IntKind.wrap .i32 (y1248 + y1254)) + y1260) → (-4294967296 ≤ y1261 ∧ y1261 ≤ 4294967294) →
   ∀ y1262 : Int, y1262 = (IntKind.wrap .i32 ((bxor .i32 32768 (shrZ .i32 y1256 31)) - (shrZ .i32 y1256 31))) → (-2147483648 ≤ y1262 ∧ y1262 ≤ 2147483647) →
   ∀ y1263 : Int, y1263 = (shrZ .i32 (IntKind.wrap .i32 (y1256 - y1262)) 31) → (-1 ≤ y1263 ∧ y1263 ≤ 0) →
   ∀ y1264 : Int, y1264 = (IntKind.wrap .i32 ((bxor .i32 (shrZ .i32 (IntKind.wrap .i32 y1261) 15) y1263) - y1263)) → (-2147483648 ≤ y1264 ∧ y1264 ≤ 2147483647) →
   ∀ y1265 : Int, y1265 = (IntKind.wrap .i32 ((bxor .i32 (shrZ .i32 y1259 15) y1263) - y1263)) → (-2147483648 ≤ y1265 ∧ y1265 ≤ 2147483647) →
   ∀ y1266 : Int, y1266 = (IntKind.wrap .i32 ((IntKind.wrap .i32 y1261) + y1265)) → (-2147483648 ≤ y1266 ∧ y1266 ≤ 2147483647) →
   ∀ y1267 : Int, y1267 = (IntKind.wrap .i32 ((bxor .i32 16384 y1263) - y1263)) → (-2147483648 ≤ y1267 ∧ y1267 ≤ 2147483647) →
   ∀ y1268 : Int, y1268 = ((IntKind.wrap .i32 (y1256 - y1262)) - y1267) → (-4294967295 ≤ y1268 ∧ y1268 ≤ 4294967295) →
   ∀ y1269 : Int, y1269 = (IntKind.wrap .i32 ((bxor .i32 (shrZ .i32 y1266 16) (shrZ .i32 (IntKind.wrap .i32 y1268) 31)) - (shrZ .i32 (IntKind.wrap .i32 y1268) 31))) → (-2147483648 ≤ y1269 ∧ y1269 ≤ 2147483647) →
   ∀ y1270 : Int, y1270 = ((IntKind.wrap .i32 (y1259 - y1264)) - y1269) → (-4294967295 ≤ y1270 ∧ y1270 ≤ 4294967295) →
   ∀ y1271 : Int, y1271 = (shrZ .i32 (IntKind.wrap .i32 (y1259 - y1264)) 16) → (-32768 ≤ y1271 ∧ y1271 ≤ 32767) →
   ∀ y1272 : Int, y1272 = (IntKind.wrap .i32 ((bxor .i32 y1271 (shrZ .i32 (IntKind.wrap .i32 y1268) 31)) - (shrZ .i32 (IntKind.wrap .i32 y1268) 31))) → (-2147483648 ≤ y1272 ∧ y1272 ≤ 2147483647) →
   ∀ y1273 : Int, y1273 = (IntKind.wrap .i32 ((bxor .i32 8192 (shrZ .i32 (IntKind.wrap .i32 y1268) 31)) - (shrZ .i32 (IntKind.wrap .i32 y1268) 31))) → (-2147483648 ≤ y1273 ∧ y1273 ≤ 2147483647) →
   ∀ y1274 : Int, y1274 = (IntKind.wrap .i32 ((IntKind.wrap .i32 y1268) - y1273)) → (-2147483648 ≤ y1274 ∧ y1274 ≤ 2147483647) →
   ∀ y1275 : Int, y1275 = (shrZ .i32 (IntKind.wrap .i32 (y1266 + y1272)) 17) → (-16384 ≤ y1275 ∧ y1275 ≤ 16383) →
   ∀ y1276 : Int, y1276 = (IntKind.wrap .i32 ((bxor .i32 y1275 (shrZ .i32 y1274 31)) - (shrZ .i32 y1274 31))) → (-2147483648 ≤ y1276 ∧ y1276 ≤ 2147483647) →
   ∀ y1277 : Int, y1277 = (IntKind.wrap .i32 ((IntKind.wrap .i32 y1270) - y1276)) → (-2147483648 ≤ y1277 ∧ y1277 ≤ 2147483647) →
   ∀ y1278 : Int, y1278 = (IntKind.wrap .i32 ((bxor .i32 (shrZ .i32 (IntKind.wrap .i32 y1270) 17) (shrZ .i32 y1274 31)) - (shrZ .i32 y1274 31))) → (-2147483648 ≤ y1278 ∧ y1278 ≤ 2147483647) →
   ∀ y1279 : Int, y1279 = ((IntKind.wrap .i32 (y1266 + y1272)) + y1278) → (-4294967296 ≤ y1279 ∧ y1279 ≤ 4294967294) →
   ∀ y1280 : Int, y1280 = (IntKind.wrap .i32 ((bxor .i32 4096 (shrZ .i32 y1274 31)) - (shrZ .i32 y1274 31))) → (-2147483648 ≤ y1280 ∧ y1280 ≤ 2147483647) →
   ∀ y1281 : Int, y1281 = (shrZ .i32 (IntKind.wrap .i32 (y1274 - y1280)) 31) → (-1 ≤ y1281 ∧ y1281 ≤ 0) →
   ∀ y1282 : Int, y1282 = (IntKind.wrap .i32 ((bxor .i32 (shrZ .i32 (IntKind.wrap .i32 y1279) 18) y1281) - y1281)) → (-2147483648 ≤ y1282 ∧ y1282 ≤ 2147483647) →
   ∀ y1283 : Int, y1283 = (IntKind.wrap .i32 ((bxor .i32 (shrZ .i32 y1277 18) y1281) - y1281)) → (-2147483648 ≤ y1283 ∧ y1283 ≤ 2147483647) →
   ∀ y1284 : Int, y1284 = (IntKind.wrap .i32 ((IntKind.wrap .i32 y1279) + y1283)) → (-2147483648 ≤ y1284 ∧ y1284 ≤ 2147483647) →
   ∀ y1285 : Int, y1285 = (IntKind.wrap .i32 ((bxor .i32 2048 y1281) - y1281)) → (-2147483648 ≤ y1285 ∧ y1285 ≤ 2147483647) →
   ∀ y1286 : Int, y1286 = ((IntKind.wrap .i32 (y1274 - y1280)) - y1285) → (-4294967295 ≤ y1286 ∧ y1286 ≤ 4294967295) →
   ∀ y1287 : Int, y1287 = (IntKind.wrap .i32 ((bxor .i32 (shrZ .i32 y1284 19) (shrZ .i32 (IntKind.wrap .i32 y1286) 31)) - (shrZ .i32 (IntKind.wrap .i32 y1286) 31))) → (-2147483648 ≤ y1287 ∧ y1287 ≤ 2147483647) →
   ∀ y1288 : Int, y1288 = ((IntKind.wrap .i32 (y1277 - y1282)) - y1287) → (-4294967295 ≤ y1288 ∧ y1288 ≤ 4294967295) →
   ∀ y1289 : Int, y1289 = (shrZ .i32 (IntKind.wrap .i32 (y1277 - y1282)) 19) → (-4096 ≤ y1289 ∧ y1289 ≤ 4095) →
   ∀ y1290 : Int, y1290 = (IntKind.wrap .i32 ((bxor .i32 y1289 (shrZ .i32 (IntKind.wrap .i32 y1286) 31)) - (shrZ .i32 (IntKind.wrap .i32 y1286) 31))) → (-2147483648 ≤ y1290 ∧ y1290 ≤ 2147483647) →
   ∀ y1291 : Int, y1291 = (IntKind.wrap .i32 ((bxor .i32 1024 (shrZ .i32 (IntKind.wrap .i32 y1286) 31)) - (shrZ .i32 (IntKind.wrap .i32 y1286) 31))) → (-2147483648 ≤ y1291 ∧ y1291 ≤ 2147483647) →
   ∀ y1292 : Int, y1292 = (IntKind.wrap .i32 ((IntKind.wrap .i32 y1286) - y1291)) → (-2147483648 ≤ y1292 ∧ y1292 ≤ 2147483647) →
   ∀ y1293 : Int, y1293 = (shrZ .i32 (IntKind.wrap .i32 (y1284 + y1290)) 20) → (-2048 ≤ y1293 ∧ y1293 ≤ 2047) →
   ∀ y1294 : Int, y1294 = (IntKind.wrap .i32 ((bxor .i32 y1293 (shrZ .i32 y1292 31)) - (shrZ .i32 y1292 31))) → (-2147483648 ≤ y1294 ∧ y1294 ≤ 2147483647) →
   ∀ y1295 : Int, y1295 = (IntKind.wrap .i32 ((IntKind.wrap .i32 y1288) - y1294)) → (-2147483648 ≤ y1295 ∧ y1295 ≤ 2147483647) →
   ∀ y1296 : Int, y1296 = (IntKind.wrap .i32 ((bxor .i32 (shrZ .i32 (IntKind.wrap .i32 y1288) 20) (shrZ .i32 y1292 31)) - (shrZ .i32 y1292 31))) → (-2147483648 ≤ y1296 ∧ y1296 ≤ 2147483647) →
   ∀ y1297 : Int, y1297 = ((IntKind.wrap .i32 (y1284 + y1290)) + y1296) → (-4294967296 ≤ y1297 ∧ y1297 ≤ 4294967294) →
   ∀ y1298 : Int, y1298 = (IntKind.wrap .i32 ((bxor .i32 512 (shrZ .i32 y1292 31)) - (shrZ .i32 y1292 31))) → (-2147483648 ≤ y1298 ∧ y1298 ≤ 2147483647) →
   ∀ y1299 : Int, y1299 = (shrZ .i32 (IntKind.wrap .i32 (y1292 - y1298)) 31) → (-1 ≤ y1299 ∧ y1299 ≤ 0) →
   ∀ y1300 : Int, y1300 = (IntKind.wrap .i32 ((bxor .i32 (shrZ .i32 (IntKind.wrap .i32 y1297) 21) y1299) - y1299)) → (-2147483648 ≤ y1300 ∧ y1300 ≤ 2147483647) →
   ∀ y1301 : Int, y1301 = (IntKind.wrap .i32 ((bxor .i32 (shrZ .i32 y1295 21) y1299) - y1299)) → (-2147483648 ≤ y1301 ∧ y1301 ≤ 2147483647) →
   ∀ y1302 : Int, y1302 = (IntKind.wrap .i32 ((IntKind.wrap .i32 y1297) + y1301)) → (-2147483648 ≤ y1302 ∧ y1302 ≤ 2147483647) →
   ∀ y1303 : Int, y1303 = (IntKind.wrap .i32 ((bxor .i32 256 y1299) - y1299)) → (-2147483648 ≤ y1303 ∧ y1303 ≤ 2147483647) →
   ∀ y1304 : Int, y1304 = ((IntKind.wrap .i32 (y1292 - y1298)) - y1303) → (-4294967295 ≤ y1304 ∧ y1304 ≤ 4294967295) →
   ∀ y1305 : Int, y1305 = (IntKind.wrap .i32 ((bxor .i32 (shrZ .i32 y1302 22) (shrZ .i32 (IntKind.wrap .i32 y1304) 31)) - (shrZ .i32 (IntKind.wrap .i32 y1304) 31))) → (-2147483648 ≤ y1305 ∧ y1305 ≤ 2147483647) →
   ∀ y1306 : Int, y1306 = ((IntKind.wrap .i32 (y1295 - y1300)) - y1305) → (-4294967295 ≤ y1306 ∧ y1306 ≤ 4294967295) →
   ∀ y1307 : Int, y1307 = (shrZ .i32 (IntKind.wrap .i32 (y1295 - y1300)) 22) → (-512 ≤ y1307 ∧ y1307 ≤ 511) →
   ∀ y1308 : Int, y1308 = (IntKind.wrap .i32 ((bxor .i32 y1307 (shrZ .i32 (IntKind.wrap .i32 y1304) 31)) - (shrZ .i32 (IntKind.wrap .i32 y1304) 31))) → (-2147483648 ≤ y1308 ∧ y1308 ≤ 2147483647) →
   ∀ y1309 : Int, y1309 = (IntKind.wrap .i32 ((bxor .i32 128 (shrZ .i32 (IntKind.wrap .i32 y1304) 31)) - (shrZ .i32 (IntKind.wrap .i32 y1304) 31))) → (-2147483648 ≤ y1309 ∧ y1309 ≤ 2147483647) →
   ∀ y1310 : Int, y1310 = (IntKind.wrap .i32 ((IntKind.wrap .i32 y1304) - y1309)) → (-2147483648 ≤ y1310 ∧ y1310 ≤ 2147483647) →
   ∀ y1311 : Int, y1311 = (shrZ .i32 (IntKind.wrap .i32 (y1302 + y1308)) 23) → (-256 ≤ y1311 ∧ y1311 ≤ 255) →
   ∀ y1312 : Int, y1312 = (IntKind.wrap .i32 ((bxor .i32 y1311 (shrZ .i32 y1310 31)) - (shrZ .i32 y1310 31))) → (-2147483648 ≤ y1312 ∧ y1312 ≤ 2147483647) →
   ∀ y1313 : Int, y1313 = (IntKind.wrap .i32 ((IntKind.wrap .i32 y1306) - y1312)) → (-2147483648 ≤ y1313 ∧ y1313 ≤ 2147483647) →
   ∀ y1314 : Int, y1314 = (IntKind.wrap .i32 ((bxor .i32 (shrZ .i32 (IntKind.wrap .i32 y1306) 23) (shrZ .i32 y1310 31)) - (shrZ .i32 y1310 31))) → (-2147483648 ≤ y1314 ∧ y1314 ≤ 2147483647) →
   ∀ y1315 : Int, y1315 = ((IntKind.wrap .i32 (y1302 + y1308)) + y1314) → (-4294967296 ≤ y1315 ∧ y1315 ≤ 4294967294) →
   ∀ y1316 : Int, y1316 = (IntKind.wrap .i32 ((bxor .i32 64 (shrZ .i32 y1310 31)) - (shrZ .i32 y1310 31))) → (-2147483648 ≤ y1316 ∧ y1316 ≤ 2147483647) →
   ∀ y1317 : Int, y1317 = (shrZ .i32 (IntKind.wrap .i32 (y1310 - y1316)) 31) → (-1 ≤ y1317 ∧ y1317 ≤ 0) →
   ∀ y1318 : Int, y1318 = (IntKind.wrap .i32 ((bxor .i32 (shrZ .i32 (IntKind.wrap .i32 y1315) 24) y1317) - y1317)) → (-2147483648 ≤ y1318 ∧ y1318 ≤ 2147483647) →
   ∀ y1319 : Int, y1319 = (IntKind.wrap .i32 ((bxor .i32 (shrZ .i32 y1313 24) y1317) - y1317)) → (-2147483648 ≤ y1319 ∧ y1319 ≤ 2147483647) →
   ∀ y1320 : Int, y1320 = (IntKind.wrap .i32 ((IntKind.wrap .i32 y1315) + y1319)) → (-2147483648 ≤ y1320 ∧ y1320 ≤ 2147483647) →
   ∀ y1321 : Int, y1321 = (IntKind.wrap .i32 ((bxor .i32 32 y1317) - y1317)) → (-2147483648 ≤ y1321 ∧ y1321 ≤ 2147483647) →
   ∀ y1322 : Int, y1322 = ((IntKind.wrap .i32 (y1310 - y1316)) - y1321) → (-4294967295 ≤ y1322 ∧ y1322 ≤ 4294967295) →
   ∀ y1323 : Int, y1323 = (IntKind.wrap .i32 ((bxor .i32 (shrZ .i32 y1320 25) (shrZ .i32 (IntKind.wrap .i32 y1322) 31)) - (shrZ .i32 (IntKind.wrap .i32 y1322) 31))) → (-2147483648 ≤ y1323 ∧ y1323 ≤ 2147483647) →
   ∀ y1324 : Int, y1324 = ((IntKind.wrap .i32 (y1313 - y1318)) - y1323) → (-4294967295 ≤ y1324 ∧ y1324 ≤ 4294967295) →
   ∀ y1325 : Int, y1325 = (shrZ .i32 (IntKind.wrap .i32 (y1313 - y1318)) 25) → (-64 ≤ y1325 ∧ y1325 ≤ 63) →
   ∀ y1326 : Int, y1326 = (IntKind.wrap .i32 ((bxor .i32 y1325 (shrZ .i32 (IntKind.wrap .i32 y1322) 31)) - (shrZ .i32 (IntKind.wrap .i32 y1322) 31))) → (-2147483648 ≤ y1326 ∧ y1326 ≤ 2147483647) →
   ∀ y1327 : Int, y1327 = (IntKind.wrap .i32 ((bxor .i32 16 (shrZ .i32 (IntKind.wrap .i32 y1322) 31)) - (shrZ .i32 (IntKind.wrap .i32 y1322) 31))) → (-2147483648 ≤ y1327 ∧ y1327 ≤ 2147483647) →
   ∀ y1328 : Int, y1328 = (IntKind.wrap .i32 ((IntKind.wrap .i32 y1322) - y1327)) → (-2147483648 ≤ y1328 ∧ y1328 ≤ 2147483647) →
   ∀ y1329 : Int, y1329 = (shrZ .i32 (IntKind.wrap .i32 (y1320 + y1326)) 26) → (-32 ≤ y1329 ∧ y1329 ≤ 31) →
   ∀ y1330 : Int, y1330 = (IntKind.wrap .i32 ((bxor .i32 y1329 (shrZ .i32 y1328 31)) - (shrZ .i32 y1328 31))) → (-2147483648 ≤ y1330 ∧ y1330 ≤ 2147483647) →
   ∀ y1331 : Int, y1331 = (IntKind.wrap .i32 ((IntKind.wrap .i32 y1324) - y1330)) → (-2147483648 ≤ y1331 ∧ y1331 ≤ 2147483647) →
   ∀ y1332 : Int, y1332 = (IntKind.wrap .i32 ((bxor .i32 (shrZ .i32 (IntKind.wrap .i32 y1324) 26) (shrZ .i32 y1328 31)) - (shrZ .i32 y1328 31))) → (-2147483648 ≤ y1332 ∧ y1332 ≤ 2147483647) →
   ∀ y1333 : Int, y1333 = ((IntKind.wrap .i32 (y1320 + y1326)) + y1332) → (-4294967296 ≤ y1333 ∧ y1333 ≤ 4294967294) →
   ∀ y1334 : Int, y1334 = (IntKind.wrap .i32 ((bxor .i32 8 (shrZ .i32 y1328 31)) - (shrZ .i32 y1328 31))) → (-2147483648 ≤ y1334 ∧ y1334 ≤ 2147483647) →
   ∀ y1335 : Int, y1335 = (shrZ .i32 (IntKind.wrap .i32 (y1328 - y1334)) 31) → (-1 ≤ y1335 ∧ y1335 ≤ 0) →
   ∀ y1336 : Int, y1336 = (IntKind.wrap .i32 ((bxor .i32 (shrZ .i32 (IntKind.wrap .i32 y1333) 27) y1335) - y1335)) → (-2147483648 ≤ y1336 ∧ y1336 ≤ 2147483647) →
   ∀ y1337 : Int, y1337 = (IntKind.wrap .i32 ((bxor .i32 (shrZ .i32 y1331 27) y1335) - y1335)) → (-2147483648 ≤ y1337 ∧ y1337 ≤ 2147483647) →
   ∀ y1338 : Int, y1338 = (IntKind.wrap .i32 ((IntKind.wrap .i32 y1333) + y1337)) → (-2147483648 ≤ y1338 ∧ y1338 ≤ 2147483647) →
   ∀ y1339 : Int, y1339 = (IntKind.wrap .i32 ((bxor .i32 4 y1335) - y1335)) → (-2147483648 ≤ y1339 ∧ y1339 ≤ 2147483647) →
   ∀ y1340 : Int, y1340 = ((IntKind.wrap .i32 (y1328 - y1334)) - y1339) → (-4294967295 ≤ y1340 ∧ y1340 ≤ 4294967295) →
   ∀ y1341 : Int, y1341 = (0 - (IntKind.wrap .i32 (y1331 - y1336))) → (-2147483647 ≤ y1341 ∧ y1341 ≤ 2147483648) →
   (((bool01 ((IntKind.wrap .i32 (y1161 + y1167)) == y1338)) ≠ 0 →
    (((bool01 (y1170 == (IntKind.wrap .i32 y1341))) ≠ 0 →
     (1 : Int) ≠ 0) ∧ ((bool01 (y1170 == (IntKind.wrap .i32 y1341))) = 0 →
     (0 : Int) ≠ 0))) ∧ ((bool01 ((IntKind.wrap .i32 (y1161 + y1167)) == y1338)) = 0 →
    (0 : Int) ≠ 0))) ∧ ((bool01 (decide (a0 < 0))) = 0 →
   ∀ y1174 : Int, y1174 = (shrZ .i32 (IntKind.wrap .i32 (1686629713 - a0)) 31) → (-1 ≤ y1174 ∧ y1174 ≤ 0) →
   ∀ y1175 : Int, y1175 = (IntKind.wrap .i32 ((bxor .i32 0 y1174) - y1174)) → (-2147483648 ≤ y1175 ∧ y1175 ≤ 2147483647) →
   ∀ y1176 : Int, y1176 = (IntKind.wrap .i32 ((bxor .i32 652032874 y1174) - y1174)) → (-2147483648 ≤ y1176 ∧ y1176 ≤ 2147483647) →
   ∀ y1177 : Int, y1177 = (IntKind.wrap .i32 ((bxor .i32 421657428 y1174) - y1174)) → (-2147483648 ≤ y1177 ∧ y1177 ≤ 2147483647) →
   ∀ y1178 : Int, y1178 = ((IntKind.wrap .i32 (1686629713 - a0)) - y1177) → (-4294967295 ≤ y1178 ∧ y1178 ≤ 4294967295) →
   ∀ y1179 : Int, y1179 = (IntKind.wrap .i32 ((bxor .i32 (shrZ .i32 y1176 1) (shrZ .i32 (IntKind.wrap .i32 y1178) 31)) - (shrZ .i32 (IntKind.wrap .i32 y1178) 31))) → (-2147483648 ≤ y1179 ∧ y1179 ≤ 2147483647) →
   ∀ y1180 : Int, y1180 = ((IntKind.wrap .i32 (652032874 - y1175)) - y1179) → (-4294967295 ≤ y1180 ∧ y1180 ≤ 4294967295) →
   ∀ y1181 : Int, y1181 = (shrZ .i32 (IntKind.wrap .i32 (652032874 - y1175)) 1) → (-1073741824 ≤ y1181 ∧ y1181 ≤ 1073741823) →
   ∀ y1182 : Int, y1182 = (IntKind.wrap .i32 ((bxor .i32 y1181 (shrZ .i32 (IntKind.wrap .i32 y1178) 31)) - (shrZ .i32 (IntKind.wrap .i32 y1178) 31))) → (-2147483648 ≤ y1182 ∧ y1182 ≤ 2147483647) →
   ∀ y1183 : Int, y1183 = (IntKind.wrap .i32 ((bxor .i32 248918915 (shrZ .i32 (IntKind.wrap .i32 y1178) 31)) - (shrZ .i32 (IntKind.wrap .i32 y1178) 31))) → (-2147483648 ≤ y1183 ∧ y1183 ≤ 2147483647) →
   ∀ y1184 : Int, y1184 = (IntKind.wrap .i32 ((IntKind.wrap .i32 y1178) - y1183)) → (-2147483648 ≤ y1184 ∧ y1184 ≤ 2147483647) →
   ∀ y1185 : Int, y1185 = (shrZ .i32 (IntKind.wrap .i32 (y1176 + y1182)) 2) → (-536870912 ≤ y1185 ∧ y1185 ≤ 536870911) →
   ∀ y1186 : Int, y1186 = (IntKind.wrap .i32 ((bxor .i32 y1185 (shrZ .i32 y1184 31)) - (shrZ .i32 y1184 31))) → (-2147483648 ≤ y1186 ∧ y1186 ≤ 2147483647) →
   ∀ y1187 : Int, y1187 = (IntKind.wrap .i32 ((IntKind.wrap .i32 y1180) - y1186)) → (-2147483648 ≤ y1187 ∧ y1187 ≤ 2147483647) →
   ∀ y1188 : Int, y1188 = (IntKind.wrap .i32 ((bxor .i32 (shrZ .i32 (IntKind.wrap .i32 y1180) 2) (shrZ .i32 y1184 31)) - (shrZ .i32 y1184 31))) → (-2147483648 ≤ y1188 ∧ y1188 ≤ 2147483647) →
   ∀ y1189 : Int, y1189 = ((IntKind.wrap .i32 (y1176 + y1182)) + y1188) → (-4294967296 ≤ y1189 ∧ y1189 ≤ 4294967294) →
   ∀ y1190 : Int, y1190 = (IntKind.wrap .i32 ((bxor .i32 131521918 (shrZ .i32 y1184 31)) - (shrZ .i32 y1184 31))) → (-2147483648 ≤ y1190 ∧ y1190 ≤ 2147483647) →
   ∀ y1191 : Int, y1191 = (shrZ .i32 (IntKind.wrap .i32 (y1184 - y1190)) 31) → (-1 ≤ y1191 ∧ y1191 ≤ 0) →
   ∀ y1192 : Int, y1192 = (IntKind.wrap .i32 ((bxor .i32 (shrZ .i32 (IntKind.wrap .i32 y1189) 3) y1191) - y1191)) → (-2147483648 ≤ y1192 ∧ y1192 ≤ 2147483647) →
   ∀ y1193 : Int, y1193 = (IntKind.wrap .i32 ((bxor .i32 (shrZ .i32 y1187 3) y1191) - y1191)) → (-2147483648 ≤ y1193 ∧ y1193 ≤ 2147483647) →
   ∀ y1194 : Int, y1194 = (IntKind.wrap .i32 ((IntKind.wrap .i32 y1189) + y1193)) → (-2147483648 ≤ y1194 ∧ y1194 ≤ 2147483647) →
   ∀ y1195 : Int, y1195 = (IntKind.wrap .i32 ((bxor .i32 66762579 y1191) - y1191)) → (-2147483648 ≤ y1195 ∧ y1195 ≤ 2147483647) →
   ∀ y1196 : Int, y1196 = ((IntKind.wrap .i32 (y1184 - y1190)) - y1195) → (-4294967295 ≤ y1196 ∧ y1196 ≤ 4294967295) →
   ∀ y1197 : Int, y1197 = (IntKind.wrap .i32 ((bxor .i32 (shrZ .i32 y1194 4) (shrZ .i32 (IntKind.wrap .i32 y1196) 31)) - (shrZ .i32 (IntKind.wrap .i32 y1196) 31))) → (-2147483648 ≤ y1197 ∧ y1197 ≤ 2147483647) →
   ∀ y1198 : Int, y1198 = ((IntKind.wrap .i32 (y1187 - y1192)) - y1197) → (-4294967295 ≤ y1198 ∧ y1198 ≤ 4294967295) →
   ∀ y1199 : Int, y1199 = (shrZ .i32 (IntKind.wrap .i32 (y1187 - y1192)) 4) → (-134217728 ≤ y1199 ∧ y1199 ≤ 134217727) →
   ∀ y1200 : Int, y1200 = (IntKind.wrap .i32 ((bxor .i32 y1199 (shrZ .i32 (IntKind.wrap .i32 y1196) 31)) - (shrZ .i32 (IntKind.wrap .i32 y1196) 31))) → (-2147483648 ≤ y1200 ∧ y1200 ≤ 2147483647) →
   ∀ y1201 : Int, y1201 = (IntKind.wrap .i32 ((bxor .i32 33510843 (shrZ .i32 (IntKind.wrap .i32 y1196) 31)) - (shrZ .i32 (IntKind.wrap .i32 y1196) 31))) → (-2147483648 ≤ y1201 ∧ y1201 ≤ 2147483647) →
   ∀ y1202 : Int, y1202 = (IntKind.wrap .i32 ((IntKind.wrap .i32 y1196) - y1201)) → (-2147483648 ≤ y1202 ∧ y1202 ≤ 2147483647) →
   ∀ y1203 : Int, y1203 = (shrZ .i32 (IntKind.wrap .i32 (y1194 + y1200)) 5) → (-67108864 ≤ y1203 ∧ y1203 ≤ 67108863) →
   ∀ y1204 : Int, y1204 = (IntKind.wrap .i32 ((bxor .i32 y1203 (shrZ .i32 y1202 31)) - (shrZ .i32 y1202 31))) → (-2147483648 ≤ y1204 ∧ y1204 ≤ 2147483647) →
   ∀ y1205 : Int, y1205 = (IntKind.wrap .i32 ((IntKind.wrap .i32 y1198) - y1204)) → (-2147483648 ≤ y1205 ∧ y1205 ≤ 2147483647) →
   ∀ y1206 : Int, y1206 = (IntKind.wrap .i32 ((bxor .i32 (shrZ .i32 (IntKind.wrap .i32 y1198) 5) (shrZ .i32 y1202 31)) - (shrZ .i32 y1202 31))) → (-2147483648 ≤ y1206 ∧ y1206 ≤ 2147483647) →
   ∀ y1207 : Int, y1207 = ((IntKind.wrap .i32 (y1194 + y1200)) + y1206) → (-4294967296 ≤ y1207 ∧ y1207 ≤ 4294967294) →
   ∀ y1208 : Int, y1208 = (IntKind.wrap .i32 ((bxor .i32 16771758 (shrZ .i32 y1202 31)) - (shrZ .i32 y1202 31))) → (-2147483648 ≤ y1208 ∧ y1208 ≤ 2147483647) →
   ∀ y1209 : Int, y1209 = (shrZ .i32 (IntKind.wrap .i32 (y1202 - y1208)) 31) → (-1 ≤ y1209 ∧ y1209 ≤ 0) →
   ∀ y1210 : Int, y1210 = (IntKind.wrap .i32 ((bxor .i32 (shrZ .i32 (IntKind.wrap .i32 y1207) 6) y1209) - y1209)) → (-2147483648 ≤ y1210 ∧ y1210 ≤ 2147483647) →
   ∀ y1211 : Int, y1211 = (IntKind.wrap .i32 ((bxor .i32 (shrZ .i32 y1205 6) y1209) - y1209)) → (-2147483648 ≤ y1211 ∧ y1211 ≤ 2147483647) →
   ∀ y1212 : Int, y1212 = (IntKind.wrap .i32 ((IntKind.wrap .i32 y1207) + y1211)) → (-2147483648 ≤ y1212 ∧ y1212 ≤ 2147483647) →
   ∀ y1213 : Int, y1213 = (IntKind.wrap .i32 ((bxor .i32 8387925 y1209) - y1209)) → (-2147483648 ≤ y1213 ∧ y1213 ≤ 2147483647) →
   ∀ y1214 : Int, y1214 = ((IntKind.wrap .i32 (y1202 - y1208)) - y1213) → (-4294967295 ≤ y1214 ∧ y1214 ≤ 4294967295) →
   ∀ y1215 : Int, y1215 = (IntKind.wrap .i32 ((bxor .i32 (shrZ .i32 y1212 7) (shrZ .i32 (IntKind.wrap .i32 y1214) 31)) - (shrZ .i32 (IntKind.wrap .i32 y1214) 31))) → (-2147483648 ≤ y1215 ∧ y1215 ≤ 2147483647) →
   ∀ y1216 : Int, y1216 = ((IntKind.wrap .i32 (y1205 - y1210)) - y1215) → (-4294967295 ≤ y1216 ∧ y1216 ≤ 4294967295) →
   ∀ y1217 : Int, y1217 = (shrZ .i32 (IntKind.wrap .i32 (y1205 - y1210)) 7) → (-16777216 ≤ y1217 ∧ y1217 ≤ 16777215) →
   ∀ y1218 : Int, y1218 = (IntKind.wrap .i32 ((bxor .i32 y1217 (shrZ .i32 (IntKind.wrap .i32 y1214) 31)) - (shrZ .i32 (IntKind.wrap .i32 y1214) 31))) → (-2147483648 ≤ y1218 ∧ y1218 ≤ 2147483647) →
   ∀ y1219 : Int, y1219 = (IntKind.wrap .i32 ((bxor .i32 4194219 (shrZ .i32 (IntKind.wrap .i32 y1214) 31)) - (shrZ .i32 (IntKind.wrap .i32 y1214) 31))) → (-2147483648 ≤ y1219 ∧ y1219 ≤ 2147483647) →
   ∀ y1220 : Int, y1220 = (IntKind.wrap .i32 ((IntKind.wrap .i32 y1214) - y1219)) → (-2147483648 ≤ y1220 ∧ y1220 ≤ 2147483647) →
   ∀ y1221 : Int, y1221 = (shrZ .i32 (IntKind.wrap .i32 (y1212 + y1218)) 8) → (-8388608 ≤ y1221 ∧ y1221 ≤ 8388607) →
   ∀ y1222 : Int, y1222 = (IntKind.wrap .i32 ((bxor .i32 y1221 (shrZ .i32 y1220 31)) - (shrZ .i32 y1220 31))) → (-2147483648 ≤ y1222 ∧ y1222 ≤ 2147483647) →
   ∀ y1223 : Int, y1223 = (IntKind.wrap .i32 ((IntKind.wrap .i32 y1216) - y1222)) → (-2147483648 ≤ y1223 ∧ y1223 ≤ 2147483647) →
   ∀ y1224 : Int, y1224 = (IntKind.wrap .i32 ((bxor .i32 (shrZ .i32 (IntKind.wrap .i32 y1216) 8) (shrZ .i32 y1220 31)) - (shrZ .i32 y1220 31))) → (-2147483648 ≤ y1224 ∧ y1224 ≤ 2147483647) →
   ∀ y1225 : Int, y1225 = ((IntKind.wrap .i32 (y1212 + y1218)) + y1224) → (-4294967296 ≤ y1225 ∧ y1225 ≤ 4294967294) →
   ∀ y1226 : Int, y1226 = (IntKind.wrap .i32 ((bxor .i32 2097141 (shrZ .i32 y1220 31)) - (shrZ .i32 y1220 31))) → (-2147483648 ≤ y1226 ∧ y1226 ≤ 2147483647) →
   ∀ y1227 : Int, y1227 = (shrZ .i32 (IntKind.wrap .i32 (y1220 - y1226)) 31) → (-1 ≤ y1227 ∧ y1227 ≤ 0) →
   ∀ y1228 : Int, y1228 = (IntKind.wrap .i32 ((bxor .i32 (shrZ .i32 (IntKind.wrap .i32 y1225) 9) y1227) - y1227)) → (-2147483648 ≤ y1228 ∧ y1228 ≤ 2147483647) →
   ∀ y1229 : Int, y1229 = (IntKind.wrap .i32 ((bxor .i32 (shrZ .i32 y1223 9) y1227) - y1227)) → (-2147483648 ≤ y1229 ∧ y1229 ≤ 2147483647) →
   ∀ y1230 : Int, y1230 = (IntKind.wrap .i32 ((IntKind.wrap .i32 y1225) + y1229)) → (-2147483648 ≤ y1230 ∧ y1230 ≤ 2147483647) →
   ∀ y1231 : Int, y1231 = (IntKind.wrap .i32 ((bxor .i32 1048575 y1227) - y1227)) → (-2147483648 ≤ y1231 ∧ y1231 ≤ 2147483647) →
   ∀ y1232 : Int, y1232 = ((IntKind.wrap .i32 (y1220 - y1226)) - y1231) → (-4294967295 ≤ y1232 ∧ y1232 ≤ 4294967295) →
   ∀ y1233 : Int, y1233 = (IntKind.wrap .i32 ((bxor .i32 (shrZ .i32 y1230 10) (shrZ .i32 (IntKind.wrap .i32 y1232) 31)) - (shrZ .i32 (IntKind.wrap .i32 y1232) 31))) → (-2147483648 ≤ y1233 ∧ y1233 ≤ 2147483647) →
   ∀ y1234 : Int, y1234 = ((IntKind.wrap .i32 (y1223 - y1228)) - y1233) → (-4294967295 ≤ y1234 ∧ y1234 ≤ 4294967295) →
   ∀ y1235 : Int, y1235 = (shrZ .i32 (IntKind.wrap .i32 (y1223 - y1228)) 10) → (-2097152 ≤ y1235 ∧ y1235 ≤ 2097151) →
   ∀ y1236 : Int, y1236 = (IntKind.wrap .i32 ((bxor .i32 y1235 (shrZ .i32 (IntKind.wrap .i32 y1232) 31)) - (shrZ .i32 (IntKind.wrap .i32 y1232) 31))) → (-2147483648 ≤ y1236 ∧ y1236 ≤ 2147483647) →
   ∀ y1237 : Int, y1237 = (IntKind.wrap .i32 ((bxor .i32 524288 (shrZ .i32 (IntKind.wrap .i32 y1232) 31)) - (shrZ .i32 (IntKind.wrap .i32 y1232) 31))) → (-2147483648 ≤ y1237 ∧ y1237 ≤ 2147483647) →
   ∀ y1238 : Int, y1238 = (IntKind.wrap .i32 ((IntKind.wrap .i32 y1232) - y1237)) → (-2147483648 ≤ y1238 ∧ y1238 ≤ 2147483647) →
   ∀ y1239 : Int, y1239 = (shrZ .i32 (IntKind.wrap .i32 (y1230 + y1236)) 11) → (-1048576 ≤ y1239 ∧ y1239 ≤ 1048575) →
   ∀ y1240 : Int, y1240 = (IntKind.wrap .i32 ((bxor .i32 y1239 (shrZ .i32 y1238 31)) - (shrZ .i32 y1238 31))) → (-2147483648 ≤ y1240 ∧ y1240 ≤ 2147483647) →
   ∀ y1241 : Int, y1241 = (IntKind.wrap .i32 ((IntKind.wrap .i32 y1234) - y1240)) → (-2147483648 ≤ y1241 ∧ y1241 ≤ 2147483647) →
   ∀ y1242 : Int, y1242 = (IntKind.wrap .i32 ((bxor .i32 (shrZ .i32 (IntKind.wrap .i32 y1234) 11) (shrZ .i32 y1238 31)) - (shrZ .i32 y1238 31))) → (-2147483648 ≤ y1242 ∧ y1242 ≤ 2147483647) →
   ∀ y1243 : Int, y1243 = ((IntKind.wrap .i32 (y1230 + y1236)) + y1242) → (-4294967296 ≤ y1243 ∧ y1243 ≤ 4294967294) →
   ∀ y1244 : Int, y1244 = (IntKind.wrap .i32 ((bxor .i32 262144 (shrZ .i32 y1238 31)) - (shrZ .i32 y1238 31))) → (-2147483648 ≤ y1244 ∧ y1244 ≤ 2147483647) →
   ∀ y1245 : Int, y1245 = (shrZ .i32 (IntKind.wrap .i32 (y1238 - y1244)) 31) → (-1 ≤ y1245 ∧ y1245 ≤ 0) →
   ∀ y1246 : Int, y1246 = (IntKind.wrap .i32 ((bxor .i32 (shrZ .i32 (IntKind.wrap .i32 y1243) 12) y1245) - y1245)) → (-2147483648 ≤ y1246 ∧ y1246 ≤ 2147483647) →
   ∀ y1247 : Int, y1247 = (IntKind.wrap .i32 ((bxor .i32 (shrZ .i32 y1241 12) y1245) - y1245)) → (-2147483648 ≤ y1247 ∧ y1247 ≤ 2147483647) →
   ∀ y1248 : Int, y1248 = (IntKind.wrap .i32 ((IntKind.wrap .i32 y1243) + y1247)) → (-2147483648 ≤ y1248 ∧ y1248 ≤ 2147483647) →
   ∀ y1249 : Int, y1249 = (IntKind.wrap .i32 ((bxor .i32 131072 y1245) - y1245)) → (-2147483648 ≤ y1249 ∧ y1249 ≤ 2147483647) →
   ∀ y1250 : Int, y1250 = ((IntKind.wrap .i32 (y1238 - y1244)) - y1249) → (-4294967295 ≤ y1250 ∧ y1250 ≤ 4294967295) →
   ∀ y1251 : Int, y1251 = (IntKind.wrap .i32 ((bxor .i32 (shrZ .i32 y1248 13) (shrZ .i32 (IntKind.wrap .i32 y1250) 31)) - (shrZ .i32 (IntKind.wrap .i32 y1250) 31))) → (-2147483648 ≤ y1251 ∧ y1251 ≤ 2147483647) →
   ∀ y1252 : Int, y1252 = ((IntKind.wrap .i32 (y1241 - y1246)) - y1251) → (-4294967295 ≤ y1252 ∧ y1252 ≤ 4294967295) →
   ∀ y1253 : Int, y1253 = (shrZ .i32 (IntKind.wrap .i32 (y1241 - y1246)) 13) → (-262144 ≤ y1253 ∧ y1253 ≤ 262143) →
   ∀ y1254 : Int, y1254 = (IntKind.wrap .i32 ((bxor .i32 y1253 (shrZ .i32 (IntKind.wrap .i32 y1250) 31)) - (shrZ .i32 (IntKind.wrap .i32 y1250) 31))) → (-2147483648 ≤ y1254 ∧ y1254 ≤ 2147483647) →
   ∀ y1255 : Int, y1255 = (IntKind.wrap .i32 ((bxor .i32 65536 (shrZ .i32 (IntKind.wrap .i32 y1250) 31)) - (shrZ .i32 (IntKind.wrap .i32 y1250) 31))) → (-2147483648 ≤ y1255 ∧ y1255 ≤ 2147483647) →
   ∀ y1256 : Int, y1256 = (IntKind.wrap .i32 ((IntKind.wrap .i32 y1250) - y1255)) → (-2147483648 ≤ y1256 ∧ y1256 ≤ 2147483647) →
   ∀ y1257 : Int, y1257 = (shrZ .i32 (IntKind.wrap .i32 (y1248 + y1254)) 14) → (-131072 ≤ y1257 ∧ y1257 ≤ 131071) →
   ∀ y1258 : Int, y1258 = (IntKind.wrap .i32 ((bxor .i32 y1257 (shrZ .i32 y1256 31)) - (shrZ .i32 y1256 31))) → (-2147483648 ≤ y1258 ∧ y1258 ≤ 2147483647) →
   ∀ y1259 : Int, y1259 = (IntKind.wrap .i32 ((IntKind.wrap .i32 y1252) - y1258)) → (-2147483648 ≤ y1259 ∧ y1259 ≤ 2147483647) →
   ∀ y1260 : Int, y1260 = (IntKind.wrap .i32 ((bxor .i32 (shrZ .i32 (IntKind.wrap .i32 y1252) 14) (shrZ .i32 y1256 31)) - (shrZ .i32 y1256 31))) → (-2147483648 ≤ y1260 ∧ y1260 ≤ 2147483647) →
   ∀ y1261 : Int, y1261 = ((IntKind.wrap .i32 (y1248 + y1254)) + y1260) → (-4294967296 ≤ y1261 ∧ y1261 ≤ 4294967294) →
   ∀ y1262 : Int, y1262 = (IntKind.wrap .i32 ((bxor .i32 32768 (shrZ .i32 y1256 31)) - (shrZ .i32 y1256 31))) → (-2147483648 ≤ y1262 ∧ y1262 ≤ 2147483647) →
   ∀ y1263 : Int, y1263 = (shrZ .i32 (IntKind.wrap .i32 (y1256 - y1262)) 31) → (-1 ≤ y1263 ∧ y1263 ≤ 0) →
   ∀ y1264 : Int, y1264 = (IntKind.wrap .i32 ((bxor .i32 (shrZ .i32 (IntKind.wrap .i32 y1261) 15) y1263) - y1263)) → (-2147483648 ≤ y1264 ∧ y1264 ≤ 2147483647) →
   ∀ y1265 : Int, y1265 = (IntKind.wrap .i32 ((bxor .i32 (shrZ .i32 y1259 15) y1263) - y1263)) → (-2147483648 ≤ y1265 ∧ y1265 ≤ 2147483647) →
   ∀ y1266 : Int, y1266 = (IntKind.wrap .i32 ((IntKind.wrap .i32 y1261) + y1265)) → (-2147483648 ≤ y1266 ∧ y1266 ≤ 2147483647) →
   ∀ y1267 : Int, y1267 = (IntKind.wrap .i32 ((bxor .i32 16384 y1263) - y1263)) → (-2147483648 ≤ y1267 ∧ y1267 ≤ 2147483647) →
   ∀ y1268 : Int, y1268 = ((IntKind.wrap .i32 (y1256 - y1262)) - y1267) → (-4294967295 ≤ y1268 ∧ y1268 ≤ 4294967295) →
   ∀ y1269 : Int, y1269 = (IntKind.wrap .i32 ((bxor .i32 (shrZ .i32 y1266 16) (shrZ .i32 (IntKind.wrap .i32 y1268) 31)) - (shrZ .i32 (IntKind.wrap .i32 y1268) 31))) → (-2147483648 ≤ y1269 ∧ y1269 ≤ 2147483647) →
   ∀ y1270 : Int, y1270 = ((IntKind.wrap .i32 (y1259 - y1264)) - y1269) → (-4294967295 ≤ y1270 ∧ y1270 ≤ 4294967295) →
   ∀ y1271 : Int, y1271 = (shrZ .i32 (IntKind.wrap .i32 (y1259 - y1264)) 16) → (-32768 ≤ y1271 ∧ y1271 ≤ 32767) →
   ∀ y1272 : Int, y1272 = (IntKind.wrap .i32 ((bxor .i32 y1271 (shrZ .i32 (IntKind.wrap .i32 y1268) 31)) - (shrZ .i32 (IntKind.wrap .i32 y1268) 31))) → (-2147483648 ≤ y1272 ∧ y1272 ≤ 2147483647) →
   ∀ y1273 : Int, y1273 = (IntKind.wrap .i32 ((bxor .i32 8192 (shrZ .i32 (IntKind.wrap .i32 y1268) 31)) - (shrZ .i32 (IntKind.wrap .i32 y1268) 31))) → (-2147483648 ≤ y1273 ∧ y1273 ≤ 2147483647) →
   ∀ y1274 : Int, y1274 = (IntKind.wrap .i32 ((IntKind.wrap .i32 y1268) - y1273)) → (-2147483648 ≤ y1274 ∧ y1274 ≤ 2147483647) →
   ∀ y1275 : Int, y1275 = (shrZ .i32 (IntKind.wrap .i32 (y1266 + y1272)) 17) → (-16384 ≤ y1275 ∧ y1275 ≤ 16383) →
   ∀ y1276 : Int, y1276 = (IntKind.wrap .i32 ((bxor .i32 y1275 (shrZ .i32 y1274 31)) - (shrZ .i32 y1274 31))) → (-2147483648 ≤ y1276 ∧ y1276 ≤ 2147483647) →
   ∀ y1277 : Int, y1277 = (IntKind.wrap .i32 ((IntKind.wrap .i32 y1270) - y1276)) → (-2147483648 ≤ y1277 ∧ y1277 ≤ 2147483647) →
   ∀ y1278 : Int, y1278 = (IntKind.wrap .i32 ((bxor .i32 (shrZ .i32 (IntKind.wrap .i32 y1270) 17) (shrZ .i32 y1274 31)) - (shrZ .i32 y1274 31))) → (-2147483648 ≤ y1278 ∧ y1278 ≤ 2147483647) →
   ∀ y1279 : Int, y1279 = ((IntKind.wrap .i32 (y1266 + y1272)) + y1278) → (-4294967296 ≤ y1279 ∧ y1279 ≤ 4294967294) →
   ∀ y1280 : Int, y1280 = (IntKind.wrap .i32 ((bxor .i32 4096 (shrZ .i32 y1274 31)) - (shrZ .i32 y1274 31))) → (-2147483648 ≤ y1280 ∧ y1280 ≤ 2147483647) →
   ∀ y1281 : Int, y1281 = (shrZ .i32 (IntKind.wrap .i32 (y1274 - y1280)) 31) → (-1 ≤ y1281 ∧ y1281 ≤ 0) →
   ∀ y1282 : Int, y1282 = (IntKind.wrap .i32 ((bxor .i32 (shrZ .i32 (IntKind.wrap .i32 y1279) 18) y1281) - y1281)) → (-2147483648 ≤ y1282 ∧ y1282 ≤ 2147483647) →
   ∀ y1283 : Int, y1283 = (IntKind.wrap .i32 ((bxor .i32 (shrZ .i32 y1277 18) y1281) - y1281)) → (-2147483648 ≤ y1283 ∧ y1283 ≤ 2147483647) →
   ∀ y1284 : Int, y1284 = (IntKind.wrap .i32 ((IntKind.wrap .i32 y1279) + y1283)) → (-2147483648 ≤ y1284 ∧ y1284 ≤ 2147483647) →
   ∀ y1285 : Int, y1285 = (IntKind.wrap .i32 ((bxor .i32 2048 y1281) - y1281)) → (-2147483648 ≤ y1285 ∧ y1285 ≤ 2147483647) →
   ∀ y1286 : Int, y1286 = ((IntKind.wrap .i32 (y1274 - y1280)) - y1285) → (-4294967295 ≤ y1286 ∧ y1286 ≤ 4294967295) →
   ∀ y1287 : Int, y1287 = (IntKind.wrap .i32 ((bxor .i32 (shrZ .i32 y1284 19) (shrZ .i32 (IntKind.wrap .i32 y1286) 31)) - (shrZ .i32 (IntKind.wrap .i32 y1286) 31))) → (-2147483648 ≤ y1287 ∧ y1287 ≤ 2147483647) →
   ∀ y1288 : Int, y1288 = ((IntKind.wrap .i32 (y1277 - y1282)) - y1287) → (-4294967295 ≤ y1288 ∧ y1288 ≤ 4294967295) →
   ∀ y1289 : Int, y1289 = (shrZ .i32 (IntKind.wrap .i32 (y1277 - y1282)) 19) → (-4096 ≤ y1289 ∧ y1289 ≤ 4095) →
   ∀ y1290 : Int, y1290 = (IntKind.wrap .i32 ((bxor .i32 y1289 (shrZ .i32 (IntKind.wrap .i32 y1286) 31)) - (shrZ .i32 (IntKind.wrap .i32 y1286) 31))) → (-2147483648 ≤ y1290 ∧ y1290 ≤ 2147483647) →
   ∀ y1291 : Int, y1291 = (IntKind.wrap .i32 ((bxor .i32 1024 (shrZ .i32 (IntKind.wrap .i32 y1286) 31)) - (shrZ .i32 (IntKind.wrap .i32 y1286) 31))) → (-2147483648 ≤ y1291 ∧ y1291 ≤ 2147483647) →
   ∀ y1292 : Int, y1292 = (IntKind.wrap .i32 ((IntKind.wrap .i32 y1286) - y1291)) → (-2147483648 ≤ y1292 ∧ y1292 ≤ 2147483647) →
   ∀ y1293 : Int, y1293 = (shrZ .i32 (IntKind.wrap .i32 (y1284 + y1290)) 20) → (-2048 ≤ y1293 ∧ y1293 ≤ 2047) →
   ∀ y1294 : Int, y1294 = (IntKind.wrap .i32 ((bxor .i32 y1293 (shrZ .i32 y1292 31)) - (shrZ .i32 y1292 31))) → (-2147483648 ≤ y1294 ∧ y1294 ≤ 2147483647) →
   ∀ y1295 : Int, y1295 = (IntKind.wrap .i32 ((IntKind.wrap .i32 y1288) - y1294)) → (-2147483648 ≤ y1295 ∧ y1295 ≤ 2147483647) →
   ∀ y1296 : Int, y1296 = (IntKind.wrap .i32 ((bxor .i32 (shrZ .i32 (IntKind.wrap .i32 y1288) 20) (shrZ .i32 y1292 31)) - (shrZ .i32 y1292 31))) → (-2147483648 ≤ y1296 ∧ y1296 ≤ 2147483647) →
   ∀ y1297 : Int, y1297 = ((IntKind.wrap .i32 (y1284 + y1290)) + y1296) → (-4294967296 ≤ y1297 ∧ y1297 ≤ 4294967294) →
   ∀ y1298 : Int, y1298 = (IntKind.wrap .i32 ((bxor .i32 512 (shrZ .i32 y1292 31)) - (shrZ .i32 y1292 31))) → (-2147483648 ≤ y1298 ∧ y1298 ≤ 2147483647) →
   ∀ y1299 : Int, y1299 = (shrZ .i32 (IntKind.wrap .i32 (y1292 - y1298)) 31) → (-1 ≤ y1299 ∧ y1299 ≤ 0) →
   ∀ y1300 : Int, y1300 = (IntKind.wrap .i32 ((bxor .i32 (shrZ .i32 (IntKind.wrap .i32 y1297) 21) y1299) - y1299)) → (-2147483648 ≤ y1300 ∧ y1300 ≤ 2147483647) →
   ∀ y1301 : Int, y1301 = (IntKind.wrap .i32 ((bxor .i32 (shrZ .i32 y1295 21) y1299) - y1299)) → (-2147483648 ≤ y1301 ∧ y1301 ≤ 2147483647) →
   ∀ y1302 : Int, y1302 = (IntKind.wrap .i32 ((IntKind.wrap .i32 y1297) + y1301)) → (-2147483648 ≤ y1302 ∧ y1302 ≤ 2147483647) →
   ∀ y1303 : Int, y1303 = (IntKind.wrap .i32 ((bxor .i32 256 y1299) - y1299)) → (-2147483648 ≤ y1303 ∧ y1303 ≤ 2147483647) →
   ∀ y1304 : Int, y1304 = ((IntKind.wrap .i32 (y1292 - y1298)) - y1303) → (-4294967295 ≤ y1304 ∧ y1304 ≤ 4294967295) →
   ∀ y1305 : Int, y1305 = (IntKind.wrap .i32 ((bxor .i32 (shrZ .i32 y1302 22) (shrZ .i32 (IntKind.wrap .i32 y1304) 31)) - (shrZ .i32 (IntKind.wrap .i32 y1304) 31))) → (-2147483648 ≤ y1305 ∧ y1305 ≤ 2147483647) →
   ∀ y1306 : Int, y1306 = ((IntKind.wrap .i32 (y1295 - y1300)) - y1305) → (-4294967295 ≤ y1306 ∧ y1306 ≤ 4294967295) →
   ∀ y1307 : Int, y1307 = (shrZ .i32 (IntKind.wrap .i32 (y1295 - y1300)) 22) → (-512 ≤ y1307 ∧ y1307 ≤ 511) →
   ∀ y1308 : Int, y1308 = (IntKind.wrap .i32 ((bxor .i32 y1307 (shrZ .i32 (IntKind.wrap .i32 y1304) 31)) - (shrZ .i32 (IntKind.wrap .i32 y1304) 31))) → (-2147483648 ≤ y1308 ∧ y1308 ≤ 2147483647) →
   ∀ y1309 : Int, y1309 = (IntKind.wrap .i32 ((bxor .i32 128 (shrZ .i32 (IntKind.wrap .i32 y1304) 31)) - (shrZ .i32 (IntKind.wrap .i32 y1304) 31))) → (-2147483648 ≤ y1309 ∧ y1309 ≤ 2147483647) →
   ∀ y1310 : Int, y1310 = (IntKind.wrap .i32 ((IntKind.wrap .i32 y1304) - y1309)) → (-2147483648 ≤ y1310 ∧ y1310 ≤ 2147483647) →
   ∀ y1311 : Int, y1311 = (shrZ .i32 (IntKind.wrap .i32 (y1302 + y1308)) 23) → (-256 ≤ y1311 ∧ y1311 ≤ 255) →
   ∀ y1312 : Int, y1312 = (IntKind.wrap .i32 ((bxor .i32 y1311 (shrZ .i32 y1310 31)) - (shrZ .i32 y1310 31))) → (-2147483648 ≤ y1312 ∧ y1312 ≤ 2147483647) →
   ∀ y1313 : Int, y1313 = (IntKind.wrap .i32 ((IntKind.wrap .i32 y1306) - y1312)) → (-2147483648 ≤ y1313 ∧ y1313 ≤ 2147483647) →
   ∀ y1314 : Int, y1314 = (IntKind.wrap .i32 ((bxor .i32 (shrZ .i32 (IntKind.wrap .i32 y1306) 23) (shrZ .i32 y1310 31)) - (shrZ .i32 y1310 31))) → (-2147483648 ≤ y1314 ∧ y1314 ≤ 2147483647) →
   ∀ y1315 : Int, y1315 = ((IntKind.wrap .i32 (y1302 + y1308)) + y1314) → (-4294967296 ≤ y1315 ∧ y1315 ≤ 4294967294) →
   ∀ y1316 : Int, y1316 = (IntKind.wrap .i32 ((bxor .i32 64 (shrZ .i32 y1310 31)) - (shrZ .i32 y1310 31))) → (-2147483648 ≤ y1316 ∧ y1316 ≤ 2147483647) →
   ∀ y1317 : Int, y1317 = (shrZ .i32 (IntKind.wrap .i32 (y1310 - y1316)) 31) → (-1 ≤ y1317 ∧ y1317 ≤ 0) →
   ∀ y1318 : Int, y1318 = (IntKind.wrap .i32 ((bxor .i32 (shrZ .i32 (IntKind.wrap .i32 y1315) 24) y1317) - y1317)) → (-2147483648 ≤ y1318 ∧ y1318 ≤ 2147483647) →
   ∀ y1319 : Int, y1319 = (IntKind.wrap .i32 ((bxor .i32 (shrZ .i32 y1313 24) y1317) - y1317)) → (-2147483648 ≤ y1319 ∧ y1319 ≤ 2147483647) →
   ∀ y1320 : Int, y1320 = (IntKind.wrap .i32 ((IntKind.wrap .i32 y1315) + y1319)) → (-2147483648 ≤ y1320 ∧ y1320 ≤ 2147483647) →
   ∀ y1321 : Int, y1321 = (IntKind.wrap .i32 ((bxor .i32 32 y1317) - y1317)) → (-2147483648 ≤ y1321 ∧ y1321 ≤ 2147483647) →
   ∀ y1322 : Int, y1322 = ((IntKind.wrap .i32 (y1310 - y1316)) - y1321) → (-4294967295 ≤ y1322 ∧ y1322 ≤ 4294967295) →
   ∀ y1323 : Int, y1323 = (IntKind.wrap .i32 ((bxor .i32 (shrZ .i32 y1320 25) (shrZ .i32 (IntKind.wrap .i32 y1322) 31)) - (shrZ .i32 (IntKind.wrap .i32 y1322) 31))) → (-2147483648 ≤ y1323 ∧ y1323 ≤ 2147483647) →
   ∀ y1324 : Int, y1324 = ((IntKind.wrap .i32 (y1313 - y1318)) - y1323) → (-4294967295 ≤ y1324 ∧ y1324 ≤ 4294967295) →
   ∀ y1325 : Int, y1325 = (shrZ .i32 (IntKind.wrap .i32 (y1313 - y1318)) 25) → (-64 ≤ y1325 ∧ y1325 ≤ 63) →
   ∀ y1326 : Int, y1326 = (IntKind.wrap .i32 ((bxor .i32 y1325 (shrZ .i32 (IntKind.wrap .i32 y1322) 31)) - (shrZ .i32 (IntKind.wrap .i32 y1322) 31))) → (-2147483648 ≤ y1326 ∧ y1326 ≤ 2147483647) →
   ∀ y1327 : Int, y1327 = (IntKind.wrap .i32 ((bxor .i32 16 (shrZ .i32 (IntKind.wrap .i32 y1322) 31)) - (shrZ .i32 (IntKind.wrap .i32 y1322) 31))) → (-2147483648 ≤ y1327 ∧ y1327 ≤ 2147483647) →
   ∀ y1328 : Int, y1328 = (IntKind.wrap .i32 ((IntKind.wrap .i32 y1322) - y1327)) → (-2147483648 ≤ y1328 ∧ y1328 ≤ 2147483647) →
   ∀ y1329 : Int, y1329 = (shrZ .i32 (IntKind.wrap .i32 (y1320 + y1326)) 26) → (-32 ≤ y1329 ∧ y1329 ≤ 31) →
   ∀ y1330 : Int, y1330 = (IntKind.wrap .i32 ((bxor .i32 y1329 (shrZ .i32 y1328 31)) - (shrZ .i32 y1328 31))) → (-2147483648 ≤ y1330 ∧ y1330 ≤ 2147483647) →
   ∀ y1331 : Int, y1331 = (IntKind.wrap .i32 ((IntKind.wrap .i32 y1324) - y1330)) → (-2147483648 ≤ y1331 ∧ y1331 ≤ 2147483647) →
   ∀ y1332 : Int, y1332 = (IntKind.wrap .i32 ((bxor .i32 (shrZ .i32 (IntKind.wrap .i32 y1324) 26) (shrZ .i32 y1328 31)) - (shrZ .i32 y1328 31))) → (-2147483648 ≤ y1332 ∧ y1332 ≤ 2147483647) →
   ∀ y1333 : Int, y1333 = ((IntKind.wrap .i32 (y1320 + y1326)) + y1332) → (-4294967296 ≤ y1333 ∧ y1333 ≤ 4294967294) →
   ∀ y1334 : Int, y1334 = (IntKind.wrap .i32 ((bxor .i32 8 (shrZ .i32 y1328 31)) - (shrZ .i32 y1328 31))) → (-2147483648 ≤ y1334 ∧ y1334 ≤ 2147483647) →
   ∀ y1335 : Int, y1335 = (shrZ .i32 (IntKind.wrap .i32 (y1328 - y1334)) 31) → (-1 ≤ y1335 ∧ y1335 ≤ 0) →
   ∀ y1336 : Int, y1336 = (IntKind.wrap .i32 ((bxor .i32 (shrZ .i32 (IntKind.wrap .i32 y1333) 27) y1335) - y1335)) → (-2147483648 ≤ y1336 ∧ y1336 ≤ 2147483647) →
   ∀ y1337 : Int, y1337 = (IntKind.wrap .i32 ((bxor .i32 (shrZ .i32 y1331 27) y1335) - y1335)) → (-2147483648 ≤ y1337 ∧ y1337 ≤ 2147483647) →
   ∀ y1338 : Int, y1338 = (IntKind.wrap .i32 ((IntKind.wrap .i32 y1333) + y1337)) → (-2147483648 ≤ y1338 ∧ y1338 ≤ 2147483647) →
   ∀ y1339 : Int, y1339 = (IntKind.wrap .i32 ((bxor .i32 4 y1335) - y1335)) → (-2147483648 ≤ y1339 ∧ y1339 ≤ 2147483647) →
   ∀ y1340 : Int, y1340 = ((IntKind.wrap .i32 (y1328 - y1334)) - y1339) → (-4294967295 ≤ y1340 ∧ y1340 ≤ 4294967295) →
   ∀ y1341 : Int, y1341 = (0 - (IntKind.wrap .i32 (y1331 - y1336))) → (-2147483647 ≤ y1341 ∧ y1341 ≤ 2147483648) →
   (((bool01 ((IntKind.wrap .i32 (y1161 + y1167)) == y1338)) ≠ 0 →
    (((bool01 (y1170 == (IntKind.wrap .i32 y1341))) ≠ 0 →
     (1 : Int) ≠ 0) ∧ ((bool01 (y1170 == (IntKind.wrap .i32 y1341))) = 0 →
     (0 : Int) ≠ 0))) ∧ ((bool01 ((IntKind.wrap .i32 (y1161 + y1167)) == y1338)) = 0 →
    (0 : Int) ≠ 0))))) ∧ ((bool01 (decide (843314857 < y1171))) = 0 →
  ∀ y1173 : Int, y1173 = (IntKind.wrap .i32 ((bxor .i32 0 (shrZ .i32 a0 31)) - (shrZ .i32 a0 31))) → (-2147483648 ≤ y1173 ∧ y1173 ≤ 2147483647) →
  ∀ y1174 : Int, y1174 = (IntKind.wrap .i32 ((bxor .i32 652032874 (shrZ .i32 a0 31)) - (shrZ .i32 a0 31))) → (-2147483648 ≤ y1174 ∧ y1174 ≤ 2147483647) →
  ∀ y1175 : Int, y1175 = (IntKind.wrap .i32 ((bxor .i32 421657428 (shrZ .i32 a0 31)) - (shrZ .i32 a0 31))) → (-2147483648 ≤ y1175 ∧ y1175 ≤ 2147483647) →
  ∀ y1176 : Int, y1176 = (shrZ .i32 (IntKind.wrap .i32 (a0 - y1175)) 31) → (-1 ≤ y1176 ∧ y1176 ≤ 0) →
  ∀ y1177 : Int, y1177 = (IntKind.wrap .i32 ((bxor .i32 (shrZ .i32 y1174 1) y1176) - y1176)) → (-2147483648 ≤ y1177 ∧ y1177 ≤ 2147483647) →
  ∀ y1178 : Int, y1178 = ((IntKind.wrap .i32 (652032874 - y1173)) - y1177) → (-4294967295 ≤ y1178 ∧ y1178 ≤ 4294967295) →
  ∀ y1179 : Int, y1179 = (shrZ .i32 (IntKind.wrap .i32 (652032874 - y1173)) 1) → (-1073741824 ≤ y1179 ∧ y1179 ≤ 1073741823) →
  ∀ y1180 : Int, y1180 = (IntKind.wrap .i32 ((bxor .i32 y1179 y1176) - y1176)) → (-2147483648 ≤ y1180 ∧ y1180 ≤ 2147483647) →
  ∀ y1181 : Int, y1181 = (IntKind.wrap .i32 ((bxor .i32 248918915 y1176) - y1176)) → (-2147483648 ≤ y1181 ∧ y1181 ≤ 2147483647) →
  ∀ y1182 : Int, y1182 = ((IntKind.wrap .i32 (a0 - y1175)) - y1181) → (-4294967295 ≤ y1182 ∧ y1182 ≤ 4294967295) →
  ∀ y1183 : Int, y1183 = (shrZ .i32 (IntKind.wrap .i32 (y1174 + y1180)) 2) → (-536870912 ≤ y1183 ∧ y1183 ≤ 536870911) →
  ∀ y1184 : Int, y1184 = (IntKind.wrap .i32 ((bxor .i32 y1183 (shrZ .i32 (IntKind.wrap .i32 y1182) 31)) - (shrZ .i32 (IntKind.wrap .i32 y1182) 31))) → (-2147483648 ≤ y1184 ∧ y1184 ≤ 2147483647) →
  ∀ y1185 : Int, y1185 = (IntKind.wrap .i32 ((IntKind.wrap .i32 y1178) - y1184)) → (-2147483648 ≤ y1185 ∧ y1185 ≤ 2147483647) →
  ∀ y1186 : Int, y1186 = (IntKind.wrap .i32 ((bxor .i32 (shrZ .i32 (IntKind.wrap .i32 y1178) 2) (shrZ .i32 (IntKind.wrap .i32 y1182) 31)) - (shrZ .i32 (IntKind.wrap .i32 y1182) 31))) → (-2147483648 ≤ y1186 ∧ y1186 ≤ 2147483647) →
  ∀ y1187 : Int, y1187 = ((IntKind.wrap .i32 (y1174 + y1180)) + y1186) → (-4294967296 ≤ y1187 ∧ y1187 ≤ 4294967294) →
  ∀ y1188 : Int, y1188 = (IntKind.wrap .i32 ((bxor .i32 131521918 (shrZ .i32 (IntKind.wrap .i32 y1182) 31)) - (shrZ .i32 (IntKind.wrap .i32 y1182) 31))) → (-2147483648 ≤ y1188 ∧ y1188 ≤ 2147483647) →
  ∀ y1189 : Int, y1189 = (IntKind.wrap .i32 ((IntKind.wrap .i32 y1182) - y1188)) → (-2147483648 ≤ y1189 ∧ y1189 ≤ 2147483647) →
  ∀ y1190 : Int, y1190 = (IntKind.wrap .i32 ((bxor .i32 (shrZ .i32 (IntKind.wrap .i32 y1187) 3) (shrZ .i32 y1189 31)) - (shrZ .i32 y1189 31))) → (-2147483648 ≤ y1190 ∧ y1190 ≤ 2147483647) →
  ∀ y1191 : Int, y1191 = (IntKind.wrap .i32 ((bxor .i32 (shrZ .i32 y1185 3) (shrZ .i32 y1189 31)) - (shrZ .i32 y1189 31))) → (-2147483648 ≤ y1191 ∧ y1191 ≤ 2147483647) →
  ∀ y1192 : Int, y1192 = (IntKind.wrap .i32 ((IntKind.wrap .i32 y1187) + y1191)) → (-2147483648 ≤ y1192 ∧ y1192 ≤ 2147483647) →
  ∀ y1193 : Int, y1193 = (IntKind.wrap .i32 ((bxor .i32 66762579 (shrZ .i32 y1189 31)) - (shrZ .i32 y1189 31))) → (-2147483648 ≤ y1193 ∧ y1193 ≤ 2147483647) →
  ∀ y1194 : Int, y1194 = (shrZ .i32 (IntKind.wrap .i32 (y1189 - y1193)) 31) → (-1 ≤ y1194 ∧ y1194 ≤ 0) →
  ∀ y1195 : Int, y1195 = (IntKind.wrap .i32 ((bxor .i32 (shrZ .i32 y1192 4) y1194) - y1194)) → (-2147483648 ≤ y1195 ∧ y1195 ≤ 2147483647) →
  ∀ y1196 : Int, y1196 = ((IntKind.wrap .i32 (y1185 - y1190)) - y1195) → (-4294967295 ≤ y1196 ∧ y1196 ≤ 4294967295) →
  ∀ y1197 : Int, y1197 = (shrZ .i32 (IntKind.wrap .i32 (y1185 - y1190)) 4) → (-134217728 ≤ y1197 ∧ y1197 ≤ 134217727) →
  ∀ y1198 : Int, y1198 = (IntKind.wrap .i32 ((bxor .i32 y1197 y1194) - y1194)) → (-2147483648 ≤ y1198 ∧ y1198 ≤ 2147483647) →
  ∀ y1199 : Int, y1199 = (IntKind.wrap .i32 ((bxor .i32 33510843 y1194) - y1194)) → (-2147483648 ≤ y1199 ∧ y1199 ≤ 2147483647) →
  ∀ y1200 : Int, y1200 = ((IntKind.wrap .i32 (y1189 - y1193)) - y1199) → (-4294967295 ≤ y1200 ∧ y1200 ≤ 4294967295) →
  ∀ y1201 : Int, y1201 = (shrZ .i32 (IntKind.wrap .i32 (y1192 + y1198)) 5) → (-67108864 ≤ y1201 ∧ y1201 ≤ 67108863) →
  ∀ y1202 : Int, y1202 = (IntKind.wrap .i32 ((bxor .i32 y1201 (shrZ .i32 (IntKind.wrap .i32 y1200) 31)) - (shrZ .i32 (IntKind.wrap .i32 y1200) 31))) → (-2147483648 ≤ y1202 ∧ y1202 ≤ 2147483647) →
  ∀ y1203 : Int, y1203 = (IntKind.wrap .i32 ((IntKind.wrap .i32 y1196) - y1202)) → (-2147483648 ≤ y1203 ∧ y1203 ≤ 2147483647) →
  ∀ y1204 : Int, y1204 = (IntKind.wrap .i32 ((bxor .i32 (shrZ .i32 (IntKind.wrap .i32 y1196) 5) (shrZ .i32 (IntKind.wrap .i32 y1200) 31)) - (shrZ .i32 (IntKind.wrap .i32 y1200) 31))) → (-2147483648 ≤ y1204 ∧ y1204 ≤ 2147483647) →
  ∀ y1205 : Int, y1205 = ((IntKind.wrap .i32 (y1192 + y1198)) + y1204) → (-4294967296 ≤ y1205 ∧ y1205 ≤ 4294967294) →
  ∀ y1206 : Int, y1206 = (IntKind.wrap .i32 ((bxor .i32 16771758 (shrZ .i32 (IntKind.wrap .i32 y1200) 31)) - (shrZ .i32 (IntKind.wrap .i32 y1200) 31))) → (-2147483648 ≤ y1206 ∧ y1206 ≤ 2147483647) →
  ∀ y1207 : Int, y1207 = (IntKind.wrap .i32 ((IntKind.wrap .i32 y1200) - y1206)) → (-2147483648 ≤ y1207 ∧ y1207 ≤ 2147483647) →
  ∀ y1208 : Int, y1208 = (IntKind.wrap .i32 ((bxor .i32 (shrZ .i32 (IntKind.wrap .i32 y1205) 6) (shrZ .i32 y1207 31)) - (shrZ .i32 y1207 31))) → (-2147483648 ≤ y1208 ∧ y1208 ≤ 2147483647) →
  ∀ y1209 : Int, y1209 = (IntKind.wrap .i32 ((bxor .i32 (shrZ .i32 y1203 6) (shrZ .i32 y1207 31)) - (shrZ .i32 y1207 31))) → (-2147483648 ≤ y1209 ∧ y1209 ≤ 2147483647) →
  ∀ y1210 : Int, y1210 = (IntKind.wrap .i32 ((IntKind.wrap .i32 y1205) + y1209)) → (-2147483648 ≤ y1210 ∧ y1210 ≤ 2147483647) →
  ∀ y1211 : Int, y1211 = (IntKind.wrap .i32 ((bxor .i32 8387925 (shrZ .i32 y1207 31)) - (shrZ .i32 y1207 31))) → (-2147483648 ≤ y1211 ∧ y1211 ≤ 2147483647) →
  ∀ y1212 : Int, y1212 = (shrZ .i32 (IntKind.wrap .i32 (y1207 - y1211)) 31) → (-1 ≤ y1212 ∧ y1212 ≤ 0) →
  ∀ y1213 : Int, y1213 = (IntKind.wrap .i32 ((bxor .i32 (shrZ .i32 y1210 7) y1212) - y1212)) → (-2147483648 ≤ y1213 ∧ y1213 ≤ 2147483647) →
  ∀ y1214 : Int, y1214 = ((IntKind.wrap .i32 (y1203 - y1208)) - y1213) → (-4294967295 ≤ y1214 ∧ y1214 ≤ 4294967295) →
  ∀ y1215 : Int, y1215 = (shrZ .i32 (IntKind.wrap .i32 (y1203 - y1208)) 7) → (-16777216 ≤ y1215 ∧ y1215 ≤ 16777215) →
  ∀ y1216 : Int, y1216 = (IntKind.wrap .i32 ((bxor .i32 y1215 y1212) - y1212)) → (-2147483648 ≤ y1216 ∧ y1216 ≤ 2147483647) →
  ∀ y1217 : Int, y1217 = (IntKind.wrap .i32 ((bxor .i32 4194219 y1212) - y1212)) → (-2147483648 ≤ y1217 ∧ y1217 ≤ 2147483647) →
  ∀ y1218 : Int, y1218 = ((IntKind.wrap .i32 (y1207 - y1211)) - y1217) → (-4294967295 ≤ y1218 ∧ y1218 ≤ 4294967295) →
  ∀ y1219 : Int, y1219 = (shrZ .i32 (IntKind.wrap .i32 (y1210 + y1216)) 8) → (-8388608 ≤ y1219 ∧ y1219 ≤ 8388607) →
  ∀ y1220 : Int, y1220 = (IntKind.wrap .i32 ((bxor .i32 y1219 (shrZ .i32 (IntKind.wrap .i32 y1218) 31)) - (shrZ .i32 (IntKind.wrap .i32 y1218) 31))) → (-2147483648 ≤ y1220 ∧ y1220 ≤ 2147483647) →
  ∀ y1221 : Int, y1221 = (IntKind.wrap .i32 ((IntKind.wrap .i32 y1214) - y1220)) → (-2147483648 ≤ y1221 ∧ y1221 ≤ 2147483647) →
  ∀ y1222 : Int, y1222 = (IntKind.wrap .i32 ((bxor .i32 (shrZ .i32 (IntKind.wrap .i32 y1214) 8) (shrZ .i32 (IntKind.wrap .i32 y1218) 31)) - (shrZ .i32 (IntKind.wrap .i32 y1218) 31))) → (-2147483648 ≤ y1222 ∧ y1222 ≤ 2147483647) →
  ∀ y1223 : Int, y1223 = ((IntKind.wrap .i32 (y1210 + y1216)) + y1222) → (-4294967296 ≤ y1223 ∧ y1223 ≤ 4294967294) →
  ∀ y1224 : Int, y1224 = (IntKind.wrap .i32 ((bxor .i32 2097141 (shrZ .i32 (IntKind.wrap .i32 y1218) 31)) - (shrZ .i32 (IntKind.wrap .i32 y1218) 31))) → (-2147483648 ≤ y1224 ∧ y1224 ≤ 2147483647) →
  ∀ y1225 : Int, y1225 = (IntKind.wrap .i32 ((IntKind.wrap .i32 y1218) - y1224)) → (-2147483648 ≤ y1225 ∧ y1225 ≤ 2147483647) →
  ∀ y1226 : Int, y1226 = (IntKind.wrap .i32 ((bxor .i32 (shrZ .i32 (IntKind.wrap .i32 y1223) 9) (shrZ .i32 y1225 31)) - (shrZ .i32 y1225 31))) → (-2147483648 ≤ y1226 ∧ y1226 ≤ 2147483647) →
  ∀ y1227 : Int, y1227 = (IntKind.wrap .i32 ((bxor .i32 (shrZ .i32 y1221 9) (shrZ .i32 y1225 31)) - (shrZ .i32 y1225 31))) → (-2147483648 ≤ y1227 ∧ y1227 ≤ 2147483647) →
  ∀ y1228 : Int, y1228 = (IntKind.wrap .i32 ((IntKind.wrap .i32 y1223) + y1227)) → (-2147483648 ≤ y1228 ∧ y1228 ≤ 2147483647) →
  ∀ y1229 : Int, y1229 = (IntKind.wrap .i32 ((bxor .i32 1048575 (shrZ .i32 y1225 31)) - (shrZ .i32 y1225 31))) → (-2147483648 ≤ y1229 ∧ y1229 ≤ 2147483647) →
  ∀ y1230 : Int, y1230 = (shrZ .i32 (IntKind.wrap .i32 (y1225 - y1229)) 31) → (-1 ≤ y1230 ∧ y1230 ≤ 0) →
  ∀ y1231 : Int, y1231 = (IntKind.wrap .i32 ((bxor .i32 (shrZ .i32 y1228 10) y1230) - y1230)) → (-2147483648 ≤ y1231 ∧ y1231 ≤ 2147483647) →
  ∀ y1232 : Int, y1232 = ((IntKind.wrap .i32 (y1221 - y1226)) - y1231) → (-4294967295 ≤ y1232 ∧ y1232 ≤ 4294967295) →
  ∀ y1233 : Int, y1233 = (shrZ .i32 (IntKind.wrap .i32 (y1221 - y1226)) 10) → (-2097152 ≤ y1233 ∧ y1233 ≤ 2097151) →
  ∀ y1234 : Int, y1234 = (IntKind.wrap .i32 ((bxor .i32 y1233 y1230) - y1230)) → (-2147483648 ≤ y1234 ∧ y1234 ≤ 2147483647) →
  ∀ y1235 : Int, y1235 = (IntKind.wrap .i32 ((bxor .i32 524288 y1230) - y1230)) → (-2147483648 ≤ y1235 ∧ y1235 ≤ 2147483647) →
  ∀ y1236 : Int, y1236 = ((IntKind.wrap .i32 (y1225 - y1229)) - y1235) → (-4294967295 ≤ y1236 ∧ y1236 ≤ 4294967295) →
  ∀ y1237 : Int, y1237 = (shrZ .i32 (IntKind.wrap .i32 (y1228 + y1234)) 11) → (-1048576 ≤ y1237 ∧ y1237 ≤ 1048575) →
  ∀ y1238 : Int, y1238 = (IntKind.wrap .i32 ((bxor .i32 y1237 (shrZ .i32 (IntKind.wrap .i32 y1236) 31)) - (shrZ .i32 (IntKind.wrap .i32 y1236) 31))) → (-2147483648 ≤ y1238 ∧ y1238 ≤ 2147483647) →
  ∀ y1239 : Int, y1239 = (IntKind.wrap .i32 ((IntKind.wrap .i32 y1232) - y1238)) → (-2147483648 ≤ y1239 ∧ y1239 ≤ 2147483647) →
  ∀ y1240 : Int, y1240 = (IntKind.wrap .i32 ((bxor .i32 (shrZ .i32 (IntKind.wrap .i32 y1232) 11) (shrZ .i32 (IntKind.wrap .i32 y1236) 31)) - (shrZ .i32 (IntKind.wrap .i32 y1236) 31))) → (-2147483648 ≤ y1240 ∧ y1240 ≤ 2147483647) →
  ∀ y1241 : Int, y1241 = ((IntKind.wrap .i32 (y1228 + y1234)) + y1240) → (-4294967296 ≤ y1241 ∧ y1241 ≤ 4294967294) →
  ∀ y1242 : Int, y1242 = (IntKind.wrap .i32 ((bxor .i32 262144 (shrZ .i32 (IntKind.wrap .i32 y1236) 31)) - (shrZ .i32 (IntKind.wrap .i32 y1236) 31))) → (-2147483648 ≤ y1242 ∧ y1242 ≤ 2147483647) →
  ∀ y1243 : Int, y1243 = (IntKind.wrap .i32 ((IntKind.wrap .i32 y1236) - y1242)) → (-2147483648 ≤ y1243 ∧ y1243 ≤ 2147483647) →
  ∀ y1244 : Int, y1244 = (IntKind.wrap .i32 ((bxor .i32 (shrZ .i32 (IntKind.wrap .i32 y1241) 12) (shrZ .i32 y1243 31)) - (shrZ .i32 y1243 31))) → (-2147483648 ≤ y1244 ∧ y1244 ≤ 2147483647) →
  ∀ y1245 : Int, y1245 = (IntKind.wrap .i32 ((bxor .i32 (shrZ .i32 y1239 12) (shrZ .i32 y1243 31)) - (shrZ .i32 y1243 31))) → (-2147483648 ≤ y1245 ∧ y1245 ≤ 2147483647) →
  ∀ y1246 : Int, y1246 = (IntKind.wrap .i32 ((IntKind.wrap .i32 y1241) + y1245)) → (-2147483648 ≤ y1246 ∧ y1246 ≤ 2147483647) →
  ∀ y1247 : Int, y1247 = (IntKind.wrap .i32 ((bxor .i32 131072 (shrZ .i32 y1243 31)) - (shrZ .i32 y1243 31))) → (-2147483648 ≤ y1247 ∧ y1247 ≤ 2147483647) →
  ∀ y1248 : Int, y1248 = (shrZ .i32 (IntKind.wrap .i32 (y1243 - y1247)) 31) → (-1 ≤ y1248 ∧ y1248 ≤ 0) →
  ∀ y1249 : Int, y1249 = (IntKind.wrap .i32 ((bxor .i32 (shrZ .i32 y1246 13) y1248) - y1248)) → (-2147483648 ≤ y1249 ∧ y1249 ≤ 2147483647) →
  ∀ y1250 : Int, y1250 = ((IntKind.wrap .i32 (y1239 - y1244)) - y1249) → (-4294967295 ≤ y1250 ∧ y1250 ≤ 4294967295) →
  ∀ y1251 : Int, y1251 = (shrZ .i32 (IntKind.wrap .i32 (y1239 - y1244)) 13) → (-262144 ≤ y1251 ∧ y1251 ≤ 262143) →
  ∀ y1252 : Int, y1252 = (IntKind.wrap .i32 ((bxor .i32 y1251 y1248) - y1248)) → (-2147483648 ≤ y1252 ∧ y1252 ≤ 2147483647) →
  ∀ y1253 : Int, y1253 = (IntKind.wrap .i32 ((bxor .i32 65536 y1248) - y1248)) → (-2147483648 ≤ y1253 ∧ y1253 ≤ 2147483647) →
  ∀ y1254 : Int, y1254 = ((IntKind.wrap .i32 (y1243 - y1247)) - y1253) → (-4294967295 ≤ y1254 ∧ y1254 ≤ 4294967295) →
  ∀ y1255 : Int, y1255 = (shrZ .i32 (IntKind.wrap .i32 (y1246 + y1252)) 14) → (-131072 ≤ y1255 ∧ y1255 ≤ 131071) →
  ∀ y1256 : Int, y1256 = (IntKind.wrap .i32 ((bxor .i32 y1255 (shrZ .i32 (IntKind.wrap .i32 y1254) 31)) - (shrZ .i32 (IntKind.wrap .i32 y1254) 31))) → (-2147483648 ≤ y1256 ∧ y1256 ≤ 2147483647) →
  ∀ y1257 : Int, y1257 = (IntKind.wrap .i32 ((IntKind.wrap .i32 y1250) - y1256)) → (-2147483648 ≤ y1257 ∧ y1257 ≤ 2147483647) →
  ∀ y1258 : Int, y1258 = (IntKind.wrap .i32 ((bxor .i32 (shrZ .i32 (IntKind.wrap .i32 y1250) 14) (shrZ .i32 (IntKind.wrap .i32 y1254) 31)) - (shrZ .i32 (IntKind.wrap .i32 y1254) 31))) → (-2147483648 ≤ y1258 ∧ y1258 ≤ 2147483647) →
  ∀ y1259 : Int, y1259 = ((IntKind.wrap .i32 (y1246 + y1252)) + y1258) → (-4294967296 ≤ y1259 ∧ y1259 ≤ 4294967294) →
  ∀ y1260 : Int, y1260 = (IntKind.wrap .i32 ((bxor .i32 32768 (shrZ .i32 (IntKind.wrap .i32 y1254) 31)) - (shrZ .i32 (IntKind.wrap .i32 y1254) 31))) → (-2147483648 ≤ y1260 ∧ y1260 ≤ 2147483647) →
  ∀ y1261 : Int, y1261 = (IntKind.wrap .i32 ((IntKind.wrap .i32 y1254) - y1260)) → (-2147483648 ≤ y1261 ∧ y1261 ≤ 2147483647) →
  ∀ y1262 : Int, y1262 = (IntKind.wrap .i32 ((bxor .i32 (shrZ .i32 (IntKind.wrap .i32 y1259) 15) (shrZ .i32 y1261 31)) - (shrZ .i32 y1261 31))) → (-2147483648 ≤ y1262 ∧ y1262 ≤ 2147483647) →
  ∀ y1263 : Int, y1263 = (IntKind.wrap .i32 ((bxor .i32 (shrZ .i32 y1257 15) (shrZ .i32 y1261 31)) - (shrZ .i32 y1261 31))) → (-2147483648 ≤ y1263 ∧ y1263 ≤ 2147483647) →
  ∀ y1264 : Int, y1264 = (IntKind.wrap .i32 ((IntKind.wrap .i32 y1259) + y1263)) → (-2147483648 ≤ y1264 ∧ y1264 ≤ 2147483647) →
  ∀ y1265 : Int, y1265 = (IntKind.wrap .i32 ((bxor .i32 16384 (shrZ .i32 y1261 31)) - (shrZ .i32 y1261 31))) → (-2147483648 ≤ y1265 ∧ y1265 ≤ 2147483647) →
  ∀ y1266 : Int, y1266 = (shrZ .i32 (IntKind.wrap .i32 (y1261 - y1265)) 31) → (-1 ≤ y1266 ∧ y1266 ≤ 0) →
  ∀ y1267 : Int, y1267 = (IntKind.wrap .i32 ((bxor .i32 (shrZ .i32 y1264 16) y1266) - y1266)) → (-2147483648 ≤ y1267 ∧ y1267 ≤ 2147483647) →
  ∀ y1268 : Int, y1268 = ((IntKind.wrap .i32 (y1257 - y1262)) - y1267) → (-4294967295 ≤ y1268 ∧ y1268 ≤ 4294967295) →
  ∀ y1269 : Int, y1269 = (shrZ .i32 (IntKind.wrap .i32 (y1257 - y1262)) 16) → (-32768 ≤ y1269 ∧ y1269 ≤ 32767) →
  ∀ y1270 : Int, y1270 = (IntKind.wrap .i32 ((bxor .i32 y1269 y1266) - y1266)) → (-2147483648 ≤ y1270 ∧ y1270 ≤ 2147483647) →
  ∀ y1271 : Int, y1271 = (IntKind.wrap .i32 ((bxor .i32 8192 y1266) - y1266)) → (-2147483648 ≤ y1271 ∧ y1271 ≤ 2147483647) →
  ∀ y1272 : Int, y1272 = ((IntKind.wrap .i32 (y1261 - y1265)) - y1271) → (-4294967295 ≤ y1272 ∧ y1272 ≤ 4294967295) →
  ∀ y1273 : Int, y1273 = (shrZ .i32 (IntKind.wrap .i32 (y1264 + y1270)) 17) → (-16384 ≤ y1273 ∧ y1273 ≤ 16383) →
  ∀ y1274 : Int, y1274 = (IntKind.wrap .i32 ((bxor .i32 y1273 (shrZ .i32 (IntKind.wrap .i32 y1272) 31)) - (shrZ .i32 (IntKind.wrap .i32 y1272) 31))) → (-2147483648 ≤ y1274 ∧ y1274 ≤ 2147483647) →
  ∀ y1275 : Int, y1275 = (IntKind.wrap .i32 ((IntKind.wrap .i32 y1268) - y1274)) → (-2147483648 ≤ y1275 ∧ y1275 ≤ 2147483647) →
  ∀ y1276 : Int, y1276 = (IntKind.wrap .i32 ((bxor .i32 (shrZ .i32 (IntKind.wrap .i32 y1268) 17) (shrZ .i32 (IntKind.wrap .i32 y1272) 31)) - (shrZ .i32 (IntKind.wrap .i32 y1272) 31))) → (-2147483648 ≤ y1276 ∧ y1276 ≤ 2147483647) →
  ∀ y1277 : Int, y1277 = ((IntKind.wrap .i32 (y1264 + y1270)) + y1276) → (-4294967296 ≤ y1277 ∧ y1277 ≤ 4294967294) →
  ∀ y1278 : Int, y1278 = (IntKind.wrap .i32 ((bxor .i32 4096 (shrZ .i32 (IntKind.wrap .i32 y1272) 31)) - (shrZ .i32 (IntKind.wrap .i32 y1272) 31))) → (-2147483648 ≤ y1278 ∧ y1278 ≤ 2147483647) →
  ∀ y1279 : Int, y1279 = (IntKind.wrap .i32 ((IntKind.wrap .i32 y1272) - y1278)) → (-2147483648 ≤ y1279 ∧ y1279 ≤ 2147483647) →
  ∀ y1280 : Int, y1280 = (IntKind.wrap .i32 ((bxor .i32 (shrZ .i32 (IntKind.wrap .i32 y1277) 18) (shrZ .i32 y1279 31)) - (shrZ .i32 y1279 31))) → (-2147483648 ≤ y1280 ∧ y1280 ≤ 2147483647) →
  ∀ y1281 : Int, y1281 = (IntKind.wrap .i32 ((bxor .i32 (shrZ .i32 y1275 18) (shrZ .i32 y1279 31)) - (shrZ .i32 y1279 31))) → (-2147483648 ≤ y1281 ∧ y1281 ≤ 2147483647) →
  ∀ y1282 : Int, y1282 = (IntKind.wrap .i32 ((IntKind.wrap .i32 y1277) + y1281)) → (-2147483648 ≤ y1282 ∧ y1282 ≤ 2147483647) →
  ∀ y1283 : Int, y1283 = (IntKind.wrap .i32 ((bxor .i32 2048 (shrZ .i32 y1279 31)) - (shrZ .i32 y1279 31))) → (-2147483648 ≤ y1283 ∧ y1283 ≤ 2147483647) →
  ∀ y1284 : Int, y1284 = (shrZ .i32 (IntKind.wrap .i32 (y1279 - y1283)) 31) → (-1 ≤ y1284 ∧ y1284 ≤ 0) →
  ∀ y1285 : Int, y1285 = (IntKind.wrap .i32 ((bxor .i32 (shrZ .i32 y1282 19) y1284) - y1284)) → (-2147483648 ≤ y1285 ∧ y1285 ≤ 2147483647) →
  ∀ y1286 : Int, y1286 = ((IntKind.wrap .i32 (y1275 - y1280)) - y1285) → (-4294967295 ≤ y1286 ∧ y1286 ≤ 4294967295) →
  ∀ y1287 : Int, y1287 = (shrZ .i32 (IntKind.wrap .i32 (y1275 - y1280)) 19) → (-4096 ≤ y1287 ∧ y1287 ≤ 4095) →
  ∀ y1288 : Int, y1288 = (IntKind.wrap .i32 ((bxor .i32 y1287 y1284) - y1284)) → (-2147483648 ≤ y1288 ∧ y1288 ≤ 2147483647) →
  ∀ y1289 : Int, y1289 = (IntKind.wrap .i32 ((bxor .i32 1024 y1284) - y1284)) → (-2147483648 ≤ y1289 ∧ y1289 ≤ 2147483647) →
  ∀ y1290 : Int, y1290 = ((IntKind.wrap .i32 (y1279 - y1283)) - y1289) → (-4294967295 ≤ y1290 ∧ y1290 ≤ 4294967295) →
  ∀ y1291 : Int, y1291 = (shrZ .i32 (IntKind.wrap .i32 (y1282 + y1288)) 20) → (-2048 ≤ y1291 ∧ y1291 ≤ 2047) →
  ∀ y1292 : Int, y1292 = (IntKind.wrap .i32 ((bxor .i32 y1291 (shrZ .i32 (IntKind.wrap .i32 y1290) 31)) - (shrZ .i32 (IntKind.wrap .i32 y1290) 31))) → (-2147483648 ≤ y1292 ∧ y1292 ≤ 2147483647) →
  ∀ y1293 : Int, y1293 = (IntKind.wrap .i32 ((IntKind.wrap .i32 y1286) - y1292)) → (-2147483648 ≤ y1293 ∧ y1293 ≤ 2147483647) →
  ∀ y1294 : Int, y1294 = (IntKind.wrap .i32 ((bxor .i32 (shrZ .i32 (IntKind.wrap .i32 y1286) 20) (shrZ .i32 (IntKind.wrap .i32 y1290) 31)) - (shrZ .i32 (IntKind.wrap .i32 y1290) 31))) → (-2147483648 ≤ y1294 ∧ y1294 ≤ 2147483647) →
  ∀ y1295 : Int, y1295 = ((IntKind.wrap .i32 (y1282 + y1288)) + y1294) → (-4294967296 ≤ y1295 ∧ y1295 ≤ 4294967294) →
  ∀ y1296 : Int, y1296 = (IntKind.wrap .i32 ((bxor .i32 512 (shrZ .i32 (IntKind.wrap .i32 y1290) 31)) - (shrZ .i32 (IntKind.wrap .i32 y1290) 31))) → (-2147483648 ≤ y1296 ∧ y1296 ≤ 2147483647) →
  ∀ y1297 : Int, y1297 = (IntKind.wrap .i32 ((IntKind.wrap .i32 y1290) - y1296)) → (-2147483648 ≤ y1297 ∧ y1297 ≤ 2147483647) →
  ∀ y1298 : Int, y1298 = (IntKind.wrap .i32 ((bxor .i32 (shrZ .i32 (IntKind.wrap .i32 y1295) 21) (shrZ .i32 y1297 31)) - (shrZ .i32 y1297 31))) → (-2147483648 ≤ y1298 ∧ y1298 ≤ 2147483647) →
  ∀ y1299 : Int, y1299 = (IntKind.wrap .i32 ((bxor .i32 (shrZ .i32 y1293 21) (shrZ .i32 y1297 31)) - (shrZ .i32 y1297 31))) → (-2147483648 ≤ y1299 ∧ y1299 ≤ 2147483647) →
  ∀ y1300 : Int, y1300 = (IntKind.wrap .i32 ((IntKind.wrap .i32 y1295) + y1299)) → (-2147483648 ≤ y1300 ∧ y1300 ≤ 2147483647) →
  ∀ y1301 : Int, y1301 = (IntKind.wrap .i32 ((bxor .i32 256 (shrZ .i32 y1297 31)) - (shrZ .i32 y1297 31))) → (-2147483648 ≤ y1301 ∧ y1301 ≤ 2147483647) →
  ∀ y1302 : Int, y1302 = (shrZ .i32 (IntKind.wrap .i32 (y1297 - y1301)) 31) → (-1 ≤ y1302 ∧ y1302 ≤ 0) →
  ∀ y1303 : Int, y1303 = (IntKind.wrap .i32 ((bxor .i32 (shrZ .i32 y1300 22) y1302) - y1302)) → (-2147483648 ≤ y1303 ∧ y1303 ≤ 2147483647) →
  ∀ y1304 : Int, y1304 = ((IntKind.wrap .i32 (y1293 - y1298)) - y1303) → (-4294967295 ≤ y1304 ∧ y1304 ≤ 4294967295) →
  ∀ y1305 : Int, y1305 = (shrZ .i32 (IntKind.wrap .i32 (y1293 - y1298)) 22) → (-512 ≤ y1305 ∧ y1305 ≤ 511) →
  ∀ y1306 : Int, y1306 = (IntKind.wrap .i32 ((bxor .i32 y1305 y1302) - y1302)) → (-2147483648 ≤ y1306 ∧ y1306 ≤ 2147483647) →
  ∀ y1307 : Int, y1307 = (IntKind.wrap .i32 ((bxor .i32 128 y1302) - y1302)) → (-2147483648 ≤ y1307 ∧ y1307 ≤ 2147483647) →
  ∀ y1308 : Int, y1308 = ((IntKind.wrap .i32 (y1297 - y1301)) - y1307) → (-4294967295 ≤ y1308 ∧ y1308 ≤ 4294967295) →
  ∀ y1309 : Int, y1309 = (shrZ .i32 (IntKind.wrap .i32 (y1300 + y1306)) 23) → (-256 ≤ y1309 ∧ y1309 ≤ 255) →
  ∀ y1310 : Int, y1310 = (IntKind.wrap .i32 ((bxor .i32 y1309 (shrZ .i32 (IntKind.wrap .i32 y1308) 31)) - (shrZ .i32 (IntKind.wrap .i32 y1308) 31))) → (-2147483648 ≤ y1310 ∧ y1310 ≤ 2147483647) →
  ∀ y1311 : Int, y1311 = (IntKind.wrap .i32 ((IntKind.wrap .i32 y1304) - y1310)) → (-2147483648 ≤ y1311 ∧ y1311 ≤ 2147483647) →
  ∀ y1312 : Int, y1312 = (IntKind.wrap .i32 ((bxor .i32 (shrZ .i32 (IntKind.wrap .i32 y1304) 23) (shrZ .i32 (IntKind.wrap .i32 y1308) 31)) - (shrZ .i32 (IntKind.wrap .i32 y1308) 31))) → (-2147483648 ≤ y1312 ∧ y1312 ≤ 2147483647) →
  ∀ y1313 : Int, y1313 = ((IntKind.wrap .i32 (y1300 + y1306)) + y1312) → (-4294967296 ≤ y1313 ∧ y1313 ≤ 4294967294) →
  ∀ y1314 : Int, y1314 = (IntKind.wrap .i32 ((bxor .i32 64 (shrZ .i32 (IntKind.wrap .i32 y1308) 31)) - (shrZ .i32 (IntKind.wrap .i32 y1308) 31))) → (-2147483648 ≤ y1314 ∧ y1314 ≤ 2147483647) →
  ∀ y1315 : Int, y1315 = (IntKind.wrap .i32 ((IntKind.wrap .i32 y1308) - y1314)) → (-2147483648 ≤ y1315 ∧ y1315 ≤ 2147483647) →
  ∀ y1316 : Int, y1316 = (IntKind.wrap .i32 ((bxor .i32 (shrZ .i32 (IntKind.wrap .i32 y1313) 24) (shrZ .i32 y1315 31)) - (shrZ .i32 y1315 31))) → (-2147483648 ≤ y1316 ∧ y1316 ≤ 2147483647) →
  ∀ y1317 : Int, y1317 = (IntKind.wrap .i32 ((bxor .i32 (shrZ .i32 y1311 24) (shrZ .i32 y1315 31)) - (shrZ .i32 y1315 31))) → (-2147483648 ≤ y1317 ∧ y1317 ≤ 2147483647) →
  ∀ y1318 : Int, y1318 = (IntKind.wrap .i32 ((IntKind.wrap .i32 y1313) + y1317)) → (-2147483648 ≤ y1318 ∧ y1318 ≤ 2147483647) →
  ∀ y1319 : Int, y1319 = (IntKind.wrap .i32 ((bxor .i32 32 (shrZ .i32 y1315 31)) - (shrZ .i32 y1315 31))) → (-2147483648 ≤ y1319 ∧ y1319 ≤ 2147483647) →
  ∀ y1320 : Int, y1320 = (shrZ .i32 (IntKind.wrap .i32 (y1315 - y1319)) 31) → (-1 ≤ y1320 ∧ y1320 ≤ 0) →
  ∀ y1321 : Int, y1321 = (IntKind.wrap .i32 ((bxor .i32 (shrZ .i32 y1318 25) y1320) - y1320)) → (-2147483648 ≤ y1321 ∧ y1321 ≤ 2147483647) →
  ∀ y1322 : Int, y1322 = ((IntKind.wrap .i32 (y1311 - y1316)) - y1321) → (-4294967295 ≤ y1322 ∧ y1322 ≤ 4294967295) →
  ∀ y1323 : Int, y1323 = (shrZ .i32 (IntKind.wrap .i32 (y1311 - y1316)) 25) → (-64 ≤ y1323 ∧ y1323 ≤ 63) →
  ∀ y1324 : Int, y1324 = (IntKind.wrap .i32 ((bxor .i32 y1323 y1320) - y1320)) → (-2147483648 ≤ y1324 ∧ y1324 ≤ 2147483647) →
  ∀ y1325 : Int, y1325 = (IntKind.wrap .i32 ((bxor .i32 16 y1320) - y1320)) → (-2147483648 ≤ y1325 ∧ y1325 ≤ 2147483647) →
  ∀ y1326 : Int, y1326 = ((IntKind.wrap .i32 (y1315 - y1319)) - y1325) → (-4294967295 ≤ y1326 ∧ y1326 ≤ 4294967295) →
  ∀ y1327 : Int, y1327 = (shrZ .i32 (IntKind.wrap .i32 (y1318 + y1324)) 26) → (-32 ≤ y1327 ∧ y1327 ≤ 31) →
  ∀ y1328 : Int, y1328 = (IntKind.wrap .i32 ((bxor .i32 y1327 (shrZ .i32 (IntKind.wrap .i32 y1326) 31)) - (shrZ .i32 (IntKind.wrap .i32 y1326) 31))) → (-2147483648 ≤ y1328 ∧ y1328 ≤ 2147483647) →
  ∀ y1329 : Int, y1329 = (IntKind.wrap .i32 ((IntKind.wrap .i32 y1322) - y1328)) → (-2147483648 ≤ y1329 ∧ y1329 ≤ 2147483647) →
  ∀ y1330 : Int, y1330 = (IntKind.wrap .i32 ((bxor .i32 (shrZ .i32 (IntKind.wrap .i32 y1322) 26) (shrZ .i32 (IntKind.wrap .i32 y1326) 31)) - (shrZ .i32 (IntKind.wrap .i32 y1326) 31))) → (-2147483648 ≤ y1330 ∧ y1330 ≤ 2147483647) →
  ∀ y1331 : Int, y1331 = ((IntKind.wrap .i32 (y1318 + y1324)) + y1330) → (-4294967296 ≤ y1331 ∧ y1331 ≤ 4294967294) →
  ∀ y1332 : Int, y1332 = (IntKind.wrap .i32 ((bxor .i32 8 (shrZ .i32 (IntKind.wrap .i32 y1326) 31)) - (shrZ .i32 (IntKind.wrap .i32 y1326) 31))) → (-2147483648 ≤ y1332 ∧ y1332 ≤ 2147483647) →
  ∀ y1333 : Int, y1333 = (IntKind.wrap .i32 ((IntKind.wrap .i32 y1326) - y1332)) → (-2147483648 ≤ y1333 ∧ y1333 ≤ 2147483647) →
  ∀ y1334 : Int, y1334 = (IntKind.wrap .i32 ((bxor .i32 (shrZ .i32 (IntKind.wrap .i32 y1331) 27) (shrZ .i32 y1333 31)) - (shrZ .i32 y1333 31))) → (-2147483648 ≤ y1334 ∧ y1334 ≤ 2147483647) →
  ∀ y1335 : Int, y1335 = (IntKind.wrap .i32 ((bxor .i32 (shrZ .i32 y1329 27) (shrZ .i32 y1333 31)) - (shrZ .i32 y1333 31))) → (-2147483648 ≤ y1335 ∧ y1335 ≤ 2147483647) →
  ∀ y1336 : Int, y1336 = (IntKind.wrap .i32 ((IntKind.wrap .i32 y1331) + y1335)) → (-2147483648 ≤ y1336 ∧ y1336 ≤ 2147483647) →
  ∀ y1337 : Int, y1337 = (IntKind.wrap .i32 ((bxor .i32 4 (shrZ .i32 y1333 31)) - (shrZ .i32 y1333 31))) → (-2147483648 ≤ y1337 ∧ y1337 ≤ 2147483647) →
  (((bool01 ((IntKind.wrap .i32 (y1161 + y1167)) == y1336)) ≠ 0 →
   (((bool01 (y1170 == (IntKind.wrap .i32 (y1329 - y1334)))) ≠ 0 →
    (1 : Int) ≠ 0) ∧ ((bool01 (y1170 == (IntKind.wrap .i32 (y1329 - y1334)))) = 0 →
    (0 : Int) ≠ 0))) ∧ ((bool01 ((IntKind.wrap .i32 (y1161 + y1167)) == y1336)) = 0 →
   (0 : Int) ≠ 0))))

noncomputable def cxP : Cx := cxOf 2 [(-2147483648, 2147483647)]
theorem plain (a0 : Int) : (fun ρ => (trT1.holdsL cxP (fun la => trWb0.holdsL cxP (fun lb => cmpL ((1 : Int) ≠ 0) la lb) ρ) ρ)) (envOf [a0, 0]) = P a0 := by kernel_rfl
theorem tidy0 : T.tidyV cxP [] trT1 = true := by kernel_rfl
theorem tidy1 : T.tidyV cxP [] trWb0 = true := by kernel_rfl

theorem wrap_id {x : Int} (l : -2147483648 ≤ x) (u : x ≤ 2147483647) : IntKind.wrap .i32 x = x := wrap_in .i32 x (by simpa [klo] using l) (by simpa [khi] using u)
theorem wrap_bv (x : Int) : IntKind.wrap .i32 (BitVec.ofInt 32 x).toNat = IntKind.wrap .i32 x := by
  rw [wi32, wi32, BitVec.toNat_ofInt]
  have e : (((x % ((2 ^ 32 : Nat) : Int)).toNat : Nat) : Int) % 4294967296 = x % 4294967296 := by omega
  rw [e]
theorem and_one (x : Int) : band .i32 x (-1) = IntKind.wrap .i32 x := by
  show IntKind.wrap .i32 (BitVec.ofInt 32 x &&& BitVec.ofInt 32 (-1)).toNat = _
  rw [show BitVec.ofInt 32 (-1) = BitVec.allOnes 32 from by decide, BitVec.and_allOnes, wrap_bv]
theorem and_zero (x : Int) : band .i32 x 0 = 0 := by
  show IntKind.wrap .i32 (BitVec.ofInt 32 x &&& BitVec.ofInt 32 0).toNat = _
  rw [show BitVec.ofInt 32 0 = 0#32 from by decide, BitVec.and_zero]; decide
theorem andn_one (x : Int) : bandn .i32 x (-1) = 0 := by
  show IntKind.wrap .i32 (BitVec.ofInt 32 x &&& ~~~(BitVec.ofInt 32 (-1))).toNat = _
  rw [show ~~~(BitVec.ofInt 32 (-1)) = 0#32 from by decide, BitVec.and_zero]; decide
theorem andn_zero (x : Int) : bandn .i32 x 0 = IntKind.wrap .i32 x := by
  show IntKind.wrap .i32 (BitVec.ofInt 32 x &&& ~~~(BitVec.ofInt 32 0)).toNat = _
  rw [show ~~~(BitVec.ofInt 32 0) = BitVec.allOnes 32 from by decide, BitVec.and_allOnes, wrap_bv]
theorem or_zero (x : Int) : bor .i32 x 0 = IntKind.wrap .i32 x := by
  show IntKind.wrap .i32 (BitVec.ofInt 32 x ||| BitVec.ofInt 32 0).toNat = _
  rw [show BitVec.ofInt 32 0 = 0#32 from by decide, BitVec.or_zero, wrap_bv]
theorem zero_or (x : Int) : bor .i32 0 x = IntKind.wrap .i32 x := by
  show IntKind.wrap .i32 (BitVec.ofInt 32 0 ||| BitVec.ofInt 32 x).toNat = _
  rw [show BitVec.ofInt 32 0 = 0#32 from by decide, BitVec.zero_or, wrap_bv]
theorem xor_zero {x : Int} (l : -2147483648 ≤ x) (u : x ≤ 2147483647) : bxor .i32 x 0 = x := by
  show IntKind.wrap .i32 (BitVec.ofInt 32 x ^^^ BitVec.ofInt 32 0).toNat = _
  rw [show BitVec.ofInt 32 0 = 0#32 from by decide, BitVec.xor_zero, wrap_bv, wrap_id l u]
theorem xor_neg1 {x : Int} (l : -2147483648 ≤ x) (u : x ≤ 2147483647) : bxor .i32 x (-1) = -x - 1 := by
  show IntKind.wrap .i32 (BitVec.ofInt 32 x ^^^ BitVec.ofInt 32 (-1)).toNat = _
  rw [show BitVec.ofInt 32 (-1) = BitVec.allOnes 32 from by decide, BitVec.xor_allOnes, BitVec.toNat_not, BitVec.toNat_ofInt, wi32]
  have : (((x % ((2 ^ 32 : Nat) : Int)).toNat : Nat) : Int) = x % 4294967296 := by omega
  omega
theorem sel_one {x : Int} (y : Int) : bor .i32 (band .i32 (IntKind.wrap .i32 y) (-1)) (bandn .i32 x (-1)) = IntKind.wrap .i32 y := by
  rw [and_one, andn_one, or_zero, wrap_wrap .i32 .i32 _ (by decide), wrap_wrap .i32 .i32 _ (by decide)]
theorem sel_zero {x : Int} (y : Int) (l : -2147483648 ≤ x) (u : x ≤ 2147483647) : bor .i32 (band .i32 y 0) (bandn .i32 x 0) = x := by
  rw [and_zero, andn_zero, zero_or, wrap_wrap .i32 .i32 _ (by decide), wrap_id l u]
theorem sign_neg {x : Int} (l : -2147483648 ≤ x) (u : x < 0) : shrZ .i32 x 31 = -1 := by
  have h := sign_ref (x := x) ⟨l, by omega⟩
  rw [show shrZ .i32 x 31 = BO.ev .shr .i32 x 31 from rfl, ← h]; simp [bool01, u]
theorem sign_pos {x : Int} (l : 0 ≤ x) (u : x ≤ 2147483647) : shrZ .i32 x 31 = 0 := by
  have h := sign_ref (x := x) ⟨by omega, u⟩
  rw [show shrZ .i32 x 31 = BO.ev .shr .i32 x 31 from rfl, ← h]; simp [bool01, show ¬ x < 0 by omega]
theorem fl_neg {x : Int} (l : -2147483648 ≤ x) (u : x ≤ 2147483647) : IntKind.wrap .i32 (bxor .i32 x (-1) - (-1)) = IntKind.wrap .i32 (0 - x) := by
  rw [xor_neg1 l u]; congr 1; omega
theorem fl_zero {x : Int} (l : -2147483648 ≤ x) (u : x ≤ 2147483647) : IntKind.wrap .i32 (bxor .i32 x 0 - 0) = x := by
  rw [xor_zero l u, Int.sub_zero]; exact wrap_id l u
set_option maxHeartbeats 4000000 in
theorem holds (a0 : Int) (l0 : -2147483648 ≤ a0) (u0 : a0 ≤ 2147483647) : P a0 := by
  unfold P
  intro y1000 e1000 _ y1001 e1001 ⟨l01, u01⟩ y1002 e1002 _ y1003 e1003 _ y1004 e1004 _ y1005 e1005 _ y1006 e1006 _ y1007 e1007 _ y1008 e1008 _ y1009 e1009 _ y1010 e1010 _ y1011 e1011 _ y1012 e1012 _ y1013 e1013 _ y1014 e1014 _ y1015 e1015 _ y1016 e1016 _ y1017 e1017 _ y1018 e1018 _ y1019 e1019 _ y1020 e1020 _ y1021 e1021 _ y1022 e1022 _ y1023 e1023 _ y1024 e1024 _ y1025 e1025 _ y1026 e1026 _ y1027 e1027 _ y1028 e1028 _ y1029 e1029 _ y1030 e1030 _ y1031 e1031 _ y1032 e1032 _ y1033 e1033 _ y1034 e1034 _ y1035 e1035 _ y1036 e1036 _ y1037 e1037 _ y1038 e1038 _ y1039 e1039 _ y1040 e1040 _ y1041 e1041 _ y1042 e1042 _ y1043 e1043 _ y1044 e1044 _ y1045 e1045 _ y1046 e1046 _ y1047 e1047 _ y1048 e1048 _ y1049 e1049 _ y1050 e1050 _ y1051 e1051 _ y1052 e1052 _ y1053 e1053 _ y1054 e1054 _ y1055 e1055 _ y1056 e1056 _ y1057 e1057 _ y1058 e1058 _ y1059 e1059 _ y1060 e1060 _ y1061 e1061 _ y1062 e1062 _ y1063 e1063 _ y1064 e1064 _ y1065 e1065 _ y1066 e1066 _ y1067 e1067 _ y1068 e1068 _ y1069 e1069 _ y1070 e1070 _ y1071 e1071 _ y1072 e1072 _ y1073 e1073 _ y1074 e1074 _ y1075 e1075 _ y1076 e1076 _ y1077 e1077 _ y1078 e1078 _ y1079 e1079 _ y1080 e1080 _ y1081 e1081 _ y1082 e1082 _ y1083 e1083 _ y1084 e1084 _ y1085 e1085 _ y1086 e1086 _ y1087 e1087 _ y1088 e1088 _ y1089 e1089 _ y1090 e1090 _ y1091 e1091 _ y1092 e1092 _ y1093 e1093 _ y1094 e1094 _ y1095 e1095 _ y1096 e1096 _ y1097 e1097 _ y1098 e1098 _ y1099 e1099 _ y1100 e1100 _ y1101 e1101 _ y1102 e1102 _ y1103 e1103 _ y1104 e1104 _ y1105 e1105 _ y1106 e1106 _ y1107 e1107 _ y1108 e1108 _ y1109 e1109 _ y1110 e1110 _ y1111 e1111 _ y1112 e1112 _ y1113 e1113 _ y1114 e1114 _ y1115 e1115 _ y1116 e1116 _ y1117 e1117 _ y1118 e1118 _ y1119 e1119 _ y1120 e1120 _ y1121 e1121 _ y1122 e1122 _ y1123 e1123 _ y1124 e1124 _ y1125 e1125 _ y1126 e1126 _ y1127 e1127 _ y1128 e1128 _ y1129 e1129 _ y1130 e1130 _ y1131 e1131 _ y1132 e1132 _ y1133 e1133 _ y1134 e1134 _ y1135 e1135 _ y1136 e1136 _ y1137 e1137 _ y1138 e1138 _ y1139 e1139 _ y1140 e1140 _ y1141 e1141 _ y1142 e1142 _ y1143 e1143 _ y1144 e1144 _ y1145 e1145 _ y1146 e1146 _ y1147 e1147 _ y1148 e1148 _ y1149 e1149 _ y1150 e1150 _ y1151 e1151 _ y1152 e1152 _ y1153 e1153 _ y1154 e1154 _ y1155 e1155 _ y1156 e1156 _ y1157 e1157 _ y1158 e1158 _ y1159 e1159 _ y1160 e1160 _ y1161 e1161 _ y1162 e1162 _ y1163 e1163 _ y1164 e1164 _ y1165 e1165 ⟨l65, u65⟩ y1166 e1166 _ y1167 e1167 _ y1168 e1168 _ y1169 e1169 _ y1170 e1170 _ y1171 e1171 _
  have q1171 : y1171 = y1000 := by rw [e1171, e1000]
  rw [q1171]
  refine ⟨fun g1 => ?_, fun g1 => ?_⟩
  · have g : 843314857 < y1000 := by simpa [bool01] using g1
    have s1 : y1001 = -1 := by rw [e1001]; simp [bool01, iteZ, g]
    refine ⟨fun g2 => ?_, fun g2 => ?_⟩
    · have g3 : a0 < 0 := by simpa [bool01] using g2
      have s3 : y1003 = IntKind.wrap .i32 ((-1686629713) - a0) := by
        have sg : shrZ .i32 a0 31 = -1 := sign_neg l0 g3
        rw [e1003, e1002, s1, sg]
        show bor .i32 (band .i32 (IntKind.wrap .i32 ((-1686629713) - a0)) (-1)) (bandn .i32 a0 (-1)) = _
        exact sel_one _
      intro y1174 e1174 _ y1175 e1175 _ y1176 e1176 _ y1177 e1177 _ y1178 e1178 _ y1179 e1179 _ y1180 e1180 _ y1181 e1181 _ y1182 e1182 _ y1183 e1183 _ y1184 e1184 _ y1185 e1185 _ y1186 e1186 _ y1187 e1187 _ y1188 e1188 _ y1189 e1189 _ y1190 e1190 _ y1191 e1191 _ y1192 e1192 _ y1193 e1193 _ y1194 e1194 _ y1195 e1195 _ y1196 e1196 _ y1197 e1197 _ y1198 e1198 _ y1199 e1199 _ y1200 e1200 _ y1201 e1201 _ y1202 e1202 _ y1203 e1203 _ y1204 e1204 _ y1205 e1205 _ y1206 e1206 _ y1207 e1207 _ y1208 e1208 _ y1209 e1209 _ y1210 e1210 _ y1211 e1211 _ y1212 e1212 _ y1213 e1213 _ y1214 e1214 _ y1215 e1215 _ y1216 e1216 _ y1217 e1217 _ y1218 e1218 _ y1219 e1219 _ y1220 e1220 _ y1221 e1221 _ y1222 e1222 _ y1223 e1223 _ y1224 e1224 _ y1225 e1225 _ y1226 e1226 _ y1227 e1227 _ y1228 e1228 _ y1229 e1229 _ y1230 e1230 _ y1231 e1231 _ y1232 e1232 _ y1233 e1233 _ y1234 e1234 _ y1235 e1235 _ y1236 e1236 _ y1237 e1237 _ y1238 e1238 _ y1239 e1239 _ y1240 e1240 _ y1241 e1241 _ y1242 e1242 _ y1243 e1243 _ y1244 e1244 _ y1245 e1245 _ y1246 e1246 _ y1247 e1247 _ y1248 e1248 _ y1249 e1249 _ y1250 e1250 _ y1251 e1251 _ y1252 e1252 _ y1253 e1253 _ y1254 e1254 _ y1255 e1255 _ y1256 e1256 _ y1257 e1257 _ y1258 e1258 _ y1259 e1259 _ y1260 e1260 _ y1261 e1261 _ y1262 e1262 _ y1263 e1263 _ y1264 e1264 _ y1265 e1265 _ y1266 e1266 _ y1267 e1267 _ y1268 e1268 _ y1269 e1269 _ y1270 e1270 _ y1271 e1271 _ y1272 e1272 _ y1273 e1273 _ y1274 e1274 _ y1275 e1275 _ y1276 e1276 _ y1277 e1277 _ y1278 e1278 _ y1279 e1279 _ y1280 e1280 _ y1281 e1281 _ y1282 e1282 _ y1283 e1283 _ y1284 e1284 _ y1285 e1285 _ y1286 e1286 _ y1287 e1287 _ y1288 e1288 _ y1289 e1289 _ y1290 e1290 _ y1291 e1291 _ y1292 e1292 _ y1293 e1293 _ y1294 e1294 _ y1295 e1295 _ y1296 e1296 _ y1297 e1297 _ y1298 e1298 _ y1299 e1299 _ y1300 e1300 _ y1301 e1301 _ y1302 e1302 _ y1303 e1303 _ y1304 e1304 _ y1305 e1305 _ y1306 e1306 _ y1307 e1307 _ y1308 e1308 _ y1309 e1309 _ y1310 e1310 _ y1311 e1311 _ y1312 e1312 _ y1313 e1313 _ y1314 e1314 _ y1315 e1315 _ y1316 e1316 _ y1317 e1317 _ y1318 e1318 _ y1319 e1319 _ y1320 e1320 _ y1321 e1321 _ y1322 e1322 _ y1323 e1323 _ y1324 e1324 _ y1325 e1325 _ y1326 e1326 _ y1327 e1327 _ y1328 e1328 _ y1329 e1329 _ y1330 e1330 _ y1331 e1331 _ y1332 e1332 _ y1333 e1333 _ y1334 e1334 _ y1335 e1335 _ y1336 e1336 _ y1337 e1337 _ y1338 e1338 _ y1339 e1339 _ y1340 e1340 _ y1341 e1341 _
      have q1174 : y1174 = (shrZ .i32 y1003 31) := by rw [e1174, s3]
      have q1175 : y1175 = y1004 := by rw [e1175, q1174, e1004]
      have q1176 : y1176 = y1005 := by rw [e1176, q1174, e1005]
      have q1177 : y1177 = y1006 := by rw [e1177, q1174, e1006]
      have q1178 : y1178 = (y1003 - y1006) := by rw [e1178, q1177, s3]
      have q1179 : y1179 = y1008 := by rw [e1179, q1176, q1178, e1008, e1007]
      have q1180 : y1180 = ((IntKind.wrap .i32 (652032874 - y1004)) - y1008) := by rw [e1180, q1175, q1179]
      have q1181 : y1181 = y1010 := by rw [e1181, q1175, e1010]
      have q1182 : y1182 = y1011 := by rw [e1182, q1181, q1178, e1011, e1007]
      have q1183 : y1183 = y1012 := by rw [e1183, q1178, e1012, e1007]
      have q1184 : y1184 = y1013 := by rw [e1184, q1178, q1183, e1013]
      have q1185 : y1185 = y1014 := by rw [e1185, q1176, q1182, e1014]
      have q1186 : y1186 = y1015 := by rw [e1186, q1185, q1184, e1015]
      have q1187 : y1187 = (IntKind.wrap .i32 (y1009 - y1015)) := by rw [e1187, q1180, q1186, e1009]
      have q1188 : y1188 = y1016 := by rw [e1188, q1180, q1184, e1016, e1009]
      have q1189 : y1189 = ((IntKind.wrap .i32 (y1005 + y1011)) + y1016) := by rw [e1189, q1176, q1182, q1188]
      have q1190 : y1190 = y1018 := by rw [e1190, q1184, e1018]
      have q1191 : y1191 = y1019 := by rw [e1191, q1184, q1190, e1019]
      have q1192 : y1192 = y1020 := by rw [e1192, q1189, q1191, e1020, e1017]
      have q1193 : y1193 = y1023 := by rw [e1193, q1187, q1191, e1023, e1022]
      have q1194 : y1194 = (IntKind.wrap .i32 (y1017 + y1023)) := by rw [e1194, q1189, q1193, e1017]
      have q1195 : y1195 = y1024 := by rw [e1195, q1191, e1024]
      have q1196 : y1196 = ((IntKind.wrap .i32 (y1013 - y1018)) - y1024) := by rw [e1196, q1184, q1190, q1195]
      have q1197 : y1197 = y1027 := by rw [e1197, q1194, q1196, e1027, e1025, e1026]
      have q1198 : y1198 = (y1021 - y1027) := by rw [e1198, q1187, q1192, q1197, e1021]
      have q1199 : y1199 = (shrZ .i32 y1021 4) := by rw [e1199, q1187, q1192, e1021]
      have q1200 : y1200 = y1028 := by rw [e1200, q1199, q1196, e1028, e1025]
      have q1201 : y1201 = y1030 := by rw [e1201, q1196, e1030, e1025]
      have q1202 : y1202 = (IntKind.wrap .i32 (y1025 - y1030)) := by rw [e1202, q1196, q1201, e1025]
      have q1203 : y1203 = (shrZ .i32 y1029 5) := by rw [e1203, q1194, q1200, e1029]
      have q1204 : y1204 = y1032 := by rw [e1204, q1203, q1202, e1032, e1031]
      have q1205 : y1205 = y1033 := by rw [e1205, q1198, q1204, e1033]
      have q1206 : y1206 = y1035 := by rw [e1206, q1198, q1202, e1035, e1031, e1034]
      have q1207 : y1207 = (y1029 + y1035) := by rw [e1207, q1194, q1200, q1206, e1029]
      have q1208 : y1208 = y1036 := by rw [e1208, q1202, e1036, e1031]
      have q1209 : y1209 = (shrZ .i32 y1037 31) := by rw [e1209, q1202, q1208, e1037]
      have q1210 : y1210 = y1039 := by rw [e1210, q1207, q1209, e1039, e1038]
      have q1211 : y1211 = y1040 := by rw [e1211, q1205, q1209, e1040]
      have q1212 : y1212 = y1041 := by rw [e1212, q1207, q1211, e1041]
      have q1213 : y1213 = y1042 := by rw [e1213, q1209, e1042]
      have q1214 : y1214 = (y1037 - y1042) := by rw [e1214, q1202, q1208, q1213, e1037]
      have q1215 : y1215 = y1044 := by rw [e1215, q1212, q1214, e1044, e1043]
      have q1216 : y1216 = ((IntKind.wrap .i32 (y1033 - y1039)) - y1044) := by rw [e1216, q1205, q1210, q1215]
      have q1217 : y1217 = y1046 := by rw [e1217, q1205, q1210, e1046]
      have q1218 : y1218 = y1047 := by rw [e1218, q1217, q1214, e1047, e1043]
      have q1219 : y1219 = y1048 := by rw [e1219, q1214, e1048, e1043]
      have q1220 : y1220 = y1049 := by rw [e1220, q1214, q1219, e1049]
      have q1221 : y1221 = y1050 := by rw [e1221, q1212, q1218, e1050]
      have q1222 : y1222 = y1051 := by rw [e1222, q1221, q1220, e1051]
      have q1223 : y1223 = (IntKind.wrap .i32 (y1045 - y1051)) := by rw [e1223, q1216, q1222, e1045]
      have q1224 : y1224 = y1052 := by rw [e1224, q1216, q1220, e1052, e1045]
      have q1225 : y1225 = ((IntKind.wrap .i32 (y1041 + y1047)) + y1052) := by rw [e1225, q1212, q1218, q1224]
      have q1226 : y1226 = y1054 := by rw [e1226, q1220, e1054]
      have q1227 : y1227 = y1055 := by rw [e1227, q1220, q1226, e1055]
      have q1228 : y1228 = y1056 := by rw [e1228, q1225, q1227, e1056, e1053]
      have q1229 : y1229 = y1059 := by rw [e1229, q1223, q1227, e1059, e1058]
      have q1230 : y1230 = (IntKind.wrap .i32 (y1053 + y1059)) := by rw [e1230, q1225, q1229, e1053]
      have q1231 : y1231 = y1060 := by rw [e1231, q1227, e1060]
      have q1232 : y1232 = ((IntKind.wrap .i32 (y1049 - y1054)) - y1060) := by rw [e1232, q1220, q1226, q1231]
      have q1233 : y1233 = y1063 := by rw [e1233, q1230, q1232, e1063, e1061, e1062]
      have q1234 : y1234 = (y1057 - y1063) := by rw [e1234, q1223, q1228, q1233, e1057]
      have q1235 : y1235 = (shrZ .i32 y1057 10) := by rw [e1235, q1223, q1228, e1057]
      have q1236 : y1236 = y1064 := by rw [e1236, q1235, q1232, e1064, e1061]
      have q1237 : y1237 = y1066 := by rw [e1237, q1232, e1066, e1061]
      have q1238 : y1238 = (IntKind.wrap .i32 (y1061 - y1066)) := by rw [e1238, q1232, q1237, e1061]
      have q1239 : y1239 = (shrZ .i32 y1065 11) := by rw [e1239, q1230, q1236, e1065]
      have q1240 : y1240 = y1068 := by rw [e1240, q1239, q1238, e1068, e1067]
      have q1241 : y1241 = y1069 := by rw [e1241, q1234, q1240, e1069]
      have q1242 : y1242 = y1071 := by rw [e1242, q1234, q1238, e1071, e1067, e1070]
      have q1243 : y1243 = (y1065 + y1071) := by rw [e1243, q1230, q1236, q1242, e1065]
      have q1244 : y1244 = y1072 := by rw [e1244, q1238, e1072, e1067]
      have q1245 : y1245 = (shrZ .i32 y1073 31) := by rw [e1245, q1238, q1244, e1073]
      have q1246 : y1246 = y1075 := by rw [e1246, q1243, q1245, e1075, e1074]
      have q1247 : y1247 = y1076 := by rw [e1247, q1241, q1245, e1076]
      have q1248 : y1248 = y1077 := by rw [e1248, q1243, q1247, e1077]
      have q1249 : y1249 = y1078 := by rw [e1249, q1245, e1078]
      have q1250 : y1250 = (y1073 - y1078) := by rw [e1250, q1238, q1244, q1249, e1073]
      have q1251 : y1251 = y1080 := by rw [e1251, q1248, q1250, e1080, e1079]
      have q1252 : y1252 = ((IntKind.wrap .i32 (y1069 - y1075)) - y1080) := by rw [e1252, q1241, q1246, q1251]
      have q1253 : y1253 = y1082 := by rw [e1253, q1241, q1246, e1082]
      have q1254 : y1254 = y1083 := by rw [e1254, q1253, q1250, e1083, e1079]
      have q1255 : y1255 = y1084 := by rw [e1255, q1250, e1084, e1079]
      have q1256 : y1256 = y1085 := by rw [e1256, q1250, q1255, e1085]
      have q1257 : y1257 = y1086 := by rw [e1257, q1248, q1254, e1086]
      have q1258 : y1258 = y1087 := by rw [e1258, q1257, q1256, e1087]
      have q1259 : y1259 = (IntKind.wrap .i32 (y1081 - y1087)) := by rw [e1259, q1252, q1258, e1081]
      have q1260 : y1260 = y1088 := by rw [e1260, q1252, q1256, e1088, e1081]
      have q1261 : y1261 = ((IntKind.wrap .i32 (y1077 + y1083)) + y1088) := by rw [e1261, q1248, q1254, q1260]
      have q1262 : y1262 = y1090 := by rw [e1262, q1256, e1090]
      have q1263 : y1263 = y1091 := by rw [e1263, q1256, q1262, e1091]
      have q1264 : y1264 = y1092 := by rw [e1264, q1261, q1263, e1092, e1089]
      have q1265 : y1265 = y1095 := by rw [e1265, q1259, q1263, e1095, e1094]
      have q1266 : y1266 = (IntKind.wrap .i32 (y1089 + y1095)) := by rw [e1266, q1261, q1265, e1089]
      have q1267 : y1267 = y1096 := by rw [e1267, q1263, e1096]
      have q1268 : y1268 = ((IntKind.wrap .i32 (y1085 - y1090)) - y1096) := by rw [e1268, q1256, q1262, q1267]
      have q1269 : y1269 = y1099 := by rw [e1269, q1266, q1268, e1099, e1097, e1098]
      have q1270 : y1270 = (y1093 - y1099) := by rw [e1270, q1259, q1264, q1269, e1093]
      have q1271 : y1271 = (shrZ .i32 y1093 16) := by rw [e1271, q1259, q1264, e1093]
      have q1272 : y1272 = y1100 := by rw [e1272, q1271, q1268, e1100, e1097]
      have q1273 : y1273 = y1102 := by rw [e1273, q1268, e1102, e1097]
      have q1274 : y1274 = (IntKind.wrap .i32 (y1097 - y1102)) := by rw [e1274, q1268, q1273, e1097]
      have q1275 : y1275 = (shrZ .i32 y1101 17) := by rw [e1275, q1266, q1272, e1101]
      have q1276 : y1276 = y1104 := by rw [e1276, q1275, q1274, e1104, e1103]
      have q1277 : y1277 = y1105 := by rw [e1277, q1270, q1276, e1105]
      have q1278 : y1278 = y1107 := by rw [e1278, q1270, q1274, e1107, e1103, e1106]
      have q1279 : y1279 = (y1101 + y1107) := by rw [e1279, q1266, q1272, q1278, e1101]
      have q1280 : y1280 = y1108 := by rw [e1280, q1274, e1108, e1103]
      have q1281 : y1281 = (shrZ .i32 y1109 31) := by rw [e1281, q1274, q1280, e1109]
      have q1282 : y1282 = y1111 := by rw [e1282, q1279, q1281, e1111, e1110]
      have q1283 : y1283 = y1112 := by rw [e1283, q1277, q1281, e1112]
      have q1284 : y1284 = y1113 := by rw [e1284, q1279, q1283, e1113]
      have q1285 : y1285 = y1114 := by rw [e1285, q1281, e1114]
      have q1286 : y1286 = (y1109 - y1114) := by rw [e1286, q1274, q1280, q1285, e1109]
      have q1287 : y1287 = y1116 := by rw [e1287, q1284, q1286, e1116, e1115]
      have q1288 : y1288 = ((IntKind.wrap .i32 (y1105 - y1111)) - y1116) := by rw [e1288, q1277, q1282, q1287]
      have q1289 : y1289 = y1118 := by rw [e1289, q1277, q1282, e1118]
      have q1290 : y1290 = y1119 := by rw [e1290, q1289, q1286, e1119, e1115]
      have q1291 : y1291 = y1120 := by rw [e1291, q1286, e1120, e1115]
      have q1292 : y1292 = y1121 := by rw [e1292, q1286, q1291, e1121]
      have q1293 : y1293 = y1122 := by rw [e1293, q1284, q1290, e1122]
      have q1294 : y1294 = y1123 := by rw [e1294, q1293, q1292, e1123]
      have q1295 : y1295 = (IntKind.wrap .i32 (y1117 - y1123)) := by rw [e1295, q1288, q1294, e1117]
      have q1296 : y1296 = y1124 := by rw [e1296, q1288, q1292, e1124, e1117]
      have q1297 : y1297 = ((IntKind.wrap .i32 (y1113 + y1119)) + y1124) := by rw [e1297, q1284, q1290, q1296]
      have q1298 : y1298 = y1126 := by rw [e1298, q1292, e1126]
      have q1299 : y1299 = y1127 := by rw [e1299, q1292, q1298, e1127]
      have q1300 : y1300 = y1128 := by rw [e1300, q1297, q1299, e1128, e1125]
      have q1301 : y1301 = y1131 := by rw [e1301, q1295, q1299, e1131, e1130]
      have q1302 : y1302 = (IntKind.wrap .i32 (y1125 + y1131)) := by rw [e1302, q1297, q1301, e1125]
      have q1303 : y1303 = y1132 := by rw [e1303, q1299, e1132]
      have q1304 : y1304 = ((IntKind.wrap .i32 (y1121 - y1126)) - y1132) := by rw [e1304, q1292, q1298, q1303]
      have q1305 : y1305 = y1135 := by rw [e1305, q1302, q1304, e1135, e1133, e1134]
      have q1306 : y1306 = (y1129 - y1135) := by rw [e1306, q1295, q1300, q1305, e1129]
      have q1307 : y1307 = (shrZ .i32 y1129 22) := by rw [e1307, q1295, q1300, e1129]
      have q1308 : y1308 = y1136 := by rw [e1308, q1307, q1304, e1136, e1133]
      have q1309 : y1309 = y1138 := by rw [e1309, q1304, e1138, e1133]
      have q1310 : y1310 = (IntKind.wrap .i32 (y1133 - y1138)) := by rw [e1310, q1304, q1309, e1133]
      have q1311 : y1311 = (shrZ .i32 y1137 23) := by rw [e1311, q1302, q1308, e1137]
      have q1312 : y1312 = y1140 := by rw [e1312, q1311, q1310, e1140, e1139]
      have q1313 : y1313 = y1141 := by rw [e1313, q1306, q1312, e1141]
      have q1314 : y1314 = y1143 := by rw [e1314, q1306, q1310, e1143, e1139, e1142]
      have q1315 : y1315 = (y1137 + y1143) := by rw [e1315, q1302, q1308, q1314, e1137]
      have q1316 : y1316 = y1144 := by rw [e1316, q1310, e1144, e1139]
      have q1317 : y1317 = (shrZ .i32 y1145 31) := by rw [e1317, q1310, q1316, e1145]
      have q1318 : y1318 = y1147 := by rw [e1318, q1315, q1317, e1147, e1146]
      have q1319 : y1319 = y1148 := by rw [e1319, q1313, q1317, e1148]
      have q1320 : y1320 = y1149 := by rw [e1320, q1315, q1319, e1149]
      have q1321 : y1321 = y1150 := by rw [e1321, q1317, e1150]
      have q1322 : y1322 = (y1145 - y1150) := by rw [e1322, q1310, q1316, q1321, e1145]
      have q1323 : y1323 = y1152 := by rw [e1323, q1320, q1322, e1152, e1151]
      have q1324 : y1324 = ((IntKind.wrap .i32 (y1141 - y1147)) - y1152) := by rw [e1324, q1313, q1318, q1323]
      have q1325 : y1325 = y1154 := by rw [e1325, q1313, q1318, e1154]
      have q1326 : y1326 = y1155 := by rw [e1326, q1325, q1322, e1155, e1151]
      have q1327 : y1327 = y1156 := by rw [e1327, q1322, e1156, e1151]
      have q1328 : y1328 = y1157 := by rw [e1328, q1322, q1327, e1157]
      have q1329 : y1329 = y1158 := by rw [e1329, q1320, q1326, e1158]
      have q1330 : y1330 = y1159 := by rw [e1330, q1329, q1328, e1159]
      have q1331 : y1331 = (IntKind.wrap .i32 (y1153 - y1159)) := by rw [e1331, q1324, q1330, e1153]
      have q1332 : y1332 = y1160 := by rw [e1332, q1324, q1328, e1160, e1153]
      have q1333 : y1333 = ((IntKind.wrap .i32 (y1149 + y1155)) + y1160) := by rw [e1333, q1320, q1326, q1332]
      have q1334 : y1334 = y1162 := by rw [e1334, q1328, e1162]
      have q1335 : y1335 = y1163 := by rw [e1335, q1328, q1334, e1163]
      have q1336 : y1336 = y1164 := by rw [e1336, q1333, q1335, e1164, e1161]
      have q1337 : y1337 = y1167 := by rw [e1337, q1331, q1335, e1167, e1166]
      have q1338 : y1338 = (IntKind.wrap .i32 (y1161 + y1167)) := by rw [e1338, q1333, q1337, e1161]
      have q1339 : y1339 = y1168 := by rw [e1339, q1335, e1168]
      have q1340 : y1340 = ((IntKind.wrap .i32 (y1157 - y1162)) - y1168) := by rw [e1340, q1328, q1334, q1339]
      have q1341 : y1341 = (0 - y1165) := by rw [e1341, q1331, q1336, e1165]
      have r1 : y1338 = (IntKind.wrap .i32 (y1161 + y1167)) := by rw [q1338]
      have r2 : (IntKind.wrap .i32 y1341) = (IntKind.wrap .i32 (0 - y1165)) := by rw [q1341]
      have f1 : y1170 = (IntKind.wrap .i32 (0 - y1165)) := by
        rw [e1170, s1, fl_neg l65 u65]
      rw [r1, r2, ← f1]
      simp [bool01]
    · have g3 : 0 ≤ a0 := by simpa [bool01] using g2
      have s3 : y1003 = IntKind.wrap .i32 ((1686629713) - a0) := by
        have sg : shrZ .i32 a0 31 = 0 := sign_pos g3 u0
        rw [e1003, e1002, s1, sg]
        show bor .i32 (band .i32 (IntKind.wrap .i32 ((1686629713) - a0)) (-1)) (bandn .i32 a0 (-1)) = _
        exact sel_one _
      intro y1174 e1174 _ y1175 e1175 _ y1176 e1176 _ y1177 e1177 _ y1178 e1178 _ y1179 e1179 _ y1180 e1180 _ y1181 e1181 _ y1182 e1182 _ y1183 e1183 _ y1184 e1184 _ y1185 e1185 _ y1186 e1186 _ y1187 e1187 _ y1188 e1188 _ y1189 e1189 _ y1190 e1190 _ y1191 e1191 _ y1192 e1192 _ y1193 e1193 _ y1194 e1194 _ y1195 e1195 _ y1196 e1196 _ y1197 e1197 _ y1198 e1198 _ y1199 e1199 _ y1200 e1200 _ y1201 e1201 _ y1202 e1202 _ y1203 e1203 _ y1204 e1204 _ y1205 e1205 _ y1206 e1206 _ y1207 e1207 _ y1208 e1208 _ y1209 e1209 _ y1210 e1210 _ y1211 e1211 _ y1212 e1212 _ y1213 e1213 _ y1214 e1214 _ y1215 e1215 _ y1216 e1216 _ y1217 e1217 _ y1218 e1218 _ y1219 e1219 _ y1220 e1220 _ y1221 e1221 _ y1222 e1222 _ y1223 e1223 _ y1224 e1224 _ y1225 e1225 _ y1226 e1226 _ y1227 e1227 _ y1228 e1228 _ y1229 e1229 _ y1230 e1230 _ y1231 e1231 _ y1232 e1232 _ y1233 e1233 _ y1234 e1234 _ y1235 e1235 _ y1236 e1236 _ y1237 e1237 _ y1238 e1238 _ y1239 e1239 _ y1240 e1240 _ y1241 e1241 _ y1242 e1242 _ y1243 e1243 _ y1244 e1244 _ y1245 e1245 _ y1246 e1246 _ y1247 e1247 _ y1248 e1248 _ y1249 e1249 _ y1250 e1250 _ y1251 e1251 _ y1252 e1252 _ y1253 e1253 _ y1254 e1254 _ y1255 e1255 _ y1256 e1256 _ y1257 e1257 _ y1258 e1258 _ y1259 e1259 _ y1260 e1260 _ y1261 e1261 _ y1262 e1262 _ y1263 e1263 _ y1264 e1264 _ y1265 e1265 _ y1266 e1266 _ y1267 e1267 _ y1268 e1268 _ y1269 e1269 _ y1270 e1270 _ y1271 e1271 _ y1272 e1272 _ y1273 e1273 _ y1274 e1274 _ y1275 e1275 _ y1276 e1276 _ y1277 e1277 _ y1278 e1278 _ y1279 e1279 _ y1280 e1280 _ y1281 e1281 _ y1282 e1282 _ y1283 e1283 _ y1284 e1284 _ y1285 e1285 _ y1286 e1286 _ y1287 e1287 _ y1288 e1288 _ y1289 e1289 _ y1290 e1290 _ y1291 e1291 _ y1292 e1292 _ y1293 e1293 _ y1294 e1294 _ y1295 e1295 _ y1296 e1296 _ y1297 e1297 _ y1298 e1298 _ y1299 e1299 _ y1300 e1300 _ y1301 e1301 _ y1302 e1302 _ y1303 e1303 _ y1304 e1304 _ y1305 e1305 _ y1306 e1306 _ y1307 e1307 _ y1308 e1308 _ y1309 e1309 _ y1310 e1310 _ y1311 e1311 _ y1312 e1312 _ y1313 e1313 _ y1314 e1314 _ y1315 e1315 _ y1316 e1316 _ y1317 e1317 _ y1318 e1318 _ y1319 e1319 _ y1320 e1320 _ y1321 e1321 _ y1322 e1322 _ y1323 e1323 _ y1324 e1324 _ y1325 e1325 _ y1326 e1326 _ y1327 e1327 _ y1328 e1328 _ y1329 e1329 _ y1330 e1330 _ y1331 e1331 _ y1332 e1332 _ y1333 e1333 _ y1334 e1334 _ y1335 e1335 _ y1336 e1336 _ y1337 e1337 _ y1338 e1338 _ y1339 e1339 _ y1340 e1340 _ y1341 e1341 _
      have q1174 : y1174 = (shrZ .i32 y1003 31) := by rw [e1174, s3]
      have q1175 : y1175 = y1004 := by rw [e1175, q1174, e1004]
      have q1176 : y1176 = y1005 := by rw [e1176, q1174, e1005]
      have q1177 : y1177 = y1006 := by rw [e1177, q1174, e1006]
      have q1178 : y1178 = (y1003 - y1006) := by rw [e1178, q1177, s3]
      have q1179 : y1179 = y1008 := by rw [e1179, q1176, q1178, e1008, e1007]
      have q1180 : y1180 = ((IntKind.wrap .i32 (652032874 - y1004)) - y1008) := by rw [e1180, q1175, q1179]
      have q1181 : y1181 = y1010 := by rw [e1181, q1175, e1010]
      have q1182 : y1182 = y1011 := by rw [e1182, q1181, q1178, e1011, e1007]
      have q1183 : y1183 = y1012 := by rw [e1183, q1178, e1012, e1007]
      have q1184 : y1184 = y1013 := by rw [e1184, q1178, q1183, e1013]
      have q1185 : y1185 = y1014 := by rw [e1185, q1176, q1182, e1014]
      have q1186 : y1186 = y1015 := by rw [e1186, q1185, q1184, e1015]
      have q1187 : y1187 = (IntKind.wrap .i32 (y1009 - y1015)) := by rw [e1187, q1180, q1186, e1009]
      have q1188 : y1188 = y1016 := by rw [e1188, q1180, q1184, e1016, e1009]
      have q1189 : y1189 = ((IntKind.wrap .i32 (y1005 + y1011)) + y1016) := by rw [e1189, q1176, q1182, q1188]
      have q1190 : y1190 = y1018 := by rw [e1190, q1184, e1018]
      have q1191 : y1191 = y1019 := by rw [e1191, q1184, q1190, e1019]
      have q1192 : y1192 = y1020 := by rw [e1192, q1189, q1191, e1020, e1017]
      have q1193 : y1193 = y1023 := by rw [e1193, q1187, q1191, e1023, e1022]
      have q1194 : y1194 = (IntKind.wrap .i32 (y1017 + y1023)) := by rw [e1194, q1189, q1193, e1017]
      have q1195 : y1195 = y1024 := by rw [e1195, q1191, e1024]
      have q1196 : y1196 = ((IntKind.wrap .i32 (y1013 - y1018)) - y1024) := by rw [e1196, q1184, q1190, q1195]
      have q1197 : y1197 = y1027 := by rw [e1197, q1194, q1196, e1027, e1025, e1026]
      have q1198 : y1198 = (y1021 - y1027) := by rw [e1198, q1187, q1192, q1197, e1021]
      have q1199 : y1199 = (shrZ .i32 y1021 4) := by rw [e1199, q1187, q1192, e1021]
      have q1200 : y1200 = y1028 := by rw [e1200, q1199, q1196, e1028, e1025]
      have q1201 : y1201 = y1030 := by rw [e1201, q1196, e1030, e1025]
      have q1202 : y1202 = (IntKind.wrap .i32 (y1025 - y1030)) := by rw [e1202, q1196, q1201, e1025]
      have q1203 : y1203 = (shrZ .i32 y1029 5) := by rw [e1203, q1194, q1200, e1029]
      have q1204 : y1204 = y1032 := by rw [e1204, q1203, q1202, e1032, e1031]
      have q1205 : y1205 = y1033 := by rw [e1205, q1198, q1204, e1033]
      have q1206 : y1206 = y1035 := by rw [e1206, q1198, q1202, e1035, e1031, e1034]
      have q1207 : y1207 = (y1029 + y1035) := by rw [e1207, q1194, q1200, q1206, e1029]
      have q1208 : y1208 = y1036 := by rw [e1208, q1202, e1036, e1031]
      have q1209 : y1209 = (shrZ .i32 y1037 31) := by rw [e1209, q1202, q1208, e1037]
      have q1210 : y1210 = y1039 := by rw [e1210, q1207, q1209, e1039, e1038]
      have q1211 : y1211 = y1040 := by rw [e1211, q1205, q1209, e1040]
      have q1212 : y1212 = y1041 := by rw [e1212, q1207, q1211, e1041]
      have q1213 : y1213 = y1042 := by rw [e1213, q1209, e1042]
      have q1214 : y1214 = (y1037 - y1042) := by rw [e1214, q1202, q1208, q1213, e1037]
      have q1215 : y1215 = y1044 := by rw [e1215, q1212, q1214, e1044, e1043]
      have q1216 : y1216 = ((IntKind.wrap .i32 (y1033 - y1039)) - y1044) := by rw [e1216, q1205, q1210, q1215]
      have q1217 : y1217 = y1046 := by rw [e1217, q1205, q1210, e1046]
      have q1218 : y1218 = y1047 := by rw [e1218, q1217, q1214, e1047, e1043]
      have q1219 : y1219 = y1048 := by rw [e1219, q1214, e1048, e1043]
      have q1220 : y1220 = y1049 := by rw [e1220, q1214, q1219, e1049]
      have q1221 : y1221 = y1050 := by rw [e1221, q1212, q1218, e1050]
      have q1222 : y1222 = y1051 := by rw [e1222, q1221, q1220, e1051]
      have q1223 : y1223 = (IntKind.wrap .i32 (y1045 - y1051)) := by rw [e1223, q1216, q1222, e1045]
      have q1224 : y1224 = y1052 := by rw [e1224, q1216, q1220, e1052, e1045]
      have q1225 : y1225 = ((IntKind.wrap .i32 (y1041 + y1047)) + y1052) := by rw [e1225, q1212, q1218, q1224]
      have q1226 : y1226 = y1054 := by rw [e1226, q1220, e1054]
      have q1227 : y1227 = y1055 := by rw [e1227, q1220, q1226, e1055]
      have q1228 : y1228 = y1056 := by rw [e1228, q1225, q1227, e1056, e1053]
      have q1229 : y1229 = y1059 := by rw [e1229, q1223, q1227, e1059, e1058]
      have q1230 : y1230 = (IntKind.wrap .i32 (y1053 + y1059)) := by rw [e1230, q1225, q1229, e1053]
      have q1231 : y1231 = y1060 := by rw [e1231, q1227, e1060]
      have q1232 : y1232 = ((IntKind.wrap .i32 (y1049 - y1054)) - y1060) := by rw [e1232, q1220, q1226, q1231]
      have q1233 : y1233 = y1063 := by rw [e1233, q1230, q1232, e1063, e1061, e1062]
      have q1234 : y1234 = (y1057 - y1063) := by rw [e1234, q1223, q1228, q1233, e1057]
      have q1235 : y1235 = (shrZ .i32 y1057 10) := by rw [e1235, q1223, q1228, e1057]
      have q1236 : y1236 = y1064 := by rw [e1236, q1235, q1232, e1064, e1061]
      have q1237 : y1237 = y1066 := by rw [e1237, q1232, e1066, e1061]
      have q1238 : y1238 = (IntKind.wrap .i32 (y1061 - y1066)) := by rw [e1238, q1232, q1237, e1061]
      have q1239 : y1239 = (shrZ .i32 y1065 11) := by rw [e1239, q1230, q1236, e1065]
      have q1240 : y1240 = y1068 := by rw [e1240, q1239, q1238, e1068, e1067]
      have q1241 : y1241 = y1069 := by rw [e1241, q1234, q1240, e1069]
      have q1242 : y1242 = y1071 := by rw [e1242, q1234, q1238, e1071, e1067, e1070]
      have q1243 : y1243 = (y1065 + y1071) := by rw [e1243, q1230, q1236, q1242, e1065]
      have q1244 : y1244 = y1072 := by rw [e1244, q1238, e1072, e1067]
      have q1245 : y1245 = (shrZ .i32 y1073 31) := by rw [e1245, q1238, q1244, e1073]
      have q1246 : y1246 = y1075 := by rw [e1246, q1243, q1245, e1075, e1074]
      have q1247 : y1247 = y1076 := by rw [e1247, q1241, q1245, e1076]
      have q1248 : y1248 = y1077 := by rw [e1248, q1243, q1247, e1077]
      have q1249 : y1249 = y1078 := by rw [e1249, q1245, e1078]
      have q1250 : y1250 = (y1073 - y1078) := by rw [e1250, q1238, q1244, q1249, e1073]
      have q1251 : y1251 = y1080 := by rw [e1251, q1248, q1250, e1080, e1079]
      have q1252 : y1252 = ((IntKind.wrap .i32 (y1069 - y1075)) - y1080) := by rw [e1252, q1241, q1246, q1251]
      have q1253 : y1253 = y1082 := by rw [e1253, q1241, q1246, e1082]
      have q1254 : y1254 = y1083 := by rw [e1254, q1253, q1250, e1083, e1079]
      have q1255 : y1255 = y1084 := by rw [e1255, q1250, e1084, e1079]
      have q1256 : y1256 = y1085 := by rw [e1256, q1250, q1255, e1085]
      have q1257 : y1257 = y1086 := by rw [e1257, q1248, q1254, e1086]
      have q1258 : y1258 = y1087 := by rw [e1258, q1257, q1256, e1087]
      have q1259 : y1259 = (IntKind.wrap .i32 (y1081 - y1087)) := by rw [e1259, q1252, q1258, e1081]
      have q1260 : y1260 = y1088 := by rw [e1260, q1252, q1256, e1088, e1081]
      have q1261 : y1261 = ((IntKind.wrap .i32 (y1077 + y1083)) + y1088) := by rw [e1261, q1248, q1254, q1260]
      have q1262 : y1262 = y1090 := by rw [e1262, q1256, e1090]
      have q1263 : y1263 = y1091 := by rw [e1263, q1256, q1262, e1091]
      have q1264 : y1264 = y1092 := by rw [e1264, q1261, q1263, e1092, e1089]
      have q1265 : y1265 = y1095 := by rw [e1265, q1259, q1263, e1095, e1094]
      have q1266 : y1266 = (IntKind.wrap .i32 (y1089 + y1095)) := by rw [e1266, q1261, q1265, e1089]
      have q1267 : y1267 = y1096 := by rw [e1267, q1263, e1096]
      have q1268 : y1268 = ((IntKind.wrap .i32 (y1085 - y1090)) - y1096) := by rw [e1268, q1256, q1262, q1267]
      have q1269 : y1269 = y1099 := by rw [e1269, q1266, q1268, e1099, e1097, e1098]
      have q1270 : y1270 = (y1093 - y1099) := by rw [e1270, q1259, q1264, q1269, e1093]
      have q1271 : y1271 = (shrZ .i32 y1093 16) := by rw [e1271, q1259, q1264, e1093]
      have q1272 : y1272 = y1100 := by rw [e1272, q1271, q1268, e1100, e1097]
      have q1273 : y1273 = y1102 := by rw [e1273, q1268, e1102, e1097]
      have q1274 : y1274 = (IntKind.wrap .i32 (y1097 - y1102)) := by rw [e1274, q1268, q1273, e1097]
      have q1275 : y1275 = (shrZ .i32 y1101 17) := by rw [e1275, q1266, q1272, e1101]
      have q1276 : y1276 = y1104 := by rw [e1276, q1275, q1274, e1104, e1103]
      have q1277 : y1277 = y1105 := by rw [e1277, q1270, q1276, e1105]
      have q1278 : y1278 = y1107 := by rw [e1278, q1270, q1274, e1107, e1103, e1106]
      have q1279 : y1279 = (y1101 + y1107) := by rw [e1279, q1266, q1272, q1278, e1101]
      have q1280 : y1280 = y1108 := by rw [e1280, q1274, e1108, e1103]
      have q1281 : y1281 = (shrZ .i32 y1109 31) := by rw [e1281, q1274, q1280, e1109]
      have q1282 : y1282 = y1111 := by rw [e1282, q1279, q1281, e1111, e1110]
      have q1283 : y1283 = y1112 := by rw [e1283, q1277, q1281, e1112]
      have q1284 : y1284 = y1113 := by rw [e1284, q1279, q1283, e1113]
      have q1285 : y1285 = y1114 := by rw [e1285, q1281, e1114]
      have q1286 : y1286 = (y1109 - y1114) := by rw [e1286, q1274, q1280, q1285, e1109]
      have q1287 : y1287 = y1116 := by rw [e1287, q1284, q1286, e1116, e1115]
      have q1288 : y1288 = ((IntKind.wrap .i32 (y1105 - y1111)) - y1116) := by rw [e1288, q1277, q1282, q1287]
      have q1289 : y1289 = y1118 := by rw [e1289, q1277, q1282, e1118]
      have q1290 : y1290 = y1119 := by rw [e1290, q1289, q1286, e1119, e1115]
      have q1291 : y1291 = y1120 := by rw [e1291, q1286, e1120, e1115]
      have q1292 : y1292 = y1121 := by rw [e1292, q1286, q1291, e1121]
      have q1293 : y1293 = y1122 := by rw [e1293, q1284, q1290, e1122]
      have q1294 : y1294 = y1123 := by rw [e1294, q1293, q1292, e1123]
      have q1295 : y1295 = (IntKind.wrap .i32 (y1117 - y1123)) := by rw [e1295, q1288, q1294, e1117]
      have q1296 : y1296 = y1124 := by rw [e1296, q1288, q1292, e1124, e1117]
      have q1297 : y1297 = ((IntKind.wrap .i32 (y1113 + y1119)) + y1124) := by rw [e1297, q1284, q1290, q1296]
      have q1298 : y1298 = y1126 := by rw [e1298, q1292, e1126]
      have q1299 : y1299 = y1127 := by rw [e1299, q1292, q1298, e1127]
      have q1300 : y1300 = y1128 := by rw [e1300, q1297, q1299, e1128, e1125]
      have q1301 : y1301 = y1131 := by rw [e1301, q1295, q1299, e1131, e1130]
      have q1302 : y1302 = (IntKind.wrap .i32 (y1125 + y1131)) := by rw [e1302, q1297, q1301, e1125]
      have q1303 : y1303 = y1132 := by rw [e1303, q1299, e1132]
      have q1304 : y1304 = ((IntKind.wrap .i32 (y1121 - y1126)) - y1132) := by rw [e1304, q1292, q1298, q1303]
      have q1305 : y1305 = y1135 := by rw [e1305, q1302, q1304, e1135, e1133, e1134]
      have q1306 : y1306 = (y1129 - y1135) := by rw [e1306, q1295, q1300, q1305, e1129]
      have q1307 : y1307 = (shrZ .i32 y1129 22) := by rw [e1307, q1295, q1300, e1129]
      have q1308 : y1308 = y1136 := by rw [e1308, q1307, q1304, e1136, e1133]
      have q1309 : y1309 = y1138 := by rw [e1309, q1304, e1138, e1133]
      have q1310 : y1310 = (IntKind.wrap .i32 (y1133 - y1138)) := by rw [e1310, q1304, q1309, e1133]
      have q1311 : y1311 = (shrZ .i32 y1137 23) := by rw [e1311, q1302, q1308, e1137]
      have q1312 : y1312 = y1140 := by rw [e1312, q1311, q1310, e1140, e1139]
      have q1313 : y1313 = y1141 := by rw [e1313, q1306, q1312, e1141]
      have q1314 : y1314 = y1143 := by rw [e1314, q1306, q1310, e1143, e1139, e1142]
      have q1315 : y1315 = (y1137 + y1143) := by rw [e1315, q1302, q1308, q1314, e1137]
      have q1316 : y1316 = y1144 := by rw [e1316, q1310, e1144, e1139]
      have q1317 : y1317 = (shrZ .i32 y1145 31) := by rw [e1317, q1310, q1316, e1145]
      have q1318 : y1318 = y1147 := by rw [e1318, q1315, q1317, e1147, e1146]
      have q1319 : y1319 = y1148 := by rw [e1319, q1313, q1317, e1148]
      have q1320 : y1320 = y1149 := by rw [e1320, q1315, q1319, e1149]
      have q1321 : y1321 = y1150 := by rw [e1321, q1317, e1150]
      have q1322 : y1322 = (y1145 - y1150) := by rw [e1322, q1310, q1316, q1321, e1145]
      have q1323 : y1323 = y1152 := by rw [e1323, q1320, q1322, e1152, e1151]
      have q1324 : y1324 = ((IntKind.wrap .i32 (y1141 - y1147)) - y1152) := by rw [e1324, q1313, q1318, q1323]
      have q1325 : y1325 = y1154 := by rw [e1325, q1313, q1318, e1154]
      have q1326 : y1326 = y1155 := by rw [e1326, q1325, q1322, e1155, e1151]
      have q1327 : y1327 = y1156 := by rw [e1327, q1322, e1156, e1151]
      have q1328 : y1328 = y1157 := by rw [e1328, q1322, q1327, e1157]
      have q1329 : y1329 = y1158 := by rw [e1329, q1320, q1326, e1158]
      have q1330 : y1330 = y1159 := by rw [e1330, q1329, q1328, e1159]
      have q1331 : y1331 = (IntKind.wrap .i32 (y1153 - y1159)) := by rw [e1331, q1324, q1330, e1153]
      have q1332 : y1332 = y1160 := by rw [e1332, q1324, q1328, e1160, e1153]
      have q1333 : y1333 = ((IntKind.wrap .i32 (y1149 + y1155)) + y1160) := by rw [e1333, q1320, q1326, q1332]
      have q1334 : y1334 = y1162 := by rw [e1334, q1328, e1162]
      have q1335 : y1335 = y1163 := by rw [e1335, q1328, q1334, e1163]
      have q1336 : y1336 = y1164 := by rw [e1336, q1333, q1335, e1164, e1161]
      have q1337 : y1337 = y1167 := by rw [e1337, q1331, q1335, e1167, e1166]
      have q1338 : y1338 = (IntKind.wrap .i32 (y1161 + y1167)) := by rw [e1338, q1333, q1337, e1161]
      have q1339 : y1339 = y1168 := by rw [e1339, q1335, e1168]
      have q1340 : y1340 = ((IntKind.wrap .i32 (y1157 - y1162)) - y1168) := by rw [e1340, q1328, q1334, q1339]
      have q1341 : y1341 = (0 - y1165) := by rw [e1341, q1331, q1336, e1165]
      have r1 : y1338 = (IntKind.wrap .i32 (y1161 + y1167)) := by rw [q1338]
      have r2 : (IntKind.wrap .i32 y1341) = (IntKind.wrap .i32 (0 - y1165)) := by rw [q1341]
      have f1 : y1170 = (IntKind.wrap .i32 (0 - y1165)) := by
        rw [e1170, s1, fl_neg l65 u65]
      rw [r1, r2, ← f1]
      simp [bool01]
  · have g : ¬ 843314857 < y1000 := by simpa [bool01] using g1
    have s1 : y1001 = 0 := by rw [e1001]; simp [bool01, iteZ, g]
    have s3 : y1003 = a0 := by rw [e1003, s1]; exact sel_zero _ l0 u0
    rw [s3] at e1004 e1005 e1006 e1007 e1013
    intro y1173 e1173 _ y1174 e1174 _ y1175 e1175 _ y1176 e1176 _ y1177 e1177 _ y1178 e1178 _ y1179 e1179 _ y1180 e1180 _ y1181 e1181 _ y1182 e1182 _ y1183 e1183 _ y1184 e1184 _ y1185 e1185 _ y1186 e1186 _ y1187 e1187 _ y1188 e1188 _ y1189 e1189 _ y1190 e1190 _ y1191 e1191 _ y1192 e1192 _ y1193 e1193 _ y1194 e1194 _ y1195 e1195 _ y1196 e1196 _ y1197 e1197 _ y1198 e1198 _ y1199 e1199 _ y1200 e1200 _ y1201 e1201 _ y1202 e1202 _ y1203 e1203 _ y1204 e1204 _ y1205 e1205 _ y1206 e1206 _ y1207 e1207 _ y1208 e1208 _ y1209 e1209 _ y1210 e1210 _ y1211 e1211 _ y1212 e1212 _ y1213 e1213 _ y1214 e1214 _ y1215 e1215 _ y1216 e1216 _ y1217 e1217 _ y1218 e1218 _ y1219 e1219 _ y1220 e1220 _ y1221 e1221 _ y1222 e1222 _ y1223 e1223 _ y1224 e1224 _ y1225 e1225 _ y1226 e1226 _ y1227 e1227 _ y1228 e1228 _ y1229 e1229 _ y1230 e1230 _ y1231 e1231 _ y1232 e1232 _ y1233 e1233 _ y1234 e1234 _ y1235 e1235 _ y1236 e1236 _ y1237 e1237 _ y1238 e1238 _ y1239 e1239 _ y1240 e1240 _ y1241 e1241 _ y1242 e1242 _ y1243 e1243 _ y1244 e1244 _ y1245 e1245 _ y1246 e1246 _ y1247 e1247 _ y1248 e1248 _ y1249 e1249 _ y1250 e1250 _ y1251 e1251 _ y1252 e1252 _ y1253 e1253 _ y1254 e1254 _ y1255 e1255 _ y1256 e1256 _ y1257 e1257 _ y1258 e1258 _ y1259 e1259 _ y1260 e1260 _ y1261 e1261 _ y1262 e1262 _ y1263 e1263 _ y1264 e1264 _ y1265 e1265 _ y1266 e1266 _ y1267 e1267 _ y1268 e1268 _ y1269 e1269 _ y1270 e1270 _ y1271 e1271 _ y1272 e1272 _ y1273 e1273 _ y1274 e1274 _ y1275 e1275 _ y1276 e1276 _ y1277 e1277 _ y1278 e1278 _ y1279 e1279 _ y1280 e1280 _ y1281 e1281 _ y1282 e1282 _ y1283 e1283 _ y1284 e1284 _ y1285 e1285 _ y1286 e1286 _ y1287 e1287 _ y1288 e1288 _ y1289 e1289 _ y1290 e1290 _ y1291 e1291 _ y1292 e1292 _ y1293 e1293 _ y1294 e1294 _ y1295 e1295 _ y1296 e1296 _ y1297 e1297 _ y1298 e1298 _ y1299 e1299 _ y1300 e1300 _ y1301 e1301 _ y1302 e1302 _ y1303 e1303 _ y1304 e1304 _ y1305 e1305 _ y1306 e1306 _ y1307 e1307 _ y1308 e1308 _ y1309 e1309 _ y1310 e1310 _ y1311 e1311 _ y1312 e1312 _ y1313 e1313 _ y1314 e1314 _ y1315 e1315 _ y1316 e1316 _ y1317 e1317 _ y1318 e1318 _ y1319 e1319 _ y1320 e1320 _ y1321 e1321 _ y1322 e1322 _ y1323 e1323 _ y1324 e1324 _ y1325 e1325 _ y1326 e1326 _ y1327 e1327 _ y1328 e1328 _ y1329 e1329 _ y1330 e1330 _ y1331 e1331 _ y1332 e1332 _ y1333 e1333 _ y1334 e1334 _ y1335 e1335 _ y1336 e1336 _ y1337 e1337 _
    have q1173 : y1173 = y1004 := by rw [e1173, e1004]
    have q1174 : y1174 = y1005 := by rw [e1174, e1005]
    have q1175 : y1175 = y1006 := by rw [e1175, e1006]
    have q1176 : y1176 = y1007 := by rw [e1176, q1175, e1007]
    have q1177 : y1177 = y1008 := by rw [e1177, q1174, q1176, e1008]
    have q1178 : y1178 = ((IntKind.wrap .i32 (652032874 - y1004)) - y1008) := by rw [e1178, q1173, q1177]
    have q1179 : y1179 = y1010 := by rw [e1179, q1173, e1010]
    have q1180 : y1180 = y1011 := by rw [e1180, q1179, q1176, e1011]
    have q1181 : y1181 = y1012 := by rw [e1181, q1176, e1012]
    have q1182 : y1182 = ((IntKind.wrap .i32 (a0 - y1006)) - y1012) := by rw [e1182, q1175, q1181]
    have q1183 : y1183 = y1014 := by rw [e1183, q1174, q1180, e1014]
    have q1184 : y1184 = y1015 := by rw [e1184, q1183, q1182, e1015, e1013]
    have q1185 : y1185 = (IntKind.wrap .i32 (y1009 - y1015)) := by rw [e1185, q1178, q1184, e1009]
    have q1186 : y1186 = y1016 := by rw [e1186, q1178, q1182, e1016, e1013, e1009]
    have q1187 : y1187 = ((IntKind.wrap .i32 (y1005 + y1011)) + y1016) := by rw [e1187, q1174, q1180, q1186]
    have q1188 : y1188 = y1018 := by rw [e1188, q1182, e1018, e1013]
    have q1189 : y1189 = (IntKind.wrap .i32 (y1013 - y1018)) := by rw [e1189, q1182, q1188, e1013]
    have q1190 : y1190 = y1020 := by rw [e1190, q1187, q1189, e1020, e1019, e1017]
    have q1191 : y1191 = y1023 := by rw [e1191, q1185, q1189, e1023, e1019, e1022]
    have q1192 : y1192 = (IntKind.wrap .i32 (y1017 + y1023)) := by rw [e1192, q1187, q1191, e1017]
    have q1193 : y1193 = y1024 := by rw [e1193, q1189, e1024, e1019]
    have q1194 : y1194 = (shrZ .i32 y1025 31) := by rw [e1194, q1189, q1193, e1025]
    have q1195 : y1195 = y1027 := by rw [e1195, q1192, q1194, e1027, e1026]
    have q1196 : y1196 = (y1021 - y1027) := by rw [e1196, q1185, q1190, q1195, e1021]
    have q1197 : y1197 = (shrZ .i32 y1021 4) := by rw [e1197, q1185, q1190, e1021]
    have q1198 : y1198 = y1028 := by rw [e1198, q1197, q1194, e1028]
    have q1199 : y1199 = y1030 := by rw [e1199, q1194, e1030]
    have q1200 : y1200 = (y1025 - y1030) := by rw [e1200, q1189, q1193, q1199, e1025]
    have q1201 : y1201 = (shrZ .i32 y1029 5) := by rw [e1201, q1192, q1198, e1029]
    have q1202 : y1202 = y1032 := by rw [e1202, q1201, q1200, e1032, e1031]
    have q1203 : y1203 = y1033 := by rw [e1203, q1196, q1202, e1033]
    have q1204 : y1204 = y1035 := by rw [e1204, q1196, q1200, e1035, e1031, e1034]
    have q1205 : y1205 = (y1029 + y1035) := by rw [e1205, q1192, q1198, q1204, e1029]
    have q1206 : y1206 = y1036 := by rw [e1206, q1200, e1036, e1031]
    have q1207 : y1207 = y1037 := by rw [e1207, q1200, q1206, e1037]
    have q1208 : y1208 = y1039 := by rw [e1208, q1205, q1207, e1039, e1038]
    have q1209 : y1209 = y1040 := by rw [e1209, q1203, q1207, e1040]
    have q1210 : y1210 = y1041 := by rw [e1210, q1205, q1209, e1041]
    have q1211 : y1211 = y1042 := by rw [e1211, q1207, e1042]
    have q1212 : y1212 = y1043 := by rw [e1212, q1207, q1211, e1043]
    have q1213 : y1213 = y1044 := by rw [e1213, q1210, q1212, e1044]
    have q1214 : y1214 = ((IntKind.wrap .i32 (y1033 - y1039)) - y1044) := by rw [e1214, q1203, q1208, q1213]
    have q1215 : y1215 = y1046 := by rw [e1215, q1203, q1208, e1046]
    have q1216 : y1216 = y1047 := by rw [e1216, q1215, q1212, e1047]
    have q1217 : y1217 = y1048 := by rw [e1217, q1212, e1048]
    have q1218 : y1218 = ((IntKind.wrap .i32 (y1037 - y1042)) - y1048) := by rw [e1218, q1207, q1211, q1217]
    have q1219 : y1219 = y1050 := by rw [e1219, q1210, q1216, e1050]
    have q1220 : y1220 = y1051 := by rw [e1220, q1219, q1218, e1051, e1049]
    have q1221 : y1221 = (IntKind.wrap .i32 (y1045 - y1051)) := by rw [e1221, q1214, q1220, e1045]
    have q1222 : y1222 = y1052 := by rw [e1222, q1214, q1218, e1052, e1049, e1045]
    have q1223 : y1223 = ((IntKind.wrap .i32 (y1041 + y1047)) + y1052) := by rw [e1223, q1210, q1216, q1222]
    have q1224 : y1224 = y1054 := by rw [e1224, q1218, e1054, e1049]
    have q1225 : y1225 = (IntKind.wrap .i32 (y1049 - y1054)) := by rw [e1225, q1218, q1224, e1049]
    have q1226 : y1226 = y1056 := by rw [e1226, q1223, q1225, e1056, e1055, e1053]
    have q1227 : y1227 = y1059 := by rw [e1227, q1221, q1225, e1059, e1055, e1058]
    have q1228 : y1228 = (IntKind.wrap .i32 (y1053 + y1059)) := by rw [e1228, q1223, q1227, e1053]
    have q1229 : y1229 = y1060 := by rw [e1229, q1225, e1060, e1055]
    have q1230 : y1230 = (shrZ .i32 y1061 31) := by rw [e1230, q1225, q1229, e1061]
    have q1231 : y1231 = y1063 := by rw [e1231, q1228, q1230, e1063, e1062]
    have q1232 : y1232 = (y1057 - y1063) := by rw [e1232, q1221, q1226, q1231, e1057]
    have q1233 : y1233 = (shrZ .i32 y1057 10) := by rw [e1233, q1221, q1226, e1057]
    have q1234 : y1234 = y1064 := by rw [e1234, q1233, q1230, e1064]
    have q1235 : y1235 = y1066 := by rw [e1235, q1230, e1066]
    have q1236 : y1236 = (y1061 - y1066) := by rw [e1236, q1225, q1229, q1235, e1061]
    have q1237 : y1237 = (shrZ .i32 y1065 11) := by rw [e1237, q1228, q1234, e1065]
    have q1238 : y1238 = y1068 := by rw [e1238, q1237, q1236, e1068, e1067]
    have q1239 : y1239 = y1069 := by rw [e1239, q1232, q1238, e1069]
    have q1240 : y1240 = y1071 := by rw [e1240, q1232, q1236, e1071, e1067, e1070]
    have q1241 : y1241 = (y1065 + y1071) := by rw [e1241, q1228, q1234, q1240, e1065]
    have q1242 : y1242 = y1072 := by rw [e1242, q1236, e1072, e1067]
    have q1243 : y1243 = y1073 := by rw [e1243, q1236, q1242, e1073]
    have q1244 : y1244 = y1075 := by rw [e1244, q1241, q1243, e1075, e1074]
    have q1245 : y1245 = y1076 := by rw [e1245, q1239, q1243, e1076]
    have q1246 : y1246 = y1077 := by rw [e1246, q1241, q1245, e1077]
    have q1247 : y1247 = y1078 := by rw [e1247, q1243, e1078]
    have q1248 : y1248 = y1079 := by rw [e1248, q1243, q1247, e1079]
    have q1249 : y1249 = y1080 := by rw [e1249, q1246, q1248, e1080]
    have q1250 : y1250 = ((IntKind.wrap .i32 (y1069 - y1075)) - y1080) := by rw [e1250, q1239, q1244, q1249]
    have q1251 : y1251 = y1082 := by rw [e1251, q1239, q1244, e1082]
    have q1252 : y1252 = y1083 := by rw [e1252, q1251, q1248, e1083]
    have q1253 : y1253 = y1084 := by rw [e1253, q1248, e1084]
    have q1254 : y1254 = ((IntKind.wrap .i32 (y1073 - y1078)) - y1084) := by rw [e1254, q1243, q1247, q1253]
    have q1255 : y1255 = y1086 := by rw [e1255, q1246, q1252, e1086]
    have q1256 : y1256 = y1087 := by rw [e1256, q1255, q1254, e1087, e1085]
    have q1257 : y1257 = (IntKind.wrap .i32 (y1081 - y1087)) := by rw [e1257, q1250, q1256, e1081]
    have q1258 : y1258 = y1088 := by rw [e1258, q1250, q1254, e1088, e1085, e1081]
    have q1259 : y1259 = ((IntKind.wrap .i32 (y1077 + y1083)) + y1088) := by rw [e1259, q1246, q1252, q1258]
    have q1260 : y1260 = y1090 := by rw [e1260, q1254, e1090, e1085]
    have q1261 : y1261 = (IntKind.wrap .i32 (y1085 - y1090)) := by rw [e1261, q1254, q1260, e1085]
    have q1262 : y1262 = y1092 := by rw [e1262, q1259, q1261, e1092, e1091, e1089]
    have q1263 : y1263 = y1095 := by rw [e1263, q1257, q1261, e1095, e1091, e1094]
    have q1264 : y1264 = (IntKind.wrap .i32 (y1089 + y1095)) := by rw [e1264, q1259, q1263, e1089]
    have q1265 : y1265 = y1096 := by rw [e1265, q1261, e1096, e1091]
    have q1266 : y1266 = (shrZ .i32 y1097 31) := by rw [e1266, q1261, q1265, e1097]
    have q1267 : y1267 = y1099 := by rw [e1267, q1264, q1266, e1099, e1098]
    have q1268 : y1268 = (y1093 - y1099) := by rw [e1268, q1257, q1262, q1267, e1093]
    have q1269 : y1269 = (shrZ .i32 y1093 16) := by rw [e1269, q1257, q1262, e1093]
    have q1270 : y1270 = y1100 := by rw [e1270, q1269, q1266, e1100]
    have q1271 : y1271 = y1102 := by rw [e1271, q1266, e1102]
    have q1272 : y1272 = (y1097 - y1102) := by rw [e1272, q1261, q1265, q1271, e1097]
    have q1273 : y1273 = (shrZ .i32 y1101 17) := by rw [e1273, q1264, q1270, e1101]
    have q1274 : y1274 = y1104 := by rw [e1274, q1273, q1272, e1104, e1103]
    have q1275 : y1275 = y1105 := by rw [e1275, q1268, q1274, e1105]
    have q1276 : y1276 = y1107 := by rw [e1276, q1268, q1272, e1107, e1103, e1106]
    have q1277 : y1277 = (y1101 + y1107) := by rw [e1277, q1264, q1270, q1276, e1101]
    have q1278 : y1278 = y1108 := by rw [e1278, q1272, e1108, e1103]
    have q1279 : y1279 = y1109 := by rw [e1279, q1272, q1278, e1109]
    have q1280 : y1280 = y1111 := by rw [e1280, q1277, q1279, e1111, e1110]
    have q1281 : y1281 = y1112 := by rw [e1281, q1275, q1279, e1112]
    have q1282 : y1282 = y1113 := by rw [e1282, q1277, q1281, e1113]
    have q1283 : y1283 = y1114 := by rw [e1283, q1279, e1114]
    have q1284 : y1284 = y1115 := by rw [e1284, q1279, q1283, e1115]
    have q1285 : y1285 = y1116 := by rw [e1285, q1282, q1284, e1116]
    have q1286 : y1286 = ((IntKind.wrap .i32 (y1105 - y1111)) - y1116) := by rw [e1286, q1275, q1280, q1285]
    have q1287 : y1287 = y1118 := by rw [e1287, q1275, q1280, e1118]
    have q1288 : y1288 = y1119 := by rw [e1288, q1287, q1284, e1119]
    have q1289 : y1289 = y1120 := by rw [e1289, q1284, e1120]
    have q1290 : y1290 = ((IntKind.wrap .i32 (y1109 - y1114)) - y1120) := by rw [e1290, q1279, q1283, q1289]
    have q1291 : y1291 = y1122 := by rw [e1291, q1282, q1288, e1122]
    have q1292 : y1292 = y1123 := by rw [e1292, q1291, q1290, e1123, e1121]
    have q1293 : y1293 = (IntKind.wrap .i32 (y1117 - y1123)) := by rw [e1293, q1286, q1292, e1117]
    have q1294 : y1294 = y1124 := by rw [e1294, q1286, q1290, e1124, e1121, e1117]
    have q1295 : y1295 = ((IntKind.wrap .i32 (y1113 + y1119)) + y1124) := by rw [e1295, q1282, q1288, q1294]
    have q1296 : y1296 = y1126 := by rw [e1296, q1290, e1126, e1121]
    have q1297 : y1297 = (IntKind.wrap .i32 (y1121 - y1126)) := by rw [e1297, q1290, q1296, e1121]
    have q1298 : y1298 = y1128 := by rw [e1298, q1295, q1297, e1128, e1127, e1125]
    have q1299 : y1299 = y1131 := by rw [e1299, q1293, q1297, e1131, e1127, e1130]
    have q1300 : y1300 = (IntKind.wrap .i32 (y1125 + y1131)) := by rw [e1300, q1295, q1299, e1125]
    have q1301 : y1301 = y1132 := by rw [e1301, q1297, e1132, e1127]
    have q1302 : y1302 = (shrZ .i32 y1133 31) := by rw [e1302, q1297, q1301, e1133]
    have q1303 : y1303 = y1135 := by rw [e1303, q1300, q1302, e1135, e1134]
    have q1304 : y1304 = (y1129 - y1135) := by rw [e1304, q1293, q1298, q1303, e1129]
    have q1305 : y1305 = (shrZ .i32 y1129 22) := by rw [e1305, q1293, q1298, e1129]
    have q1306 : y1306 = y1136 := by rw [e1306, q1305, q1302, e1136]
    have q1307 : y1307 = y1138 := by rw [e1307, q1302, e1138]
    have q1308 : y1308 = (y1133 - y1138) := by rw [e1308, q1297, q1301, q1307, e1133]
    have q1309 : y1309 = (shrZ .i32 y1137 23) := by rw [e1309, q1300, q1306, e1137]
    have q1310 : y1310 = y1140 := by rw [e1310, q1309, q1308, e1140, e1139]
    have q1311 : y1311 = y1141 := by rw [e1311, q1304, q1310, e1141]
    have q1312 : y1312 = y1143 := by rw [e1312, q1304, q1308, e1143, e1139, e1142]
    have q1313 : y1313 = (y1137 + y1143) := by rw [e1313, q1300, q1306, q1312, e1137]
    have q1314 : y1314 = y1144 := by rw [e1314, q1308, e1144, e1139]
    have q1315 : y1315 = y1145 := by rw [e1315, q1308, q1314, e1145]
    have q1316 : y1316 = y1147 := by rw [e1316, q1313, q1315, e1147, e1146]
    have q1317 : y1317 = y1148 := by rw [e1317, q1311, q1315, e1148]
    have q1318 : y1318 = y1149 := by rw [e1318, q1313, q1317, e1149]
    have q1319 : y1319 = y1150 := by rw [e1319, q1315, e1150]
    have q1320 : y1320 = y1151 := by rw [e1320, q1315, q1319, e1151]
    have q1321 : y1321 = y1152 := by rw [e1321, q1318, q1320, e1152]
    have q1322 : y1322 = ((IntKind.wrap .i32 (y1141 - y1147)) - y1152) := by rw [e1322, q1311, q1316, q1321]
    have q1323 : y1323 = y1154 := by rw [e1323, q1311, q1316, e1154]
    have q1324 : y1324 = y1155 := by rw [e1324, q1323, q1320, e1155]
    have q1325 : y1325 = y1156 := by rw [e1325, q1320, e1156]
    have q1326 : y1326 = ((IntKind.wrap .i32 (y1145 - y1150)) - y1156) := by rw [e1326, q1315, q1319, q1325]
    have q1327 : y1327 = y1158 := by rw [e1327, q1318, q1324, e1158]
    have q1328 : y1328 = y1159 := by rw [e1328, q1327, q1326, e1159, e1157]
    have q1329 : y1329 = (IntKind.wrap .i32 (y1153 - y1159)) := by rw [e1329, q1322, q1328, e1153]
    have q1330 : y1330 = y1160 := by rw [e1330, q1322, q1326, e1160, e1157, e1153]
    have q1331 : y1331 = ((IntKind.wrap .i32 (y1149 + y1155)) + y1160) := by rw [e1331, q1318, q1324, q1330]
    have q1332 : y1332 = y1162 := by rw [e1332, q1326, e1162, e1157]
    have q1333 : y1333 = (IntKind.wrap .i32 (y1157 - y1162)) := by rw [e1333, q1326, q1332, e1157]
    have q1334 : y1334 = y1164 := by rw [e1334, q1331, q1333, e1164, e1163, e1161]
    have q1335 : y1335 = y1167 := by rw [e1335, q1329, q1333, e1167, e1163, e1166]
    have q1336 : y1336 = (IntKind.wrap .i32 (y1161 + y1167)) := by rw [e1336, q1331, q1335, e1161]
    have q1337 : y1337 = y1168 := by rw [e1337, q1333, e1168, e1163]
    have r1 : y1336 = (IntKind.wrap .i32 (y1161 + y1167)) := by rw [q1336]
    have r2 : (IntKind.wrap .i32 (y1329 - y1334)) = y1165 := by rw [q1329, q1334, e1165]
    have f1 : y1170 = y1165 := by
      rw [e1170, s1, fl_zero l65 u65]
    rw [r1, r2, ← f1]
    simp [bool01]

theorem alikes (a0 : Int) (w0 : (Lit.int .i32 a0).wf = true) : fn0 a0 0 = fn1 a0 0 := by
    have hρ0 : EnvOk cxP (envOf [a0, 0]) := envOf_ok (n := 2) (bnd_cons (wf_bd w0) (bnd_nil _))
    have hP := holds a0 (wf_bd w0).1 (wf_bd w0).2
    rw [← plain] at hP
    obtain ⟨e0, hP⟩ := alike (cx := cxP) hρ0 tidy0 tidy1 hP
    exact e0

/-! ### the law -/
def tree : T E :=
(.br (.b .eq .i64 (.f 4 (.v 0) (.c 0) (.c 0)) (.f 6 (.v 0) (.c 0) (.c 0)))
  (.br (.b .eq .i64 (.f 5 (.v 0) (.c 0) (.c 0)) (.f 7 (.v 0) (.c 0) (.c 0)))
  (.leaf (.c 1))
  (.leaf (.c 0)))
  (.leaf (.c 0)))
theorem ran : T.beq (projB (runL 5 [.int .i32 (.v 0)] ⟨[], []⟩)) tree = true := by kernel_rfl
theorem fineT : (Nat.ble cxL.Γ.length 1000 && T.fine 1000 tree && SV.vbL 1000 [.int .i32 (.v 0)]) = true := by kernel_rfl
theorem walk (a0 : Int) (w0 : (Lit.int .i32 a0).wf = true) (w : World) :
    Calls Tryz.prog 5 #[.int .i32 a0] w fun e w' => e = .returned (.bool true) ∧ Below w.heap.size w w' := by
  refine truth_of runL_ok (ρ := envL [a0]) (envL_ok (bnd_cons (wf_bd w0) (bnd_nil _))) (f := 5) (args := [.int .i32 (.v 0)]) (t := tree) ran ?_ fineT rfl w
  have hE := alikes a0 w0
  have e0 := hE
  have z : ∀ j, (envL [a0]).i j = [a0].getD j 0 := fun _ => rfl
  have zf : (envL [a0]).f = F' := rfl
  simp only [tree, T.holds, E.ev, BO.ev, z, zf, List.getD_cons_zero, List.getD_cons_succ, F', e0]
  simp [bool01]

/-! ### the row's step -/
set_option maxRecDepth 100000
theorem lifted (os : Os) (started : os.Started) (H : Type) (enc : TypeId × Value → H) :
    ReturnsInHanded {} Tryz.checked os 5 .any (Rows.turnWavesSpec.pre6 enc Tryz.prog Tryz.f5 Rows.turnWavesRow.domain false) (Rows.turnWavesSpec.post enc Tryz.prog Tryz.f5 false true false false) := by
  refine returnsInHanded_of_change (C := Tryz.checked) own started (by kernel_rfl) Tryz.func5
    (ChangeSpec.witness6 (enc := enc) (C := Tryz.checked) false ⟨#[], #[.int .i32 0], []⟩ 8 (by kernel_rfl) (by kernel_rfl) (by kernel_rfl) (by kernel_rfl)) ?_
  intro W base args ds gs before hval0 hW hcnd _
  have hval : ∀ (j : Nat) t v, Tryz.f5.params[j]? = some t → args[j]? = some v → Value.okWide Tryz.prog W .any base t v := hval0
  have hW' := hW
  obtain ⟨p, q, hA0, hV, rfl, hfz, hnd⟩ := hW
  have hA : DataW.TrodAll enc Tryz.prog W 0 (fun _ => true) true Tryz.f5.params.toList args.toList ds p := hA0
  rw [Tryz.params5] at hA hval
  obtain ⟨v0, vs0, d0, ds0, p0, q0, hargs, rfl, rfl, h0, r0⟩ := trodAll_cons hA
  obtain ⟨rfl, rfl, rfl⟩ := trodAll_nil r0
  obtain rfl : args = #[v0] := by cases args; simp_all
  obtain ⟨rfl, rfl⟩ := trodVars_none hV
  obtain ⟨a0, rfl, rfl, rfl, w0⟩ := open_int Tryz.underlying21 (hval 0 21 v0 rfl rfl) h0
  clear hA0 hval0
  simp only [List.append_nil] at hW'
  refine (walk a0 w0 W).mono fun e W' ⟨he, hg⟩ => ?_
  subst he
  exact ⟨_, rfl, post_below (pa := []) (pv := []) hW' hg (fun _ _ _ => (trodAll_cons_mk (shut_bool Tryz.underlying4 _) trodAll_mk0)) (fun sp _ => (trodAll_cons_mk (shut_int Tryz.underlying21 w0) trodAll_mk0)) (fun _ _ => rfl) rfl
    (ok_one (by kernel_rfl) rfl (okWide_bool_mk Tryz.underlying4 _))⟩

theorem over : Rows.turnWavesRow.holds Tryz.pinned (OpenSpec.ofChange Rows.turnWavesSpec) :=
  OpenClaim.holds_of_wide 5 Tryz.f5 rfl rfl rfl rfl rfl rfl rfl ⟨rfl, rfl, rfl, rfl, rfl⟩ rfl rfl rfl rfl rfl (by kernel_rfl) Tryz.func5 (by kernel_rfl)
    (of_decide_eq_true (by kernel_rfl)) (by unfold Func.isWrapper; first | (rw [if_pos (by decide +kernel)]; kernel_rfl) | (rw [if_neg (by decide +kernel)]; exact ⟨rfl, rfl⟩))
    (fun os started H enc _ => lifted os started H enc)

/-- the statement -/
theorem proved : Rows.TurnWavesSaid :=
  over
#print axioms proved
end Go.Proofs.YtjooaieolphomaaGreat.turnWaves
