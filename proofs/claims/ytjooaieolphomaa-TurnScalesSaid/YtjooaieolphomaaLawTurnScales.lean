/-
  The law TurnScales answers true at every input: each function that it holds against another one is told by a tree of numbers (the engine's run of it), and that the trees answer alike is shown as a plain statement. No condition.
-/
import Derived.Test.YtjooaieolphomaaRows
import Derived.Test.YtjooaieolphomaaTmAb
import Derived.Test.YtjooaieolphomaaTmT
import Derived.Test.YtjooaieolphomaaFunA
import Derived.Test.YtjooaieolphomaaPlA
import Derived.Test.YtjooaieolphomaaPlR
import Derived.Test.YtjooaieolphomaaPlS
import Derived.Test.YtjooaieolphomaaPlU
import Derived.Test.YtjooaieolphomaaPlV
import Derived.WalkKit
import Derived.ProofKit
import Derived.OpenShut
namespace Go.Proofs.Ytjooaieolphomaa.turnScales
open Go.ChangeShapes Go.WideShapes Go.ChangeAt Go.RowKit
open Go.Eng
set_option linter.unusedVariables false
set_option linter.unusedSimpArgs false

theorem own : ownKnob Try.prog.godebug = none := by kernel_rfl

set_option maxRecDepth 100000
/-! ### what the functions answer -/
def fn0 (x y : Int) : List Int := trT0.outs (envOf [x, y])
theorem ar0 : T.ar 1 trT0 = true := by kernel_rfl
theorem sem0 (x y : Int) (w : World) (l : -2147483648 ≤ x) (u : x ≤ 2147483647) (l2 : -2147483648 ≤ y) (u2 : y ≤ 2147483647) : Calls Try.prog 34 #[.int .i32 x, .int .i32 y] w fun e w' => e = .returned (mkV true (fn0 x y)) ∧ Below w.heap.size w w' :=
  sem_of (one := true) (tsT0 2 []) (by kernel_rfl) (envOf_ok (n := 2) (g := [(-2147483648, 2147483647), (-2147483648, 2147483647)]) (l := [x, y]) (bnd_cons ⟨l, u⟩ (bnd_cons (g := []) ⟨l2, u2⟩ (bnd_nil _)))) w rfl
theorem aw (w : World) : Calls Try.prog 32 #[] w fun e w' => e = .returned (.bool true) ∧ Below w.heap.size w w' :=
  tmAb0 2 [] (envOf []) w (envOf_ok (n := 2) (bnd_nil _))

noncomputable def F' (n : Nat) (x y z : Int) : Int :=
  match n with
  | 4 => (fn0 x y).getD 0 0
  | n => fN n x y z
theorem F'_ok (n : Nat) (p : Int × Int) (x y z : Int) (h : phiN n = some p) : p.1 ≤ F' n x y z ∧ F' n x y z ≤ p.2 := by
  have e : F' n x y z = fN n x y z := by
    unfold phiN at h
    split at h <;> first | rfl | cases h
  rw [e]
  exact phiN_ok n p x y z h
noncomputable def cxL : Cx := { cxOf 2 [(-2147483648, 2147483647), (-2147483648, 2147483647), (0, 255)] with F := F' }
theorem cxL_ok : CxOk cxL := ⟨(cxOf_ok 2 [(-2147483648, 2147483647), (-2147483648, 2147483647), (0, 255)]).1, (cxOf_ok 2 [(-2147483648, 2147483647), (-2147483648, 2147483647), (0, 255)]).2⟩
noncomputable def envL (l : List Int) : Env := ⟨fun i => l.getD i 0, F', fun _ => ptr0⟩
theorem envL_ok {l : List Int} (h : Bnd [(-2147483648, 2147483647), (-2147483648, 2147483647), (0, 255)] l) : EnvOk cxL (envL l) := ⟨h, F'_ok, fun _ => ⟨_, rfl⟩, rfl⟩
noncomputable def toldL : Eng.Told := [(34, gSym cxL true 4 1 true), (32, gTrue)]
theorem toldL_ok : ToldOk cxL toldL := told_cons (gSym_ok (g := fn0) (fun x y => outs_len ar0) (fun h => by rfl) (fun j x y hj => by match j, hj with | 0, _ => rfl | j + 1, hj => exact absurd hj (by omega)) (fun h => by cases h) (fun _ x y w l u l2 u2 => sem0 x y w l u l2 u2)) (told_cons (gTrue_ok aw) (told_nil _))
noncomputable def runL : CF := execFn cxL (rtsB rtB) (smOf toldL) (fun _ _ => none) 40 30
theorem runL_ok : CallOk cxL runL := execFn_ok cxL_ok rtB_ok (smOf_ok toldL_ok) (xok_none _) _

/-! ### twice as far -/
def P1 (a0 a1 : Int) : Prop :=
 ∀ y1000 : Int, y1000 = (maxZ a1 (minZ (0 - a1) 2147483647)) → (-2147483647 ≤ y1000 ∧ y1000 ≤ 2147483647) →
 ∀ y1001 : Int, y1001 = (maxZ a0 (minZ (0 - a0) 2147483647)) → (-2147483647 ≤ y1001 ∧ y1001 ≤ 2147483647) →
 ∀ y1002 : Int, y1002 = ((32 - (blen (IntKind.wrap .u32 (maxZ y1000 y1001)))) - 1) → (-1 ≤ y1002 ∧ y1002 ≤ 31) →
 ∀ y1003 : Int, y1003 = (IntKind.wrap .i32 (shlZ .u32 (IntKind.wrap .u32 (maxZ y1000 y1001)) (band .i32 y1002 31))) → (-2147483648 ≤ y1003 ∧ y1003 ≤ 2147483647) →
 ∀ y1004 : Int, y1004 = (IntKind.wrap .i32 (shlZ .u32 (IntKind.wrap .u32 (minZ y1000 y1001)) (band .i32 y1002 31))) → (-2147483648 ≤ y1004 ∧ y1004 ≤ 2147483647) →
 ∀ y1005 : Int, y1005 = (shrZ .i32 (shrZ .u32 (IntKind.wrap .u32 y1004) 2) 31) → (0 ≤ y1005 ∧ y1005 ≤ 0) →
 ∀ y1006 : Int, y1006 = (shrZ .i32 (shrZ .u32 (IntKind.wrap .u32 y1004) 2) 0) → (0 ≤ y1006 ∧ y1006 ≤ 1073741823) →
 ∀ y1007 : Int, y1007 = (IntKind.wrap .i32 ((shrZ .u32 (IntKind.wrap .u32 y1003) 2) + ((bxor .i32 y1006 y1005) - y1005))) → (-2147483648 ≤ y1007 ∧ y1007 ≤ 2147483647) →
 ∀ y1008 : Int, y1008 = (shrZ .i32 (shrZ .u32 (IntKind.wrap .u32 y1003) 2) 0) → (0 ≤ y1008 ∧ y1008 ≤ 1073741823) →
 ∀ y1009 : Int, y1009 = (IntKind.wrap .i32 ((shrZ .u32 (IntKind.wrap .u32 y1004) 2) - ((bxor .i32 y1008 y1005) - y1005))) → (-2147483648 ≤ y1009 ∧ y1009 ≤ 2147483647) →
 ∀ y1010 : Int, y1010 = (IntKind.wrap .i32 ((bxor .i32 (shrZ .i32 y1009 1) (shrZ .i32 y1009 31)) - (shrZ .i32 y1009 31))) → (-2147483648 ≤ y1010 ∧ y1010 ≤ 2147483647) →
 ∀ y1011 : Int, y1011 = (IntKind.wrap .i32 ((bxor .i32 (shrZ .i32 y1007 1) (shrZ .i32 y1009 31)) - (shrZ .i32 y1009 31))) → (-2147483648 ≤ y1011 ∧ y1011 ≤ 2147483647) →
 ∀ y1012 : Int, y1012 = (IntKind.wrap .i32 ((bxor .i32 248918915 (shrZ .i32 y1009 31)) - (shrZ .i32 y1009 31))) → (-2147483648 ≤ y1012 ∧ y1012 ≤ 2147483647) →
 ∀ y1013 : Int, y1013 = (IntKind.wrap .i32 (((bxor .i32 421657428 y1005) - y1005) + y1012)) → (-2147483648 ≤ y1013 ∧ y1013 ≤ 2147483647) →
 ∀ y1014 : Int, y1014 = (shrZ .i32 (IntKind.wrap .i32 (y1009 - y1011)) 31) → (-1 ≤ y1014 ∧ y1014 ≤ 0) →
 ∀ y1015 : Int, y1015 = (shrZ .i32 (IntKind.wrap .i32 (y1009 - y1011)) 2) → (-536870912 ≤ y1015 ∧ y1015 ≤ 536870911) →
 ∀ y1016 : Int, y1016 = (IntKind.wrap .i32 ((bxor .i32 y1015 y1014) - y1014)) → (-2147483648 ≤ y1016 ∧ y1016 ≤ 2147483647) →
 ∀ y1017 : Int, y1017 = (IntKind.wrap .i32 ((IntKind.wrap .i32 (y1007 + y1010)) + y1016)) → (-2147483648 ≤ y1017 ∧ y1017 ≤ 2147483647) →
 ∀ y1018 : Int, y1018 = (shrZ .i32 (IntKind.wrap .i32 (y1007 + y1010)) 2) → (-536870912 ≤ y1018 ∧ y1018 ≤ 536870911) →
 ∀ y1019 : Int, y1019 = (IntKind.wrap .i32 ((bxor .i32 y1018 y1014) - y1014)) → (-2147483648 ≤ y1019 ∧ y1019 ≤ 2147483647) →
 ∀ y1020 : Int, y1020 = (IntKind.wrap .i32 ((IntKind.wrap .i32 (y1009 - y1011)) - y1019)) → (-2147483648 ≤ y1020 ∧ y1020 ≤ 2147483647) →
 ∀ y1021 : Int, y1021 = (IntKind.wrap .i32 ((bxor .i32 131521918 y1014) - y1014)) → (-2147483648 ≤ y1021 ∧ y1021 ≤ 2147483647) →
 ∀ y1022 : Int, y1022 = (IntKind.wrap .i32 ((bxor .i32 (shrZ .i32 y1020 3) (shrZ .i32 y1020 31)) - (shrZ .i32 y1020 31))) → (-2147483648 ≤ y1022 ∧ y1022 ≤ 2147483647) →
 ∀ y1023 : Int, y1023 = (IntKind.wrap .i32 ((bxor .i32 (shrZ .i32 y1017 3) (shrZ .i32 y1020 31)) - (shrZ .i32 y1020 31))) → (-2147483648 ≤ y1023 ∧ y1023 ≤ 2147483647) →
 ∀ y1024 : Int, y1024 = (IntKind.wrap .i32 ((bxor .i32 66762579 (shrZ .i32 y1020 31)) - (shrZ .i32 y1020 31))) → (-2147483648 ≤ y1024 ∧ y1024 ≤ 2147483647) →
 ∀ y1025 : Int, y1025 = (IntKind.wrap .i32 ((IntKind.wrap .i32 (y1013 + y1021)) + y1024)) → (-2147483648 ≤ y1025 ∧ y1025 ≤ 2147483647) →
 ∀ y1026 : Int, y1026 = (shrZ .i32 (IntKind.wrap .i32 (y1020 - y1023)) 31) → (-1 ≤ y1026 ∧ y1026 ≤ 0) →
 ∀ y1027 : Int, y1027 = (shrZ .i32 (IntKind.wrap .i32 (y1020 - y1023)) 4) → (-134217728 ≤ y1027 ∧ y1027 ≤ 134217727) →
 ∀ y1028 : Int, y1028 = (IntKind.wrap .i32 ((bxor .i32 y1027 y1026) - y1026)) → (-2147483648 ≤ y1028 ∧ y1028 ≤ 2147483647) →
 ∀ y1029 : Int, y1029 = (IntKind.wrap .i32 ((IntKind.wrap .i32 (y1017 + y1022)) + y1028)) → (-2147483648 ≤ y1029 ∧ y1029 ≤ 2147483647) →
 ∀ y1030 : Int, y1030 = (shrZ .i32 (IntKind.wrap .i32 (y1017 + y1022)) 4) → (-134217728 ≤ y1030 ∧ y1030 ≤ 134217727) →
 ∀ y1031 : Int, y1031 = (IntKind.wrap .i32 ((bxor .i32 y1030 y1026) - y1026)) → (-2147483648 ≤ y1031 ∧ y1031 ≤ 2147483647) →
 ∀ y1032 : Int, y1032 = (IntKind.wrap .i32 ((IntKind.wrap .i32 (y1020 - y1023)) - y1031)) → (-2147483648 ≤ y1032 ∧ y1032 ≤ 2147483647) →
 ∀ y1033 : Int, y1033 = (IntKind.wrap .i32 ((bxor .i32 33510843 y1026) - y1026)) → (-2147483648 ≤ y1033 ∧ y1033 ≤ 2147483647) →
 ∀ y1034 : Int, y1034 = (IntKind.wrap .i32 ((bxor .i32 (shrZ .i32 y1032 5) (shrZ .i32 y1032 31)) - (shrZ .i32 y1032 31))) → (-2147483648 ≤ y1034 ∧ y1034 ≤ 2147483647) →
 ∀ y1035 : Int, y1035 = (IntKind.wrap .i32 ((bxor .i32 (shrZ .i32 y1029 5) (shrZ .i32 y1032 31)) - (shrZ .i32 y1032 31))) → (-2147483648 ≤ y1035 ∧ y1035 ≤ 2147483647) →
 ∀ y1036 : Int, y1036 = (IntKind.wrap .i32 ((bxor .i32 16771758 (shrZ .i32 y1032 31)) - (shrZ .i32 y1032 31))) → (-2147483648 ≤ y1036 ∧ y1036 ≤ 2147483647) →
 ∀ y1037 : Int, y1037 = (IntKind.wrap .i32 ((IntKind.wrap .i32 (y1025 + y1033)) + y1036)) → (-2147483648 ≤ y1037 ∧ y1037 ≤ 2147483647) →
 ∀ y1038 : Int, y1038 = (shrZ .i32 (IntKind.wrap .i32 (y1032 - y1035)) 31) → (-1 ≤ y1038 ∧ y1038 ≤ 0) →
 ∀ y1039 : Int, y1039 = (shrZ .i32 (IntKind.wrap .i32 (y1032 - y1035)) 6) → (-33554432 ≤ y1039 ∧ y1039 ≤ 33554431) →
 ∀ y1040 : Int, y1040 = (IntKind.wrap .i32 ((bxor .i32 y1039 y1038) - y1038)) → (-2147483648 ≤ y1040 ∧ y1040 ≤ 2147483647) →
 ∀ y1041 : Int, y1041 = (IntKind.wrap .i32 ((IntKind.wrap .i32 (y1029 + y1034)) + y1040)) → (-2147483648 ≤ y1041 ∧ y1041 ≤ 2147483647) →
 ∀ y1042 : Int, y1042 = (shrZ .i32 (IntKind.wrap .i32 (y1029 + y1034)) 6) → (-33554432 ≤ y1042 ∧ y1042 ≤ 33554431) →
 ∀ y1043 : Int, y1043 = (IntKind.wrap .i32 ((bxor .i32 y1042 y1038) - y1038)) → (-2147483648 ≤ y1043 ∧ y1043 ≤ 2147483647) →
 ∀ y1044 : Int, y1044 = (IntKind.wrap .i32 ((IntKind.wrap .i32 (y1032 - y1035)) - y1043)) → (-2147483648 ≤ y1044 ∧ y1044 ≤ 2147483647) →
 ∀ y1045 : Int, y1045 = (IntKind.wrap .i32 ((bxor .i32 8387925 y1038) - y1038)) → (-2147483648 ≤ y1045 ∧ y1045 ≤ 2147483647) →
 ∀ y1046 : Int, y1046 = (IntKind.wrap .i32 ((bxor .i32 (shrZ .i32 y1044 7) (shrZ .i32 y1044 31)) - (shrZ .i32 y1044 31))) → (-2147483648 ≤ y1046 ∧ y1046 ≤ 2147483647) →
 ∀ y1047 : Int, y1047 = (IntKind.wrap .i32 ((bxor .i32 (shrZ .i32 y1041 7) (shrZ .i32 y1044 31)) - (shrZ .i32 y1044 31))) → (-2147483648 ≤ y1047 ∧ y1047 ≤ 2147483647) →
 ∀ y1048 : Int, y1048 = (IntKind.wrap .i32 ((bxor .i32 4194219 (shrZ .i32 y1044 31)) - (shrZ .i32 y1044 31))) → (-2147483648 ≤ y1048 ∧ y1048 ≤ 2147483647) →
 ∀ y1049 : Int, y1049 = (IntKind.wrap .i32 ((IntKind.wrap .i32 (y1037 + y1045)) + y1048)) → (-2147483648 ≤ y1049 ∧ y1049 ≤ 2147483647) →
 ∀ y1050 : Int, y1050 = (shrZ .i32 (IntKind.wrap .i32 (y1044 - y1047)) 31) → (-1 ≤ y1050 ∧ y1050 ≤ 0) →
 ∀ y1051 : Int, y1051 = (shrZ .i32 (IntKind.wrap .i32 (y1044 - y1047)) 8) → (-8388608 ≤ y1051 ∧ y1051 ≤ 8388607) →
 ∀ y1052 : Int, y1052 = (IntKind.wrap .i32 ((bxor .i32 y1051 y1050) - y1050)) → (-2147483648 ≤ y1052 ∧ y1052 ≤ 2147483647) →
 ∀ y1053 : Int, y1053 = (IntKind.wrap .i32 ((IntKind.wrap .i32 (y1041 + y1046)) + y1052)) → (-2147483648 ≤ y1053 ∧ y1053 ≤ 2147483647) →
 ∀ y1054 : Int, y1054 = (shrZ .i32 (IntKind.wrap .i32 (y1041 + y1046)) 8) → (-8388608 ≤ y1054 ∧ y1054 ≤ 8388607) →
 ∀ y1055 : Int, y1055 = (IntKind.wrap .i32 ((bxor .i32 y1054 y1050) - y1050)) → (-2147483648 ≤ y1055 ∧ y1055 ≤ 2147483647) →
 ∀ y1056 : Int, y1056 = (IntKind.wrap .i32 ((IntKind.wrap .i32 (y1044 - y1047)) - y1055)) → (-2147483648 ≤ y1056 ∧ y1056 ≤ 2147483647) →
 ∀ y1057 : Int, y1057 = (IntKind.wrap .i32 ((bxor .i32 2097141 y1050) - y1050)) → (-2147483648 ≤ y1057 ∧ y1057 ≤ 2147483647) →
 ∀ y1058 : Int, y1058 = (IntKind.wrap .i32 ((bxor .i32 (shrZ .i32 y1056 9) (shrZ .i32 y1056 31)) - (shrZ .i32 y1056 31))) → (-2147483648 ≤ y1058 ∧ y1058 ≤ 2147483647) →
 ∀ y1059 : Int, y1059 = (IntKind.wrap .i32 ((bxor .i32 (shrZ .i32 y1053 9) (shrZ .i32 y1056 31)) - (shrZ .i32 y1056 31))) → (-2147483648 ≤ y1059 ∧ y1059 ≤ 2147483647) →
 ∀ y1060 : Int, y1060 = (IntKind.wrap .i32 ((bxor .i32 1048575 (shrZ .i32 y1056 31)) - (shrZ .i32 y1056 31))) → (-2147483648 ≤ y1060 ∧ y1060 ≤ 2147483647) →
 ∀ y1061 : Int, y1061 = (IntKind.wrap .i32 ((IntKind.wrap .i32 (y1049 + y1057)) + y1060)) → (-2147483648 ≤ y1061 ∧ y1061 ≤ 2147483647) →
 ∀ y1062 : Int, y1062 = (shrZ .i32 (IntKind.wrap .i32 (y1056 - y1059)) 31) → (-1 ≤ y1062 ∧ y1062 ≤ 0) →
 ∀ y1063 : Int, y1063 = (shrZ .i32 (IntKind.wrap .i32 (y1056 - y1059)) 10) → (-2097152 ≤ y1063 ∧ y1063 ≤ 2097151) →
 ∀ y1064 : Int, y1064 = (IntKind.wrap .i32 ((bxor .i32 y1063 y1062) - y1062)) → (-2147483648 ≤ y1064 ∧ y1064 ≤ 2147483647) →
 ∀ y1065 : Int, y1065 = (IntKind.wrap .i32 ((IntKind.wrap .i32 (y1053 + y1058)) + y1064)) → (-2147483648 ≤ y1065 ∧ y1065 ≤ 2147483647) →
 ∀ y1066 : Int, y1066 = (shrZ .i32 (IntKind.wrap .i32 (y1053 + y1058)) 10) → (-2097152 ≤ y1066 ∧ y1066 ≤ 2097151) →
 ∀ y1067 : Int, y1067 = (IntKind.wrap .i32 ((bxor .i32 y1066 y1062) - y1062)) → (-2147483648 ≤ y1067 ∧ y1067 ≤ 2147483647) →
 ∀ y1068 : Int, y1068 = (IntKind.wrap .i32 ((IntKind.wrap .i32 (y1056 - y1059)) - y1067)) → (-2147483648 ≤ y1068 ∧ y1068 ≤ 2147483647) →
 ∀ y1069 : Int, y1069 = (IntKind.wrap .i32 ((bxor .i32 524288 y1062) - y1062)) → (-2147483648 ≤ y1069 ∧ y1069 ≤ 2147483647) →
 ∀ y1070 : Int, y1070 = (IntKind.wrap .i32 ((bxor .i32 (shrZ .i32 y1068 11) (shrZ .i32 y1068 31)) - (shrZ .i32 y1068 31))) → (-2147483648 ≤ y1070 ∧ y1070 ≤ 2147483647) →
 ∀ y1071 : Int, y1071 = (IntKind.wrap .i32 ((bxor .i32 (shrZ .i32 y1065 11) (shrZ .i32 y1068 31)) - (shrZ .i32 y1068 31))) → (-2147483648 ≤ y1071 ∧ y1071 ≤ 2147483647) →
 ∀ y1072 : Int, y1072 = (IntKind.wrap .i32 ((bxor .i32 262144 (shrZ .i32 y1068 31)) - (shrZ .i32 y1068 31))) → (-2147483648 ≤ y1072 ∧ y1072 ≤ 2147483647) →
 ∀ y1073 : Int, y1073 = (IntKind.wrap .i32 ((IntKind.wrap .i32 (y1061 + y1069)) + y1072)) → (-2147483648 ≤ y1073 ∧ y1073 ≤ 2147483647) →
 ∀ y1074 : Int, y1074 = (shrZ .i32 (IntKind.wrap .i32 (y1068 - y1071)) 31) → (-1 ≤ y1074 ∧ y1074 ≤ 0) →
 ∀ y1075 : Int, y1075 = (shrZ .i32 (IntKind.wrap .i32 (y1068 - y1071)) 12) → (-524288 ≤ y1075 ∧ y1075 ≤ 524287) →
 ∀ y1076 : Int, y1076 = (IntKind.wrap .i32 ((bxor .i32 y1075 y1074) - y1074)) → (-2147483648 ≤ y1076 ∧ y1076 ≤ 2147483647) →
 ∀ y1077 : Int, y1077 = (IntKind.wrap .i32 ((IntKind.wrap .i32 (y1065 + y1070)) + y1076)) → (-2147483648 ≤ y1077 ∧ y1077 ≤ 2147483647) →
 ∀ y1078 : Int, y1078 = (shrZ .i32 (IntKind.wrap .i32 (y1065 + y1070)) 12) → (-524288 ≤ y1078 ∧ y1078 ≤ 524287) →
 ∀ y1079 : Int, y1079 = (IntKind.wrap .i32 ((bxor .i32 y1078 y1074) - y1074)) → (-2147483648 ≤ y1079 ∧ y1079 ≤ 2147483647) →
 ∀ y1080 : Int, y1080 = (IntKind.wrap .i32 ((IntKind.wrap .i32 (y1068 - y1071)) - y1079)) → (-2147483648 ≤ y1080 ∧ y1080 ≤ 2147483647) →
 ∀ y1081 : Int, y1081 = (IntKind.wrap .i32 ((bxor .i32 131072 y1074) - y1074)) → (-2147483648 ≤ y1081 ∧ y1081 ≤ 2147483647) →
 ∀ y1082 : Int, y1082 = (IntKind.wrap .i32 ((bxor .i32 (shrZ .i32 y1080 13) (shrZ .i32 y1080 31)) - (shrZ .i32 y1080 31))) → (-2147483648 ≤ y1082 ∧ y1082 ≤ 2147483647) →
 ∀ y1083 : Int, y1083 = (IntKind.wrap .i32 ((bxor .i32 (shrZ .i32 y1077 13) (shrZ .i32 y1080 31)) - (shrZ .i32 y1080 31))) → (-2147483648 ≤ y1083 ∧ y1083 ≤ 2147483647) →
 ∀ y1084 : Int, y1084 = (IntKind.wrap .i32 ((bxor .i32 65536 (shrZ .i32 y1080 31)) - (shrZ .i32 y1080 31))) → (-2147483648 ≤ y1084 ∧ y1084 ≤ 2147483647) →
 ∀ y1085 : Int, y1085 = (IntKind.wrap .i32 ((IntKind.wrap .i32 (y1073 + y1081)) + y1084)) → (-2147483648 ≤ y1085 ∧ y1085 ≤ 2147483647) →
 ∀ y1086 : Int, y1086 = (shrZ .i32 (IntKind.wrap .i32 (y1080 - y1083)) 31) → (-1 ≤ y1086 ∧ y1086 ≤ 0) →
 ∀ y1087 : Int, y1087 = (shrZ .i32 (IntKind.wrap .i32 (y1080 - y1083)) 14) → (-131072 ≤ y1087 ∧ y1087 ≤ 131071) →
 ∀ y1088 : Int, y1088 = (IntKind.wrap .i32 ((bxor .i32 y1087 y1086) - y1086)) → (-2147483648 ≤ y1088 ∧ y1088 ≤ 2147483647) →
 ∀ y1089 : Int, y1089 = (IntKind.wrap .i32 ((IntKind.wrap .i32 (y1077 + y1082)) + y1088)) → (-2147483648 ≤ y1089 ∧ y1089 ≤ 2147483647) →
 ∀ y1090 : Int, y1090 = (shrZ .i32 (IntKind.wrap .i32 (y1077 + y1082)) 14) → (-131072 ≤ y1090 ∧ y1090 ≤ 131071) →
 ∀ y1091 : Int, y1091 = (IntKind.wrap .i32 ((bxor .i32 y1090 y1086) - y1086)) → (-2147483648 ≤ y1091 ∧ y1091 ≤ 2147483647) →
 ∀ y1092 : Int, y1092 = (IntKind.wrap .i32 ((IntKind.wrap .i32 (y1080 - y1083)) - y1091)) → (-2147483648 ≤ y1092 ∧ y1092 ≤ 2147483647) →
 ∀ y1093 : Int, y1093 = (IntKind.wrap .i32 ((bxor .i32 32768 y1086) - y1086)) → (-2147483648 ≤ y1093 ∧ y1093 ≤ 2147483647) →
 ∀ y1094 : Int, y1094 = (IntKind.wrap .i32 ((bxor .i32 (shrZ .i32 y1092 15) (shrZ .i32 y1092 31)) - (shrZ .i32 y1092 31))) → (-2147483648 ≤ y1094 ∧ y1094 ≤ 2147483647) →
 ∀ y1095 : Int, y1095 = (IntKind.wrap .i32 ((bxor .i32 (shrZ .i32 y1089 15) (shrZ .i32 y1092 31)) - (shrZ .i32 y1092 31))) → (-2147483648 ≤ y1095 ∧ y1095 ≤ 2147483647) →
 ∀ y1096 : Int, y1096 = (IntKind.wrap .i32 ((bxor .i32 16384 (shrZ .i32 y1092 31)) - (shrZ .i32 y1092 31))) → (-2147483648 ≤ y1096 ∧ y1096 ≤ 2147483647) →
 ∀ y1097 : Int, y1097 = (IntKind.wrap .i32 ((IntKind.wrap .i32 (y1085 + y1093)) + y1096)) → (-2147483648 ≤ y1097 ∧ y1097 ≤ 2147483647) →
 ∀ y1098 : Int, y1098 = (shrZ .i32 (IntKind.wrap .i32 (y1092 - y1095)) 31) → (-1 ≤ y1098 ∧ y1098 ≤ 0) →
 ∀ y1099 : Int, y1099 = (shrZ .i32 (IntKind.wrap .i32 (y1092 - y1095)) 16) → (-32768 ≤ y1099 ∧ y1099 ≤ 32767) →
 ∀ y1100 : Int, y1100 = (IntKind.wrap .i32 ((bxor .i32 y1099 y1098) - y1098)) → (-2147483648 ≤ y1100 ∧ y1100 ≤ 2147483647) →
 ∀ y1101 : Int, y1101 = (IntKind.wrap .i32 ((IntKind.wrap .i32 (y1089 + y1094)) + y1100)) → (-2147483648 ≤ y1101 ∧ y1101 ≤ 2147483647) →
 ∀ y1102 : Int, y1102 = (shrZ .i32 (IntKind.wrap .i32 (y1089 + y1094)) 16) → (-32768 ≤ y1102 ∧ y1102 ≤ 32767) →
 ∀ y1103 : Int, y1103 = (IntKind.wrap .i32 ((bxor .i32 y1102 y1098) - y1098)) → (-2147483648 ≤ y1103 ∧ y1103 ≤ 2147483647) →
 ∀ y1104 : Int, y1104 = (IntKind.wrap .i32 ((IntKind.wrap .i32 (y1092 - y1095)) - y1103)) → (-2147483648 ≤ y1104 ∧ y1104 ≤ 2147483647) →
 ∀ y1105 : Int, y1105 = (IntKind.wrap .i32 ((bxor .i32 8192 y1098) - y1098)) → (-2147483648 ≤ y1105 ∧ y1105 ≤ 2147483647) →
 ∀ y1106 : Int, y1106 = (IntKind.wrap .i32 ((bxor .i32 (shrZ .i32 y1104 17) (shrZ .i32 y1104 31)) - (shrZ .i32 y1104 31))) → (-2147483648 ≤ y1106 ∧ y1106 ≤ 2147483647) →
 ∀ y1107 : Int, y1107 = (IntKind.wrap .i32 ((bxor .i32 (shrZ .i32 y1101 17) (shrZ .i32 y1104 31)) - (shrZ .i32 y1104 31))) → (-2147483648 ≤ y1107 ∧ y1107 ≤ 2147483647) →
 ∀ y1108 : Int, y1108 = (IntKind.wrap .i32 ((bxor .i32 4096 (shrZ .i32 y1104 31)) - (shrZ .i32 y1104 31))) → (-2147483648 ≤ y1108 ∧ y1108 ≤ 2147483647) →
 ∀ y1109 : Int, y1109 = (IntKind.wrap .i32 ((IntKind.wrap .i32 (y1097 + y1105)) + y1108)) → (-2147483648 ≤ y1109 ∧ y1109 ≤ 2147483647) →
 ∀ y1110 : Int, y1110 = (shrZ .i32 (IntKind.wrap .i32 (y1104 - y1107)) 31) → (-1 ≤ y1110 ∧ y1110 ≤ 0) →
 ∀ y1111 : Int, y1111 = (shrZ .i32 (IntKind.wrap .i32 (y1104 - y1107)) 18) → (-8192 ≤ y1111 ∧ y1111 ≤ 8191) →
 ∀ y1112 : Int, y1112 = (IntKind.wrap .i32 ((bxor .i32 y1111 y1110) - y1110)) → (-2147483648 ≤ y1112 ∧ y1112 ≤ 2147483647) →
 ∀ y1113 : Int, y1113 = (IntKind.wrap .i32 ((IntKind.wrap .i32 (y1101 + y1106)) + y1112)) → (-2147483648 ≤ y1113 ∧ y1113 ≤ 2147483647) →
 ∀ y1114 : Int, y1114 = (shrZ .i32 (IntKind.wrap .i32 (y1101 + y1106)) 18) → (-8192 ≤ y1114 ∧ y1114 ≤ 8191) →
 ∀ y1115 : Int, y1115 = (IntKind.wrap .i32 ((bxor .i32 y1114 y1110) - y1110)) → (-2147483648 ≤ y1115 ∧ y1115 ≤ 2147483647) →
 ∀ y1116 : Int, y1116 = (IntKind.wrap .i32 ((IntKind.wrap .i32 (y1104 - y1107)) - y1115)) → (-2147483648 ≤ y1116 ∧ y1116 ≤ 2147483647) →
 ∀ y1117 : Int, y1117 = (IntKind.wrap .i32 ((bxor .i32 2048 y1110) - y1110)) → (-2147483648 ≤ y1117 ∧ y1117 ≤ 2147483647) →
 ∀ y1118 : Int, y1118 = (IntKind.wrap .i32 ((bxor .i32 (shrZ .i32 y1116 19) (shrZ .i32 y1116 31)) - (shrZ .i32 y1116 31))) → (-2147483648 ≤ y1118 ∧ y1118 ≤ 2147483647) →
 ∀ y1119 : Int, y1119 = (IntKind.wrap .i32 ((bxor .i32 (shrZ .i32 y1113 19) (shrZ .i32 y1116 31)) - (shrZ .i32 y1116 31))) → (-2147483648 ≤ y1119 ∧ y1119 ≤ 2147483647) →
 ∀ y1120 : Int, y1120 = (IntKind.wrap .i32 ((bxor .i32 1024 (shrZ .i32 y1116 31)) - (shrZ .i32 y1116 31))) → (-2147483648 ≤ y1120 ∧ y1120 ≤ 2147483647) →
 ∀ y1121 : Int, y1121 = (IntKind.wrap .i32 ((IntKind.wrap .i32 (y1109 + y1117)) + y1120)) → (-2147483648 ≤ y1121 ∧ y1121 ≤ 2147483647) →
 ∀ y1122 : Int, y1122 = (shrZ .i32 (IntKind.wrap .i32 (y1116 - y1119)) 31) → (-1 ≤ y1122 ∧ y1122 ≤ 0) →
 ∀ y1123 : Int, y1123 = (shrZ .i32 (IntKind.wrap .i32 (y1116 - y1119)) 20) → (-2048 ≤ y1123 ∧ y1123 ≤ 2047) →
 ∀ y1124 : Int, y1124 = (IntKind.wrap .i32 ((bxor .i32 y1123 y1122) - y1122)) → (-2147483648 ≤ y1124 ∧ y1124 ≤ 2147483647) →
 ∀ y1125 : Int, y1125 = (IntKind.wrap .i32 ((IntKind.wrap .i32 (y1113 + y1118)) + y1124)) → (-2147483648 ≤ y1125 ∧ y1125 ≤ 2147483647) →
 ∀ y1126 : Int, y1126 = (shrZ .i32 (IntKind.wrap .i32 (y1113 + y1118)) 20) → (-2048 ≤ y1126 ∧ y1126 ≤ 2047) →
 ∀ y1127 : Int, y1127 = (IntKind.wrap .i32 ((bxor .i32 y1126 y1122) - y1122)) → (-2147483648 ≤ y1127 ∧ y1127 ≤ 2147483647) →
 ∀ y1128 : Int, y1128 = (IntKind.wrap .i32 ((IntKind.wrap .i32 (y1116 - y1119)) - y1127)) → (-2147483648 ≤ y1128 ∧ y1128 ≤ 2147483647) →
 ∀ y1129 : Int, y1129 = (IntKind.wrap .i32 ((bxor .i32 512 y1122) - y1122)) → (-2147483648 ≤ y1129 ∧ y1129 ≤ 2147483647) →
 ∀ y1130 : Int, y1130 = (IntKind.wrap .i32 ((bxor .i32 (shrZ .i32 y1128 21) (shrZ .i32 y1128 31)) - (shrZ .i32 y1128 31))) → (-2147483648 ≤ y1130 ∧ y1130 ≤ 2147483647) →
 ∀ y1131 : Int, y1131 = (IntKind.wrap .i32 ((bxor .i32 (shrZ .i32 y1125 21) (shrZ .i32 y1128 31)) - (shrZ .i32 y1128 31))) → (-2147483648 ≤ y1131 ∧ y1131 ≤ 2147483647) →
 ∀ y1132 : Int, y1132 = (IntKind.wrap .i32 ((bxor .i32 256 (shrZ .i32 y1128 31)) - (shrZ .i32 y1128 31))) → (-2147483648 ≤ y1132 ∧ y1132 ≤ 2147483647) →
 ∀ y1133 : Int, y1133 = (IntKind.wrap .i32 ((IntKind.wrap .i32 (y1121 + y1129)) + y1132)) → (-2147483648 ≤ y1133 ∧ y1133 ≤ 2147483647) →
 ∀ y1134 : Int, y1134 = (shrZ .i32 (IntKind.wrap .i32 (y1128 - y1131)) 31) → (-1 ≤ y1134 ∧ y1134 ≤ 0) →
 ∀ y1135 : Int, y1135 = (shrZ .i32 (IntKind.wrap .i32 (y1128 - y1131)) 22) → (-512 ≤ y1135 ∧ y1135 ≤ 511) →
 ∀ y1136 : Int, y1136 = (IntKind.wrap .i32 ((bxor .i32 y1135 y1134) - y1134)) → (-2147483648 ≤ y1136 ∧ y1136 ≤ 2147483647) →
 ∀ y1137 : Int, y1137 = (IntKind.wrap .i32 ((IntKind.wrap .i32 (y1125 + y1130)) + y1136)) → (-2147483648 ≤ y1137 ∧ y1137 ≤ 2147483647) →
 ∀ y1138 : Int, y1138 = (shrZ .i32 (IntKind.wrap .i32 (y1125 + y1130)) 22) → (-512 ≤ y1138 ∧ y1138 ≤ 511) →
 ∀ y1139 : Int, y1139 = (IntKind.wrap .i32 ((bxor .i32 y1138 y1134) - y1134)) → (-2147483648 ≤ y1139 ∧ y1139 ≤ 2147483647) →
 ∀ y1140 : Int, y1140 = (IntKind.wrap .i32 ((IntKind.wrap .i32 (y1128 - y1131)) - y1139)) → (-2147483648 ≤ y1140 ∧ y1140 ≤ 2147483647) →
 ∀ y1141 : Int, y1141 = (IntKind.wrap .i32 ((bxor .i32 128 y1134) - y1134)) → (-2147483648 ≤ y1141 ∧ y1141 ≤ 2147483647) →
 ∀ y1142 : Int, y1142 = (IntKind.wrap .i32 ((bxor .i32 (shrZ .i32 y1140 23) (shrZ .i32 y1140 31)) - (shrZ .i32 y1140 31))) → (-2147483648 ≤ y1142 ∧ y1142 ≤ 2147483647) →
 ∀ y1143 : Int, y1143 = (IntKind.wrap .i32 ((bxor .i32 (shrZ .i32 y1137 23) (shrZ .i32 y1140 31)) - (shrZ .i32 y1140 31))) → (-2147483648 ≤ y1143 ∧ y1143 ≤ 2147483647) →
 ∀ y1144 : Int, y1144 = (IntKind.wrap .i32 ((bxor .i32 64 (shrZ .i32 y1140 31)) - (shrZ .i32 y1140 31))) → (-2147483648 ≤ y1144 ∧ y1144 ≤ 2147483647) →
 ∀ y1145 : Int, y1145 = (IntKind.wrap .i32 ((IntKind.wrap .i32 (y1133 + y1141)) + y1144)) → (-2147483648 ≤ y1145 ∧ y1145 ≤ 2147483647) →
 ∀ y1146 : Int, y1146 = (shrZ .i32 (IntKind.wrap .i32 (y1140 - y1143)) 31) → (-1 ≤ y1146 ∧ y1146 ≤ 0) →
 ∀ y1147 : Int, y1147 = (shrZ .i32 (IntKind.wrap .i32 (y1140 - y1143)) 24) → (-128 ≤ y1147 ∧ y1147 ≤ 127) →
 ∀ y1148 : Int, y1148 = (IntKind.wrap .i32 ((bxor .i32 y1147 y1146) - y1146)) → (-2147483648 ≤ y1148 ∧ y1148 ≤ 2147483647) →
 ∀ y1149 : Int, y1149 = (IntKind.wrap .i32 ((IntKind.wrap .i32 (y1137 + y1142)) + y1148)) → (-2147483648 ≤ y1149 ∧ y1149 ≤ 2147483647) →
 ∀ y1150 : Int, y1150 = (shrZ .i32 (IntKind.wrap .i32 (y1137 + y1142)) 24) → (-128 ≤ y1150 ∧ y1150 ≤ 127) →
 ∀ y1151 : Int, y1151 = (IntKind.wrap .i32 ((bxor .i32 y1150 y1146) - y1146)) → (-2147483648 ≤ y1151 ∧ y1151 ≤ 2147483647) →
 ∀ y1152 : Int, y1152 = (IntKind.wrap .i32 ((IntKind.wrap .i32 (y1140 - y1143)) - y1151)) → (-2147483648 ≤ y1152 ∧ y1152 ≤ 2147483647) →
 ∀ y1153 : Int, y1153 = (IntKind.wrap .i32 ((bxor .i32 32 y1146) - y1146)) → (-2147483648 ≤ y1153 ∧ y1153 ≤ 2147483647) →
 ∀ y1154 : Int, y1154 = (IntKind.wrap .i32 ((bxor .i32 (shrZ .i32 y1152 25) (shrZ .i32 y1152 31)) - (shrZ .i32 y1152 31))) → (-2147483648 ≤ y1154 ∧ y1154 ≤ 2147483647) →
 ∀ y1155 : Int, y1155 = (IntKind.wrap .i32 ((bxor .i32 (shrZ .i32 y1149 25) (shrZ .i32 y1152 31)) - (shrZ .i32 y1152 31))) → (-2147483648 ≤ y1155 ∧ y1155 ≤ 2147483647) →
 ∀ y1156 : Int, y1156 = (IntKind.wrap .i32 ((bxor .i32 16 (shrZ .i32 y1152 31)) - (shrZ .i32 y1152 31))) → (-2147483648 ≤ y1156 ∧ y1156 ≤ 2147483647) →
 ∀ y1157 : Int, y1157 = (IntKind.wrap .i32 ((IntKind.wrap .i32 (y1145 + y1153)) + y1156)) → (-2147483648 ≤ y1157 ∧ y1157 ≤ 2147483647) →
 ∀ y1158 : Int, y1158 = (shrZ .i32 (IntKind.wrap .i32 (y1152 - y1155)) 31) → (-1 ≤ y1158 ∧ y1158 ≤ 0) →
 ∀ y1159 : Int, y1159 = (shrZ .i32 (IntKind.wrap .i32 (y1152 - y1155)) 26) → (-32 ≤ y1159 ∧ y1159 ≤ 31) →
 ∀ y1160 : Int, y1160 = (IntKind.wrap .i32 ((bxor .i32 y1159 y1158) - y1158)) → (-2147483648 ≤ y1160 ∧ y1160 ≤ 2147483647) →
 ∀ y1161 : Int, y1161 = (IntKind.wrap .i32 ((IntKind.wrap .i32 (y1149 + y1154)) + y1160)) → (-2147483648 ≤ y1161 ∧ y1161 ≤ 2147483647) →
 ∀ y1162 : Int, y1162 = (shrZ .i32 (IntKind.wrap .i32 (y1149 + y1154)) 26) → (-32 ≤ y1162 ∧ y1162 ≤ 31) →
 ∀ y1163 : Int, y1163 = (IntKind.wrap .i32 ((bxor .i32 y1162 y1158) - y1158)) → (-2147483648 ≤ y1163 ∧ y1163 ≤ 2147483647) →
 ∀ y1164 : Int, y1164 = (IntKind.wrap .i32 ((IntKind.wrap .i32 (y1152 - y1155)) - y1163)) → (-2147483648 ≤ y1164 ∧ y1164 ≤ 2147483647) →
 ∀ y1165 : Int, y1165 = (IntKind.wrap .i32 ((bxor .i32 8 y1158) - y1158)) → (-2147483648 ≤ y1165 ∧ y1165 ≤ 2147483647) →
 ∀ y1166 : Int, y1166 = (IntKind.wrap .i32 ((bxor .i32 (shrZ .i32 y1164 27) (shrZ .i32 y1164 31)) - (shrZ .i32 y1164 31))) → (-2147483648 ≤ y1166 ∧ y1166 ≤ 2147483647) →
 ∀ y1167 : Int, y1167 = (IntKind.wrap .i32 ((bxor .i32 (shrZ .i32 y1161 27) (shrZ .i32 y1164 31)) - (shrZ .i32 y1164 31))) → (-2147483648 ≤ y1167 ∧ y1167 ≤ 2147483647) →
 ∀ y1168 : Int, y1168 = (IntKind.wrap .i32 ((bxor .i32 4 (shrZ .i32 y1164 31)) - (shrZ .i32 y1164 31))) → (-2147483648 ≤ y1168 ∧ y1168 ≤ 2147483647) →
 ∀ y1169 : Int, y1169 = (IntKind.wrap .i32 ((IntKind.wrap .i32 (y1157 + y1165)) + y1168)) → (-2147483648 ≤ y1169 ∧ y1169 ≤ 2147483647) →
 ∀ y1170 : Int, y1170 = (0 - (iteZ (bool01 (decide (y1000 < y1001))) 1 0)) → (-1 ≤ y1170 ∧ y1170 ≤ 0) →
 ∀ y1171 : Int, y1171 = (bor .i32 (band .i32 (IntKind.wrap .i32 (843314857 - y1169)) y1170) (bandn .i32 y1169 y1170)) → (-2147483648 ≤ y1171 ∧ y1171 ≤ 2147483647) →
 ∀ y1172 : Int, y1172 = (bor .i32 (band .i32 (IntKind.wrap .i32 (1686629713 - y1171)) (shrZ .i32 a1 31)) (bandn .i32 y1171 (shrZ .i32 a1 31))) → (-2147483648 ≤ y1172 ∧ y1172 ≤ 2147483647) →
 ∀ y1173 : Int, y1173 = (IntKind.wrap .i32 ((bxor .i32 y1172 (shrZ .i32 a0 31)) - (shrZ .i32 a0 31))) → (-2147483648 ≤ y1173 ∧ y1173 ≤ 2147483647) →
 ∀ y1174 : Int, y1174 = (maxZ (2 * a1) (minZ (0 - (2 * a1)) 2147483647)) → (-2147483647 ≤ y1174 ∧ y1174 ≤ 2147483647) →
 ∀ y1175 : Int, y1175 = (maxZ (2 * a0) (minZ (0 - (2 * a0)) 2147483647)) → (-2147483647 ≤ y1175 ∧ y1175 ≤ 2147483647) →
 ∀ y1176 : Int, y1176 = ((32 - (blen (IntKind.wrap .u32 (maxZ y1174 y1175)))) - 1) → (-1 ≤ y1176 ∧ y1176 ≤ 31) →
 ∀ y1177 : Int, y1177 = (IntKind.wrap .i32 (shlZ .u32 (IntKind.wrap .u32 (maxZ y1174 y1175)) (band .i32 y1176 31))) → (-2147483648 ≤ y1177 ∧ y1177 ≤ 2147483647) →
 ∀ y1178 : Int, y1178 = (IntKind.wrap .i32 (shlZ .u32 (IntKind.wrap .u32 (minZ y1174 y1175)) (band .i32 y1176 31))) → (-2147483648 ≤ y1178 ∧ y1178 ≤ 2147483647) →
 ∀ y1179 : Int, y1179 = (shrZ .i32 (shrZ .u32 (IntKind.wrap .u32 y1178) 2) 31) → (0 ≤ y1179 ∧ y1179 ≤ 0) →
 ∀ y1180 : Int, y1180 = (shrZ .i32 (shrZ .u32 (IntKind.wrap .u32 y1178) 2) 0) → (0 ≤ y1180 ∧ y1180 ≤ 1073741823) →
 ∀ y1181 : Int, y1181 = (IntKind.wrap .i32 ((shrZ .u32 (IntKind.wrap .u32 y1177) 2) + ((bxor .i32 y1180 y1179) - y1179))) → (-2147483648 ≤ y1181 ∧ y1181 ≤ 2147483647) →
 ∀ y1182 : Int, y1182 = (shrZ .i32 (shrZ .u32 (IntKind.wrap .u32 y1177) 2) 0) → (0 ≤ y1182 ∧ y1182 ≤ 1073741823) →
 ∀ y1183 : Int, y1183 = (IntKind.wrap .i32 ((shrZ .u32 (IntKind.wrap .u32 y1178) 2) - ((bxor .i32 y1182 y1179) - y1179))) → (-2147483648 ≤ y1183 ∧ y1183 ≤ 2147483647) →
 ∀ y1184 : Int, y1184 = (IntKind.wrap .i32 ((bxor .i32 (shrZ .i32 y1183 1) (shrZ .i32 y1183 31)) - (shrZ .i32 y1183 31))) → (-2147483648 ≤ y1184 ∧ y1184 ≤ 2147483647) →
 ∀ y1185 : Int, y1185 = (IntKind.wrap .i32 ((bxor .i32 (shrZ .i32 y1181 1) (shrZ .i32 y1183 31)) - (shrZ .i32 y1183 31))) → (-2147483648 ≤ y1185 ∧ y1185 ≤ 2147483647) →
 ∀ y1186 : Int, y1186 = (IntKind.wrap .i32 ((bxor .i32 248918915 (shrZ .i32 y1183 31)) - (shrZ .i32 y1183 31))) → (-2147483648 ≤ y1186 ∧ y1186 ≤ 2147483647) →
 ∀ y1187 : Int, y1187 = (IntKind.wrap .i32 (((bxor .i32 421657428 y1179) - y1179) + y1186)) → (-2147483648 ≤ y1187 ∧ y1187 ≤ 2147483647) →
 ∀ y1188 : Int, y1188 = (shrZ .i32 (IntKind.wrap .i32 (y1183 - y1185)) 31) → (-1 ≤ y1188 ∧ y1188 ≤ 0) →
 ∀ y1189 : Int, y1189 = (shrZ .i32 (IntKind.wrap .i32 (y1183 - y1185)) 2) → (-536870912 ≤ y1189 ∧ y1189 ≤ 536870911) →
 ∀ y1190 : Int, y1190 = (IntKind.wrap .i32 ((bxor .i32 y1189 y1188) - y1188)) → (-2147483648 ≤ y1190 ∧ y1190 ≤ 2147483647) →
 ∀ y1191 : Int, y1191 = (IntKind.wrap .i32 ((IntKind.wrap .i32 (y1181 + y1184)) + y1190)) → (-2147483648 ≤ y1191 ∧ y1191 ≤ 2147483647) →
 ∀ y1192 : Int, y1192 = (shrZ .i32 (IntKind.wrap .i32 (y1181 + y1184)) 2) → (-536870912 ≤ y1192 ∧ y1192 ≤ 536870911) →
 ∀ y1193 : Int, y1193 = (IntKind.wrap .i32 ((bxor .i32 y1192 y1188) - y1188)) → (-2147483648 ≤ y1193 ∧ y1193 ≤ 2147483647) →
 ∀ y1194 : Int, y1194 = (IntKind.wrap .i32 ((IntKind.wrap .i32 (y1183 - y1185)) - y1193)) → (-2147483648 ≤ y1194 ∧ y1194 ≤ 2147483647) →
 ∀ y1195 : Int, y1195 = (IntKind.wrap .i32 ((bxor .i32 131521918 y1188) - y1188)) → (-2147483648 ≤ y1195 ∧ y1195 ≤ 2147483647) →
 ∀ y1196 : Int, y1196 = (IntKind.wrap .i32 ((bxor .i32 (shrZ .i32 y1194 3) (shrZ .i32 y1194 31)) - (shrZ .i32 y1194 31))) → (-2147483648 ≤ y1196 ∧ y1196 ≤ 2147483647) →
 ∀ y1197 : Int, y1197 = (IntKind.wrap .i32 ((bxor .i32 (shrZ .i32 y1191 3) (shrZ .i32 y1194 31)) - (shrZ .i32 y1194 31))) → (-2147483648 ≤ y1197 ∧ y1197 ≤ 2147483647) →
 ∀ y1198 : Int, y1198 = (IntKind.wrap .i32 ((bxor .i32 66762579 (shrZ .i32 y1194 31)) - (shrZ .i32 y1194 31))) → (-2147483648 ≤ y1198 ∧ y1198 ≤ 2147483647) →
 ∀ y1199 : Int, y1199 = (IntKind.wrap .i32 ((IntKind.wrap .i32 (y1187 + y1195)) + y1198)) → (-2147483648 ≤ y1199 ∧ y1199 ≤ 2147483647) →
 ∀ y1200 : Int, y1200 = (shrZ .i32 (IntKind.wrap .i32 (y1194 - y1197)) 31) → (-1 ≤ y1200 ∧ y1200 ≤ 0) →
 ∀ y1201 : Int, y1201 = (shrZ .i32 (IntKind.wrap .i32 (y1194 - y1197)) 4) → (-134217728 ≤ y1201 ∧ y1201 ≤ 134217727) →
 ∀ y1202 : Int, y1202 = (IntKind.wrap .i32 ((bxor .i32 y1201 y1200) - y1200)) → (-2147483648 ≤ y1202 ∧ y1202 ≤ 2147483647) →
 ∀ y1203 : Int, y1203 = (IntKind.wrap .i32 ((IntKind.wrap .i32 (y1191 + y1196)) + y1202)) → (-2147483648 ≤ y1203 ∧ y1203 ≤ 2147483647) →
 ∀ y1204 : Int, y1204 = (shrZ .i32 (IntKind.wrap .i32 (y1191 + y1196)) 4) → (-134217728 ≤ y1204 ∧ y1204 ≤ 134217727) →
 ∀ y1205 : Int, y1205 = (IntKind.wrap .i32 ((bxor .i32 y1204 y1200) - y1200)) → (-2147483648 ≤ y1205 ∧ y1205 ≤ 2147483647) →
 ∀ y1206 : Int, y1206 = (IntKind.wrap .i32 ((IntKind.wrap .i32 (y1194 - y1197)) - y1205)) → (-2147483648 ≤ y1206 ∧ y1206 ≤ 2147483647) →
 ∀ y1207 : Int, y1207 = (IntKind.wrap .i32 ((bxor .i32 33510843 y1200) - y1200)) → (-2147483648 ≤ y1207 ∧ y1207 ≤ 2147483647) →
 ∀ y1208 : Int, y1208 = (IntKind.wrap .i32 ((bxor .i32 (shrZ .i32 y1206 5) (shrZ .i32 y1206 31)) - (shrZ .i32 y1206 31))) → (-2147483648 ≤ y1208 ∧ y1208 ≤ 2147483647) →
 ∀ y1209 : Int, y1209 = (IntKind.wrap .i32 ((bxor .i32 (shrZ .i32 y1203 5) (shrZ .i32 y1206 31)) - (shrZ .i32 y1206 31))) → (-2147483648 ≤ y1209 ∧ y1209 ≤ 2147483647) →
 ∀ y1210 : Int, y1210 = (IntKind.wrap .i32 ((bxor .i32 16771758 (shrZ .i32 y1206 31)) - (shrZ .i32 y1206 31))) → (-2147483648 ≤ y1210 ∧ y1210 ≤ 2147483647) →
 ∀ y1211 : Int, y1211 = (IntKind.wrap .i32 ((IntKind.wrap .i32 (y1199 + y1207)) + y1210)) → (-2147483648 ≤ y1211 ∧ y1211 ≤ 2147483647) →
 ∀ y1212 : Int, y1212 = (shrZ .i32 (IntKind.wrap .i32 (y1206 - y1209)) 31) → (-1 ≤ y1212 ∧ y1212 ≤ 0) →
 ∀ y1213 : Int, y1213 = (shrZ .i32 (IntKind.wrap .i32 (y1206 - y1209)) 6) → (-33554432 ≤ y1213 ∧ y1213 ≤ 33554431) →
 ∀ y1214 : Int, y1214 = (IntKind.wrap .i32 ((bxor .i32 y1213 y1212) - y1212)) → (-2147483648 ≤ y1214 ∧ y1214 ≤ 2147483647) →
 ∀ y1215 : Int, y1215 = (IntKind.wrap .i32 ((IntKind.wrap .i32 (y1203 + y1208)) + y1214)) → (-2147483648 ≤ y1215 ∧ y1215 ≤ 2147483647) →
 ∀ y1216 : Int, y1216 = (shrZ .i32 (IntKind.wrap .i32 (y1203 + y1208)) 6) → (-33554432 ≤ y1216 ∧ y1216 ≤ 33554431) →
 ∀ y1217 : Int, y1217 = (IntKind.wrap .i32 ((bxor .i32 y1216 y1212) - y1212)) → (-2147483648 ≤ y1217 ∧ y1217 ≤ 2147483647) →
 ∀ y1218 : Int, y1218 = (IntKind.wrap .i32 ((IntKind.wrap .i32 (y1206 - y1209)) - y1217)) → (-2147483648 ≤ y1218 ∧ y1218 ≤ 2147483647) →
 ∀ y1219 : Int, y1219 = (IntKind.wrap .i32 ((bxor .i32 8387925 y1212) - y1212)) → (-2147483648 ≤ y1219 ∧ y1219 ≤ 2147483647) →
 ∀ y1220 : Int, y1220 = (IntKind.wrap .i32 ((bxor .i32 (shrZ .i32 y1218 7) (shrZ .i32 y1218 31)) - (shrZ .i32 y1218 31))) → (-2147483648 ≤ y1220 ∧ y1220 ≤ 2147483647) →
 ∀ y1221 : Int, y1221 = (IntKind.wrap .i32 ((bxor .i32 (shrZ .i32 y1215 7) (shrZ .i32 y1218 31)) - (shrZ .i32 y1218 31))) → (-2147483648 ≤ y1221 ∧ y1221 ≤ 2147483647) →
 ∀ y1222 : Int, y1222 = (IntKind.wrap .i32 ((bxor .i32 4194219 (shrZ .i32 y1218 31)) - (shrZ .i32 y1218 31))) → (-2147483648 ≤ y1222 ∧ y1222 ≤ 2147483647) →
 ∀ y1223 : Int, y1223 = (IntKind.wrap .i32 ((IntKind.wrap .i32 (y1211 + y1219)) + y1222)) → (-2147483648 ≤ y1223 ∧ y1223 ≤ 2147483647) →
 ∀ y1224 : Int, y1224 = (shrZ .i32 (IntKind.wrap .i32 (y1218 - y1221)) 31) → (-1 ≤ y1224 ∧ y1224 ≤ 0) →
 ∀ y1225 : Int, y1225 = (shrZ .i32 (IntKind.wrap .i32 (y1218 - y1221)) 8) → (-8388608 ≤ y1225 ∧ y1225 ≤ 8388607) →
 ∀ y1226 : Int, y1226 = (IntKind.wrap .i32 ((bxor .i32 y1225 y1224) - y1224)) → (-2147483648 ≤ y1226 ∧ y1226 ≤ 2147483647) →
 ∀ y1227 : Int, y1227 = (IntKind.wrap .i32 ((IntKind.wrap .i32 (y1215 + y1220)) + y1226)) → (-2147483648 ≤ y1227 ∧ y1227 ≤ 2147483647) →
 ∀ y1228 : Int, y1228 = (shrZ .i32 (IntKind.wrap .i32 (y1215 + y1220)) 8) → (-8388608 ≤ y1228 ∧ y1228 ≤ 8388607) →
 ∀ y1229 : Int, y1229 = (IntKind.wrap .i32 ((bxor .i32 y1228 y1224) - y1224)) → (-2147483648 ≤ y1229 ∧ y1229 ≤ 2147483647) →
 ∀ y1230 : Int, y1230 = (IntKind.wrap .i32 ((IntKind.wrap .i32 (y1218 - y1221)) - y1229)) → (-2147483648 ≤ y1230 ∧ y1230 ≤ 2147483647) →
 ∀ y1231 : Int, y1231 = (IntKind.wrap .i32 ((bxor .i32 2097141 y1224) - y1224)) → (-2147483648 ≤ y1231 ∧ y1231 ≤ 2147483647) →
 ∀ y1232 : Int, y1232 = (IntKind.wrap .i32 ((bxor .i32 (shrZ .i32 y1230 9) (shrZ .i32 y1230 31)) - (shrZ .i32 y1230 31))) → (-2147483648 ≤ y1232 ∧ y1232 ≤ 2147483647) →
 ∀ y1233 : Int, y1233 = (IntKind.wrap .i32 ((bxor .i32 (shrZ .i32 y1227 9) (shrZ .i32 y1230 31)) - (shrZ .i32 y1230 31))) → (-2147483648 ≤ y1233 ∧ y1233 ≤ 2147483647) →
 ∀ y1234 : Int, y1234 = (IntKind.wrap .i32 ((bxor .i32 1048575 (shrZ .i32 y1230 31)) - (shrZ .i32 y1230 31))) → (-2147483648 ≤ y1234 ∧ y1234 ≤ 2147483647) →
 ∀ y1235 : Int, y1235 = (IntKind.wrap .i32 ((IntKind.wrap .i32 (y1223 + y1231)) + y1234)) → (-2147483648 ≤ y1235 ∧ y1235 ≤ 2147483647) →
 ∀ y1236 : Int, y1236 = (shrZ .i32 (IntKind.wrap .i32 (y1230 - y1233)) 31) → (-1 ≤ y1236 ∧ y1236 ≤ 0) →
 ∀ y1237 : Int, y1237 = (shrZ .i32 (IntKind.wrap .i32 (y1230 - y1233)) 10) → (-2097152 ≤ y1237 ∧ y1237 ≤ 2097151) →
 ∀ y1238 : Int, y1238 = (IntKind.wrap .i32 ((bxor .i32 y1237 y1236) - y1236)) → (-2147483648 ≤ y1238 ∧ y1238 ≤ 2147483647) →
 ∀ y1239 : Int, y1239 = (IntKind.wrap .i32 ((IntKind.wrap .i32 (y1227 + y1232)) + y1238)) → (-2147483648 ≤ y1239 ∧ y1239 ≤ 2147483647) →
 ∀ y1240 : Int, y1240 = (shrZ .i32 (IntKind.wrap .i32 (y1227 + y1232)) 10) → (-2097152 ≤ y1240 ∧ y1240 ≤ 2097151) →
 ∀ y1241 : Int, y1241 = (IntKind.wrap .i32 ((bxor .i32 y1240 y1236) - y1236)) → (-2147483648 ≤ y1241 ∧ y1241 ≤ 2147483647) →
 ∀ y1242 : Int, y1242 = (IntKind.wrap .i32 ((IntKind.wrap .i32 (y1230 - y1233)) - y1241)) → (-2147483648 ≤ y1242 ∧ y1242 ≤ 2147483647) →
 ∀ y1243 : Int, y1243 = (IntKind.wrap .i32 ((bxor .i32 524288 y1236) - y1236)) → (-2147483648 ≤ y1243 ∧ y1243 ≤ 2147483647) →
 ∀ y1244 : Int, y1244 = (IntKind.wrap .i32 ((bxor .i32 (shrZ .i32 y1242 11) (shrZ .i32 y1242 31)) - (shrZ .i32 y1242 31))) → (-2147483648 ≤ y1244 ∧ y1244 ≤ 2147483647) →
 ∀ y1245 : Int, y1245 = (IntKind.wrap .i32 ((bxor .i32 (shrZ .i32 y1239 11) (shrZ .i32 y1242 31)) - (shrZ .i32 y1242 31))) → (-2147483648 ≤ y1245 ∧ y1245 ≤ 2147483647) →
 ∀ y1246 : Int, y1246 = (IntKind.wrap .i32 ((bxor .i32 262144 (shrZ .i32 y1242 31)) - (shrZ .i32 y1242 31))) → (-2147483648 ≤ y1246 ∧ y1246 ≤ 2147483647) →
 ∀ y1247 : Int, y1247 = (IntKind.wrap .i32 ((IntKind.wrap .i32 (y1235 + y1243)) + y1246)) → (-2147483648 ≤ y1247 ∧ y1247 ≤ 2147483647) →
 ∀ y1248 : Int, y1248 = (shrZ .i32 (IntKind.wrap .i32 (y1242 - y1245)) 31) → (-1 ≤ y1248 ∧ y1248 ≤ 0) →
 ∀ y1249 : Int, y1249 = (shrZ .i32 (IntKind.wrap .i32 (y1242 - y1245)) 12) → (-524288 ≤ y1249 ∧ y1249 ≤ 524287) →
 ∀ y1250 : Int, y1250 = (IntKind.wrap .i32 ((bxor .i32 y1249 y1248) - y1248)) → (-2147483648 ≤ y1250 ∧ y1250 ≤ 2147483647) →
 ∀ y1251 : Int, y1251 = (IntKind.wrap .i32 ((IntKind.wrap .i32 (y1239 + y1244)) + y1250)) → (-2147483648 ≤ y1251 ∧ y1251 ≤ 2147483647) →
 ∀ y1252 : Int, y1252 = (shrZ .i32 (IntKind.wrap .i32 (y1239 + y1244)) 12) → (-524288 ≤ y1252 ∧ y1252 ≤ 524287) →
 ∀ y1253 : Int, y1253 = (IntKind.wrap .i32 ((bxor .i32 y1252 y1248) - y1248)) → (-2147483648 ≤ y1253 ∧ y1253 ≤ 2147483647) →
 ∀ y1254 : Int, y1254 = (IntKind.wrap .i32 ((IntKind.wrap .i32 (y1242 - y1245)) - y1253)) → (-2147483648 ≤ y1254 ∧ y1254 ≤ 2147483647) →
 ∀ y1255 : Int, y1255 = (IntKind.wrap .i32 ((bxor .i32 131072 y1248) - y1248)) → (-2147483648 ≤ y1255 ∧ y1255 ≤ 2147483647) →
 ∀ y1256 : Int, y1256 = (IntKind.wrap .i32 ((bxor .i32 (shrZ .i32 y1254 13) (shrZ .i32 y1254 31)) - (shrZ .i32 y1254 31))) → (-2147483648 ≤ y1256 ∧ y1256 ≤ 2147483647) →
 ∀ y1257 : Int, y1257 = (IntKind.wrap .i32 ((bxor .i32 (shrZ .i32 y1251 13) (shrZ .i32 y1254 31)) - (shrZ .i32 y1254 31))) → (-2147483648 ≤ y1257 ∧ y1257 ≤ 2147483647) →
 ∀ y1258 : Int, y1258 = (IntKind.wrap .i32 ((bxor .i32 65536 (shrZ .i32 y1254 31)) - (shrZ .i32 y1254 31))) → (-2147483648 ≤ y1258 ∧ y1258 ≤ 2147483647) →
 ∀ y1259 : Int, y1259 = (IntKind.wrap .i32 ((IntKind.wrap .i32 (y1247 + y1255)) + y1258)) → (-2147483648 ≤ y1259 ∧ y1259 ≤ 2147483647) →
 ∀ y1260 : Int, y1260 = (shrZ .i32 (IntKind.wrap .i32 (y1254 - y1257)) 31) → (-1 ≤ y1260 ∧ y1260 ≤ 0) →
 ∀ y1261 : Int, y1261 = (shrZ .i32 (IntKind.wrap .i32 (y1254 - y1257)) 14) → (-131072 ≤ y1261 ∧ y1261 ≤ 131071) →
 ∀ y1262 : Int, y1262 = (IntKind.wrap .i32 ((bxor .i32 y1261 y1260) - y1260)) → (-2147483648 ≤ y1262 ∧ y1262 ≤ 2147483647) →
 ∀ y1263 : Int, y1263 = (IntKind.wrap .i32 ((IntKind.wrap .i32 (y1251 + y1256)) + y1262)) → (-2147483648 ≤ y1263 ∧ y1263 ≤ 2147483647) →
 ∀ y1264 : Int, y1264 = (shrZ .i32 (IntKind.wrap .i32 (y1251 + y1256)) 14) → (-131072 ≤ y1264 ∧ y1264 ≤ 131071) →
 ∀ y1265 : Int, y1265 = (IntKind.wrap .i32 ((bxor .i32 y1264 y1260) - y1260)) → (-2147483648 ≤ y1265 ∧ y1265 ≤ 2147483647) →
 ∀ y1266 : Int, y1266 = (IntKind.wrap .i32 ((IntKind.wrap .i32 (y1254 - y1257)) - y1265)) → (-2147483648 ≤ y1266 ∧ y1266 ≤ 2147483647) →
 ∀ y1267 : Int, y1267 = (IntKind.wrap .i32 ((bxor .i32 32768 y1260) - y1260)) → (-2147483648 ≤ y1267 ∧ y1267 ≤ 2147483647) →
 ∀ y1268 : Int, y1268 = (IntKind.wrap .i32 ((bxor .i32 (shrZ .i32 y1266 15) (shrZ .i32 y1266 31)) - (shrZ .i32 y1266 31))) → (-2147483648 ≤ y1268 ∧ y1268 ≤ 2147483647) →
 ∀ y1269 : Int, y1269 = (IntKind.wrap .i32 ((bxor .i32 (shrZ .i32 y1263 15) (shrZ .i32 y1266 31)) - (shrZ .i32 y1266 31))) → (-2147483648 ≤ y1269 ∧ y1269 ≤ 2147483647) →
 ∀ y1270 : Int, y1270 = (IntKind.wrap .i32 ((bxor .i32 16384 (shrZ .i32 y1266 31)) - (shrZ .i32 y1266 31))) → (-2147483648 ≤ y1270 ∧ y1270 ≤ 2147483647) →
 ∀ y1271 : Int, y1271 = (IntKind.wrap .i32 ((IntKind.wrap .i32 (y1259 + y1267)) + y1270)) → (-2147483648 ≤ y1271 ∧ y1271 ≤ 2147483647) →
 ∀ y1272 : Int, y1272 = (shrZ .i32 (IntKind.wrap .i32 (y1266 - y1269)) 31) → (-1 ≤ y1272 ∧ y1272 ≤ 0) →
 ∀ y1273 : Int, y1273 = (shrZ .i32 (IntKind.wrap .i32 (y1266 - y1269)) 16) → (-32768 ≤ y1273 ∧ y1273 ≤ 32767) →
 ∀ y1274 : Int, y1274 = (IntKind.wrap .i32 ((bxor .i32 y1273 y1272) - y1272)) → (-2147483648 ≤ y1274 ∧ y1274 ≤ 2147483647) →
 ∀ y1275 : Int, y1275 = (IntKind.wrap .i32 ((IntKind.wrap .i32 (y1263 + y1268)) + y1274)) → (-2147483648 ≤ y1275 ∧ y1275 ≤ 2147483647) →
 ∀ y1276 : Int, y1276 = (shrZ .i32 (IntKind.wrap .i32 (y1263 + y1268)) 16) → (-32768 ≤ y1276 ∧ y1276 ≤ 32767) →
 ∀ y1277 : Int, y1277 = (IntKind.wrap .i32 ((bxor .i32 y1276 y1272) - y1272)) → (-2147483648 ≤ y1277 ∧ y1277 ≤ 2147483647) →
 ∀ y1278 : Int, y1278 = (IntKind.wrap .i32 ((IntKind.wrap .i32 (y1266 - y1269)) - y1277)) → (-2147483648 ≤ y1278 ∧ y1278 ≤ 2147483647) →
 ∀ y1279 : Int, y1279 = (IntKind.wrap .i32 ((bxor .i32 8192 y1272) - y1272)) → (-2147483648 ≤ y1279 ∧ y1279 ≤ 2147483647) →
 ∀ y1280 : Int, y1280 = (IntKind.wrap .i32 ((bxor .i32 (shrZ .i32 y1278 17) (shrZ .i32 y1278 31)) - (shrZ .i32 y1278 31))) → (-2147483648 ≤ y1280 ∧ y1280 ≤ 2147483647) →
 ∀ y1281 : Int, y1281 = (IntKind.wrap .i32 ((bxor .i32 (shrZ .i32 y1275 17) (shrZ .i32 y1278 31)) - (shrZ .i32 y1278 31))) → (-2147483648 ≤ y1281 ∧ y1281 ≤ 2147483647) →
 ∀ y1282 : Int, y1282 = (IntKind.wrap .i32 ((bxor .i32 4096 (shrZ .i32 y1278 31)) - (shrZ .i32 y1278 31))) → (-2147483648 ≤ y1282 ∧ y1282 ≤ 2147483647) →
 ∀ y1283 : Int, y1283 = (IntKind.wrap .i32 ((IntKind.wrap .i32 (y1271 + y1279)) + y1282)) → (-2147483648 ≤ y1283 ∧ y1283 ≤ 2147483647) →
 ∀ y1284 : Int, y1284 = (shrZ .i32 (IntKind.wrap .i32 (y1278 - y1281)) 31) → (-1 ≤ y1284 ∧ y1284 ≤ 0) →
 ∀ y1285 : Int, y1285 = (shrZ .i32 (IntKind.wrap .i32 (y1278 - y1281)) 18) → (-8192 ≤ y1285 ∧ y1285 ≤ 8191) →
 ∀ y1286 : Int, y1286 = (IntKind.wrap .i32 ((bxor .i32 y1285 y1284) - y1284)) → (-2147483648 ≤ y1286 ∧ y1286 ≤ 2147483647) →
 ∀ y1287 : Int, y1287 = (IntKind.wrap .i32 ((IntKind.wrap .i32 (y1275 + y1280)) + y1286)) → (-2147483648 ≤ y1287 ∧ y1287 ≤ 2147483647) →
 ∀ y1288 : Int, y1288 = (shrZ .i32 (IntKind.wrap .i32 (y1275 + y1280)) 18) → (-8192 ≤ y1288 ∧ y1288 ≤ 8191) →
 ∀ y1289 : Int, y1289 = (IntKind.wrap .i32 ((bxor .i32 y1288 y1284) - y1284)) → (-2147483648 ≤ y1289 ∧ y1289 ≤ 2147483647) →
 ∀ y1290 : Int, y1290 = (IntKind.wrap .i32 ((IntKind.wrap .i32 (y1278 - y1281)) - y1289)) → (-2147483648 ≤ y1290 ∧ y1290 ≤ 2147483647) →
 ∀ y1291 : Int, y1291 = (IntKind.wrap .i32 ((bxor .i32 2048 y1284) - y1284)) → (-2147483648 ≤ y1291 ∧ y1291 ≤ 2147483647) →
 ∀ y1292 : Int, y1292 = (IntKind.wrap .i32 ((bxor .i32 (shrZ .i32 y1290 19) (shrZ .i32 y1290 31)) - (shrZ .i32 y1290 31))) → (-2147483648 ≤ y1292 ∧ y1292 ≤ 2147483647) →
 ∀ y1293 : Int, y1293 = (IntKind.wrap .i32 ((bxor .i32 (shrZ .i32 y1287 19) (shrZ .i32 y1290 31)) - (shrZ .i32 y1290 31))) → (-2147483648 ≤ y1293 ∧ y1293 ≤ 2147483647) →
 ∀ y1294 : Int, y1294 = (IntKind.wrap .i32 ((bxor .i32 1024 (shrZ .i32 y1290 31)) - (shrZ .i32 y1290 31))) → (-2147483648 ≤ y1294 ∧ y1294 ≤ 2147483647) →
 ∀ y1295 : Int, y1295 = (IntKind.wrap .i32 ((IntKind.wrap .i32 (y1283 + y1291)) + y1294)) → (-2147483648 ≤ y1295 ∧ y1295 ≤ 2147483647) →
 ∀ y1296 : Int, y1296 = (shrZ .i32 (IntKind.wrap .i32 (y1290 - y1293)) 31) → (-1 ≤ y1296 ∧ y1296 ≤ 0) →
 ∀ y1297 : Int, y1297 = (shrZ .i32 (IntKind.wrap .i32 (y1290 - y1293)) 20) → (-2048 ≤ y1297 ∧ y1297 ≤ 2047) →
 ∀ y1298 : Int, y1298 = (IntKind.wrap .i32 ((bxor .i32 y1297 y1296) - y1296)) → (-2147483648 ≤ y1298 ∧ y1298 ≤ 2147483647) →
 ∀ y1299 : Int, y1299 = (IntKind.wrap .i32 ((IntKind.wrap .i32 (y1287 + y1292)) + y1298)) → (-2147483648 ≤ y1299 ∧ y1299 ≤ 2147483647) →
 ∀ y1300 : Int, y1300 = (shrZ .i32 (IntKind.wrap .i32 (y1287 + y1292)) 20) → (-2048 ≤ y1300 ∧ y1300 ≤ 2047) →
 ∀ y1301 : Int, y1301 = (IntKind.wrap .i32 ((bxor .i32 y1300 y1296) - y1296)) → (-2147483648 ≤ y1301 ∧ y1301 ≤ 2147483647) →
 ∀ y1302 : Int, y1302 = (IntKind.wrap .i32 ((IntKind.wrap .i32 (y1290 - y1293)) - y1301)) → (-2147483648 ≤ y1302 ∧ y1302 ≤ 2147483647) →
 ∀ y1303 : Int, y1303 = (IntKind.wrap .i32 ((bxor .i32 512 y1296) - y1296)) → (-2147483648 ≤ y1303 ∧ y1303 ≤ 2147483647) →
 ∀ y1304 : Int, y1304 = (IntKind.wrap .i32 ((bxor .i32 (shrZ .i32 y1302 21) (shrZ .i32 y1302 31)) - (shrZ .i32 y1302 31))) → (-2147483648 ≤ y1304 ∧ y1304 ≤ 2147483647) →
 ∀ y1305 : Int, y1305 = (IntKind.wrap .i32 ((bxor .i32 (shrZ .i32 y1299 21) (shrZ .i32 y1302 31)) - (shrZ .i32 y1302 31))) → (-2147483648 ≤ y1305 ∧ y1305 ≤ 2147483647) →
 ∀ y1306 : Int, y1306 = (IntKind.wrap .i32 ((bxor .i32 256 (shrZ .i32 y1302 31)) - (shrZ .i32 y1302 31))) → (-2147483648 ≤ y1306 ∧ y1306 ≤ 2147483647) →
 ∀ y1307 : Int, y1307 = (IntKind.wrap .i32 ((IntKind.wrap .i32 (y1295 + y1303)) + y1306)) → (-2147483648 ≤ y1307 ∧ y1307 ≤ 2147483647) →
 ∀ y1308 : Int, y1308 = (shrZ .i32 (IntKind.wrap .i32 (y1302 - y1305)) 31) → (-1 ≤ y1308 ∧ y1308 ≤ 0) →
 ∀ y1309 : Int, y1309 = (shrZ .i32 (IntKind.wrap .i32 (y1302 - y1305)) 22) → (-512 ≤ y1309 ∧ y1309 ≤ 511) →
 ∀ y1310 : Int, y1310 = (IntKind.wrap .i32 ((bxor .i32 y1309 y1308) - y1308)) → (-2147483648 ≤ y1310 ∧ y1310 ≤ 2147483647) →
 ∀ y1311 : Int, y1311 = (IntKind.wrap .i32 ((IntKind.wrap .i32 (y1299 + y1304)) + y1310)) → (-2147483648 ≤ y1311 ∧ y1311 ≤ 2147483647) →
 ∀ y1312 : Int, y1312 = (shrZ .i32 (IntKind.wrap .i32 (y1299 + y1304)) 22) → (-512 ≤ y1312 ∧ y1312 ≤ 511) →
 ∀ y1313 : Int, y1313 = (IntKind.wrap .i32 ((bxor .i32 y1312 y1308) - y1308)) → (-2147483648 ≤ y1313 ∧ y1313 ≤ 2147483647) →
 ∀ y1314 : Int, y1314 = (IntKind.wrap .i32 ((IntKind.wrap .i32 (y1302 - y1305)) - y1313)) → (-2147483648 ≤ y1314 ∧ y1314 ≤ 2147483647) →
 ∀ y1315 : Int, y1315 = (IntKind.wrap .i32 ((bxor .i32 128 y1308) - y1308)) → (-2147483648 ≤ y1315 ∧ y1315 ≤ 2147483647) →
 ∀ y1316 : Int, y1316 = (IntKind.wrap .i32 ((bxor .i32 (shrZ .i32 y1314 23) (shrZ .i32 y1314 31)) - (shrZ .i32 y1314 31))) → (-2147483648 ≤ y1316 ∧ y1316 ≤ 2147483647) →
 ∀ y1317 : Int, y1317 = (IntKind.wrap .i32 ((bxor .i32 (shrZ .i32 y1311 23) (shrZ .i32 y1314 31)) - (shrZ .i32 y1314 31))) → (-2147483648 ≤ y1317 ∧ y1317 ≤ 2147483647) →
 ∀ y1318 : Int, y1318 = (IntKind.wrap .i32 ((bxor .i32 64 (shrZ .i32 y1314 31)) - (shrZ .i32 y1314 31))) → (-2147483648 ≤ y1318 ∧ y1318 ≤ 2147483647) →
 ∀ y1319 : Int, y1319 = (IntKind.wrap .i32 ((IntKind.wrap .i32 (y1307 + y1315)) + y1318)) → (-2147483648 ≤ y1319 ∧ y1319 ≤ 2147483647) →
 ∀ y1320 : Int, y1320 = (shrZ .i32 (IntKind.wrap .i32 (y1314 - y1317)) 31) → (-1 ≤ y1320 ∧ y1320 ≤ 0) →
 ∀ y1321 : Int, y1321 = (shrZ .i32 (IntKind.wrap .i32 (y1314 - y1317)) 24) → (-128 ≤ y1321 ∧ y1321 ≤ 127) →
 ∀ y1322 : Int, y1322 = (IntKind.wrap .i32 ((bxor .i32 y1321 y1320) - y1320)) → (-2147483648 ≤ y1322 ∧ y1322 ≤ 2147483647) →
 ∀ y1323 : Int, y1323 = (IntKind.wrap .i32 ((IntKind.wrap .i32 (y1311 + y1316)) + y1322)) → (-2147483648 ≤ y1323 ∧ y1323 ≤ 2147483647) →
 ∀ y1324 : Int, y1324 = (shrZ .i32 (IntKind.wrap .i32 (y1311 + y1316)) 24) → (-128 ≤ y1324 ∧ y1324 ≤ 127) →
 ∀ y1325 : Int, y1325 = (IntKind.wrap .i32 ((bxor .i32 y1324 y1320) - y1320)) → (-2147483648 ≤ y1325 ∧ y1325 ≤ 2147483647) →
 ∀ y1326 : Int, y1326 = (IntKind.wrap .i32 ((IntKind.wrap .i32 (y1314 - y1317)) - y1325)) → (-2147483648 ≤ y1326 ∧ y1326 ≤ 2147483647) →
 ∀ y1327 : Int, y1327 = (IntKind.wrap .i32 ((bxor .i32 32 y1320) - y1320)) → (-2147483648 ≤ y1327 ∧ y1327 ≤ 2147483647) →
 ∀ y1328 : Int, y1328 = (IntKind.wrap .i32 ((bxor .i32 (shrZ .i32 y1326 25) (shrZ .i32 y1326 31)) - (shrZ .i32 y1326 31))) → (-2147483648 ≤ y1328 ∧ y1328 ≤ 2147483647) →
 ∀ y1329 : Int, y1329 = (IntKind.wrap .i32 ((bxor .i32 (shrZ .i32 y1323 25) (shrZ .i32 y1326 31)) - (shrZ .i32 y1326 31))) → (-2147483648 ≤ y1329 ∧ y1329 ≤ 2147483647) →
 ∀ y1330 : Int, y1330 = (IntKind.wrap .i32 ((bxor .i32 16 (shrZ .i32 y1326 31)) - (shrZ .i32 y1326 31))) → (-2147483648 ≤ y1330 ∧ y1330 ≤ 2147483647) →
 ∀ y1331 : Int, y1331 = (IntKind.wrap .i32 ((IntKind.wrap .i32 (y1319 + y1327)) + y1330)) → (-2147483648 ≤ y1331 ∧ y1331 ≤ 2147483647) →
 ∀ y1332 : Int, y1332 = (shrZ .i32 (IntKind.wrap .i32 (y1326 - y1329)) 31) → (-1 ≤ y1332 ∧ y1332 ≤ 0) →
 ∀ y1333 : Int, y1333 = (shrZ .i32 (IntKind.wrap .i32 (y1326 - y1329)) 26) → (-32 ≤ y1333 ∧ y1333 ≤ 31) →
 ∀ y1334 : Int, y1334 = (IntKind.wrap .i32 ((bxor .i32 y1333 y1332) - y1332)) → (-2147483648 ≤ y1334 ∧ y1334 ≤ 2147483647) →
 ∀ y1335 : Int, y1335 = (IntKind.wrap .i32 ((IntKind.wrap .i32 (y1323 + y1328)) + y1334)) → (-2147483648 ≤ y1335 ∧ y1335 ≤ 2147483647) →
 ∀ y1336 : Int, y1336 = (shrZ .i32 (IntKind.wrap .i32 (y1323 + y1328)) 26) → (-32 ≤ y1336 ∧ y1336 ≤ 31) →
 ∀ y1337 : Int, y1337 = (IntKind.wrap .i32 ((bxor .i32 y1336 y1332) - y1332)) → (-2147483648 ≤ y1337 ∧ y1337 ≤ 2147483647) →
 ∀ y1338 : Int, y1338 = (IntKind.wrap .i32 ((IntKind.wrap .i32 (y1326 - y1329)) - y1337)) → (-2147483648 ≤ y1338 ∧ y1338 ≤ 2147483647) →
 ∀ y1339 : Int, y1339 = (IntKind.wrap .i32 ((bxor .i32 8 y1332) - y1332)) → (-2147483648 ≤ y1339 ∧ y1339 ≤ 2147483647) →
 ∀ y1340 : Int, y1340 = (IntKind.wrap .i32 ((bxor .i32 (shrZ .i32 y1338 27) (shrZ .i32 y1338 31)) - (shrZ .i32 y1338 31))) → (-2147483648 ≤ y1340 ∧ y1340 ≤ 2147483647) →
 ∀ y1341 : Int, y1341 = (IntKind.wrap .i32 ((bxor .i32 (shrZ .i32 y1335 27) (shrZ .i32 y1338 31)) - (shrZ .i32 y1338 31))) → (-2147483648 ≤ y1341 ∧ y1341 ≤ 2147483647) →
 ∀ y1342 : Int, y1342 = (IntKind.wrap .i32 ((bxor .i32 4 (shrZ .i32 y1338 31)) - (shrZ .i32 y1338 31))) → (-2147483648 ≤ y1342 ∧ y1342 ≤ 2147483647) →
 ∀ y1343 : Int, y1343 = (IntKind.wrap .i32 ((IntKind.wrap .i32 (y1331 + y1339)) + y1342)) → (-2147483648 ≤ y1343 ∧ y1343 ≤ 2147483647) →
 ∀ y1344 : Int, y1344 = (0 - (iteZ (bool01 (decide (y1174 < y1175))) 1 0)) → (-1 ≤ y1344 ∧ y1344 ≤ 0) →
 ∀ y1345 : Int, y1345 = (bor .i32 (band .i32 (IntKind.wrap .i32 (843314857 - y1343)) y1344) (bandn .i32 y1343 y1344)) → (-2147483648 ≤ y1345 ∧ y1345 ≤ 2147483647) →
 ∀ y1346 : Int, y1346 = (bor .i32 (band .i32 (IntKind.wrap .i32 (1686629713 - y1345)) (shrZ .i32 (2 * a1) 31)) (bandn .i32 y1345 (shrZ .i32 (2 * a1) 31))) → (-2147483648 ≤ y1346 ∧ y1346 ≤ 2147483647) →
 ∀ y1347 : Int, y1347 = (IntKind.wrap .i32 ((bxor .i32 y1346 (shrZ .i32 (2 * a0) 31)) - (shrZ .i32 (2 * a0) 31))) → (-2147483648 ≤ y1347 ∧ y1347 ≤ 2147483647) →
 (((bool01 (y1173 == y1347)) ≠ 0 →
  (1 : Int) ≠ 0) ∧ ((bool01 (y1173 == y1347)) = 0 →
  (0 : Int) ≠ 0))

noncomputable def cxP : Cx := cxOf 2 [(-2147483648, 2147483647), (-2147483648, 2147483647)]
theorem plain1 (a0 a1 : Int) : trT0.holdsL cxP (fun la => trT0.holdsL cxP (fun lb => cmpL ((1 : Int) ≠ 0) la lb) (envOf [2 * a0, 2 * a1])) (envOf [a0, a1]) = P1 a0 a1 := by kernel_rfl
theorem tidy1 : T.tidyV cxP [] trT0 = true := by kernel_rfl
theorem wrap_id {x : Int} (l : -2147483648 ≤ x) (u : x ≤ 2147483647) : IntKind.wrap .i32 x = x := wrap_in .i32 x (by simpa [klo] using l) (by simpa [khi] using u)
theorem wrap_bv (x : Int) : IntKind.wrap .i32 (BitVec.ofInt 32 x).toNat = IntKind.wrap .i32 x := by
  rw [wi32, wi32, BitVec.toNat_ofInt]
  have e : (((x % ((2 ^ 32 : Nat) : Int)).toNat : Nat) : Int) % 4294967296 = x % 4294967296 := by omega
  rw [e]
theorem and_one (x : Int) : band .i32 x (-1) = IntKind.wrap .i32 x := by
  show IntKind.wrap .i32 (BitVec.ofInt 32 x &&& BitVec.ofInt 32 (-1)).toNat = _
  rw [show BitVec.ofInt 32 (-1) = BitVec.allOnes 32 from by decide, BitVec.and_allOnes, wrap_bv]
theorem and_zero (x : Int) : band .i32 x 0 = 0 := by
  show IntKind.wrap .i32 (BitVec.ofInt 32 x &&& BitVec.ofInt 32 0).toNat = _
  rw [show BitVec.ofInt 32 0 = 0#32 from by decide, BitVec.and_zero]; decide
theorem andn_one (x : Int) : bandn .i32 x (-1) = 0 := by
  show IntKind.wrap .i32 (BitVec.ofInt 32 x &&& ~~~(BitVec.ofInt 32 (-1))).toNat = _
  rw [show ~~~(BitVec.ofInt 32 (-1)) = 0#32 from by decide, BitVec.and_zero]; decide
theorem andn_zero (x : Int) : bandn .i32 x 0 = IntKind.wrap .i32 x := by
  show IntKind.wrap .i32 (BitVec.ofInt 32 x &&& ~~~(BitVec.ofInt 32 0)).toNat = _
  rw [show ~~~(BitVec.ofInt 32 0) = BitVec.allOnes 32 from by decide, BitVec.and_allOnes, wrap_bv]
theorem or_zero (x : Int) : bor .i32 x 0 = IntKind.wrap .i32 x := by
  show IntKind.wrap .i32 (BitVec.ofInt 32 x ||| BitVec.ofInt 32 0).toNat = _
  rw [show BitVec.ofInt 32 0 = 0#32 from by decide, BitVec.or_zero, wrap_bv]
theorem zero_or (x : Int) : bor .i32 0 x = IntKind.wrap .i32 x := by
  show IntKind.wrap .i32 (BitVec.ofInt 32 0 ||| BitVec.ofInt 32 x).toNat = _
  rw [show BitVec.ofInt 32 0 = 0#32 from by decide, BitVec.zero_or, wrap_bv]
theorem xor_zero {x : Int} (l : -2147483648 ≤ x) (u : x ≤ 2147483647) : bxor .i32 x 0 = x := by
  show IntKind.wrap .i32 (BitVec.ofInt 32 x ^^^ BitVec.ofInt 32 0).toNat = _
  rw [show BitVec.ofInt 32 0 = 0#32 from by decide, BitVec.xor_zero, wrap_bv, wrap_id l u]
theorem xor_neg1 {x : Int} (l : -2147483648 ≤ x) (u : x ≤ 2147483647) : bxor .i32 x (-1) = -x - 1 := by
  show IntKind.wrap .i32 (BitVec.ofInt 32 x ^^^ BitVec.ofInt 32 (-1)).toNat = _
  rw [show BitVec.ofInt 32 (-1) = BitVec.allOnes 32 from by decide, BitVec.xor_allOnes, BitVec.toNat_not, BitVec.toNat_ofInt, wi32]
  have : (((x % ((2 ^ 32 : Nat) : Int)).toNat : Nat) : Int) = x % 4294967296 := by omega
  omega
theorem sel_one {x : Int} (y : Int) : bor .i32 (band .i32 (IntKind.wrap .i32 y) (-1)) (bandn .i32 x (-1)) = IntKind.wrap .i32 y := by
  rw [and_one, andn_one, or_zero, wrap_wrap .i32 .i32 _ (by decide), wrap_wrap .i32 .i32 _ (by decide)]
theorem sel_zero {x : Int} (y : Int) (l : -2147483648 ≤ x) (u : x ≤ 2147483647) : bor .i32 (band .i32 y 0) (bandn .i32 x 0) = x := by
  rw [and_zero, andn_zero, zero_or, wrap_wrap .i32 .i32 _ (by decide), wrap_id l u]
theorem sign_neg {x : Int} (l : -2147483648 ≤ x) (u : x < 0) : shrZ .i32 x 31 = -1 := by
  have h := sign_ref (x := x) ⟨l, by omega⟩
  rw [show shrZ .i32 x 31 = BO.ev .shr .i32 x 31 from rfl, ← h]; simp [bool01, u]
theorem sign_pos {x : Int} (l : 0 ≤ x) (u : x ≤ 2147483647) : shrZ .i32 x 31 = 0 := by
  have h := sign_ref (x := x) ⟨by omega, u⟩
  rw [show shrZ .i32 x 31 = BO.ev .shr .i32 x 31 from rfl, ← h]; simp [bool01, show ¬ x < 0 by omega]
theorem fl_neg {x : Int} (l : -2147483648 ≤ x) (u : x ≤ 2147483647) : IntKind.wrap .i32 (bxor .i32 x (-1) - (-1)) = IntKind.wrap .i32 (0 - x) := by
  rw [xor_neg1 l u]; congr 1; omega
theorem fl_zero {x : Int} (l : -2147483648 ≤ x) (u : x ≤ 2147483647) : IntKind.wrap .i32 (bxor .i32 x 0 - 0) = x := by
  rw [xor_zero l u, Int.sub_zero]; exact wrap_id l u
theorem sign_two {x : Int} (l : -134217728 ≤ x) (u : x ≤ 134217728) : shrZ .i32 (2 * x) 31 = shrZ .i32 x 31 := by
  rcases Int.lt_or_le x 0 with h | h
  · rw [sign_neg (by omega) (by omega), sign_neg (by omega) h]
  · rw [sign_pos (by omega) (by omega), sign_pos h (by omega)]
theorem shl_two {g l : Int} (h0 : 0 ≤ l) (h1 : l ≤ g) (h2 : g ≤ 268435456) :
    shlZ .u32 (IntKind.wrap .u32 (2 * l)) (band .i32 ((32 - blen (IntKind.wrap .u32 (2 * g))) - 1) 31) = shlZ .u32 (IntKind.wrap .u32 l) (band .i32 ((32 - blen (IntKind.wrap .u32 g)) - 1) 31) := by
  rcases Int.lt_or_le 0 g with hg | hg
  · obtain ⟨k, hk, a, b, c⟩ := blen_cases (x := g) (by omega) (by omega)
    have hk28 : k ≤ 28 := by
      rcases Nat.lt_or_ge 28 k with h | h
      · have : (2 : Int) ^ 29 ≤ 2 ^ k := by exact_mod_cast Nat.pow_le_pow_right (by omega) (show 29 ≤ k by omega)
        have h3 : (2 : Int) ^ 29 = 536870912 := by decide
        omega
      · exact h
    have p1 : (2 : Int) ^ (k + 1) = 2 * 2 ^ k := by rw [Int.pow_succ]; omega
    have p2 : (2 : Int) ^ (k + 1 + 1) = 2 * 2 ^ (k + 1) := by rw [Int.pow_succ]; omega
    have c2 : blen (2 * g) = ((k + 1 : Nat) : Int) + 1 := blen_of (k + 1) (by omega) (by omega) (by omega)
    have w1 : IntKind.wrap .u32 (2 * g) = 2 * g := by rw [wu32]; omega
    have w2 : IntKind.wrap .u32 g = g := by rw [wu32]; omega
    have w3 : IntKind.wrap .u32 (2 * l) = 2 * l := by rw [wu32]; omega
    have w4 : IntKind.wrap .u32 l = l := by rw [wu32]; omega
    rw [w1, w2, w3, w4, c, c2, band31_mod (by omega) (by omega), band31_mod (by omega) (by omega)]
    have m1 : (32 - (((k + 1 : Nat) : Int) + 1) - 1) % 32 = 29 - (k : Int) := by omega
    have m2 : (32 - ((k : Int) + 1) - 1) % 32 = 30 - (k : Int) := by omega
    rw [m1, m2]
    simp only [shlZ, BO.ev]
    have hb : IntKind.u32.bits = 32 := rfl
    have n1 : Nat.min (29 - (k : Int)).toNat IntKind.u32.bits = 29 - k := by
      rw [hb]; have : (29 - (k : Int)).toNat = 29 - k := by omega
      rw [this]; exact Nat.min_eq_left (by omega)
    have n2 : Nat.min (30 - (k : Int)).toNat IntKind.u32.bits = (29 - k) + 1 := by
      rw [hb]; have : (30 - (k : Int)).toNat = (29 - k) + 1 := by omega
      rw [this]; exact Nat.min_eq_left (by omega)
    rw [n1, n2, Int.pow_succ]
    congr 1
    rw [Int.mul_comm 2 l, Int.mul_assoc, Int.mul_comm 2]
  · have e1 : g = 0 := by omega
    have e2 : l = 0 := by omega
    subst e1; subst e2; rfl
theorem max_two (x y : Int) : maxZ (2 * x) (2 * y) = 2 * maxZ x y := by unfold maxZ; split <;> split <;> omega
theorem min_two (x y : Int) : minZ (2 * x) (2 * y) = 2 * minZ x y := by unfold minZ; split <;> split <;> omega
theorem abs_two {x : Int} (l : -134217728 ≤ x) (u : x ≤ 134217728) : maxZ (2 * x) (minZ (0 - 2 * x) 2147483647) = 2 * maxZ x (minZ (0 - x) 2147483647) := by
  unfold maxZ minZ; repeat' split
  all_goals omega
theorem abs_bd {x : Int} (l : -134217728 ≤ x) (u : x ≤ 134217728) : 0 ≤ maxZ x (minZ (0 - x) 2147483647) ∧ maxZ x (minZ (0 - x) 2147483647) ≤ 134217728 := by
  unfold maxZ minZ; repeat' split
  all_goals omega
set_option maxHeartbeats 4000000 in
theorem holds1 (a0 a1 : Int) (l0 : -134217728 ≤ a0) (u0 : a0 ≤ 134217728) (l1 : -134217728 ≤ a1) (u1 : a1 ≤ 134217728) : P1 a0 a1 := by
  have r0 := sign_two l0 u0
  have r1 := sign_two l1 u1
  unfold P1
  intro y1000 e1000 b1000 y1001 e1001 b1001 y1002 e1002 b1002 y1003 e1003 b1003 y1004 e1004 b1004 y1005 e1005 b1005 y1006 e1006 b1006 y1007 e1007 b1007 y1008 e1008 b1008 y1009 e1009 b1009 y1010 e1010 b1010 y1011 e1011 b1011 y1012 e1012 b1012 y1013 e1013 b1013 y1014 e1014 b1014 y1015 e1015 b1015 y1016 e1016 b1016 y1017 e1017 b1017 y1018 e1018 b1018 y1019 e1019 b1019 y1020 e1020 b1020 y1021 e1021 b1021 y1022 e1022 b1022 y1023 e1023 b1023 y1024 e1024 b1024 y1025 e1025 b1025 y1026 e1026 b1026 y1027 e1027 b1027 y1028 e1028 b1028 y1029 e1029 b1029 y1030 e1030 b1030 y1031 e1031 b1031 y1032 e1032 b1032 y1033 e1033 b1033 y1034 e1034 b1034 y1035 e1035 b1035 y1036 e1036 b1036 y1037 e1037 b1037 y1038 e1038 b1038 y1039 e1039 b1039 y1040 e1040 b1040 y1041 e1041 b1041 y1042 e1042 b1042 y1043 e1043 b1043 y1044 e1044 b1044 y1045 e1045 b1045 y1046 e1046 b1046 y1047 e1047 b1047 y1048 e1048 b1048 y1049 e1049 b1049 y1050 e1050 b1050 y1051 e1051 b1051 y1052 e1052 b1052 y1053 e1053 b1053 y1054 e1054 b1054 y1055 e1055 b1055 y1056 e1056 b1056 y1057 e1057 b1057 y1058 e1058 b1058 y1059 e1059 b1059 y1060 e1060 b1060 y1061 e1061 b1061 y1062 e1062 b1062 y1063 e1063 b1063 y1064 e1064 b1064 y1065 e1065 b1065 y1066 e1066 b1066 y1067 e1067 b1067 y1068 e1068 b1068 y1069 e1069 b1069 y1070 e1070 b1070 y1071 e1071 b1071 y1072 e1072 b1072 y1073 e1073 b1073 y1074 e1074 b1074 y1075 e1075 b1075 y1076 e1076 b1076 y1077 e1077 b1077 y1078 e1078 b1078 y1079 e1079 b1079 y1080 e1080 b1080 y1081 e1081 b1081 y1082 e1082 b1082 y1083 e1083 b1083 y1084 e1084 b1084 y1085 e1085 b1085 y1086 e1086 b1086 y1087 e1087 b1087 y1088 e1088 b1088 y1089 e1089 b1089 y1090 e1090 b1090 y1091 e1091 b1091 y1092 e1092 b1092 y1093 e1093 b1093 y1094 e1094 b1094 y1095 e1095 b1095 y1096 e1096 b1096 y1097 e1097 b1097 y1098 e1098 b1098 y1099 e1099 b1099 y1100 e1100 b1100 y1101 e1101 b1101 y1102 e1102 b1102 y1103 e1103 b1103 y1104 e1104 b1104 y1105 e1105 b1105 y1106 e1106 b1106 y1107 e1107 b1107 y1108 e1108 b1108 y1109 e1109 b1109 y1110 e1110 b1110 y1111 e1111 b1111 y1112 e1112 b1112 y1113 e1113 b1113 y1114 e1114 b1114 y1115 e1115 b1115 y1116 e1116 b1116 y1117 e1117 b1117 y1118 e1118 b1118 y1119 e1119 b1119 y1120 e1120 b1120 y1121 e1121 b1121 y1122 e1122 b1122 y1123 e1123 b1123 y1124 e1124 b1124 y1125 e1125 b1125 y1126 e1126 b1126 y1127 e1127 b1127 y1128 e1128 b1128 y1129 e1129 b1129 y1130 e1130 b1130 y1131 e1131 b1131 y1132 e1132 b1132 y1133 e1133 b1133 y1134 e1134 b1134 y1135 e1135 b1135 y1136 e1136 b1136 y1137 e1137 b1137 y1138 e1138 b1138 y1139 e1139 b1139 y1140 e1140 b1140 y1141 e1141 b1141 y1142 e1142 b1142 y1143 e1143 b1143 y1144 e1144 b1144 y1145 e1145 b1145 y1146 e1146 b1146 y1147 e1147 b1147 y1148 e1148 b1148 y1149 e1149 b1149 y1150 e1150 b1150 y1151 e1151 b1151 y1152 e1152 b1152 y1153 e1153 b1153 y1154 e1154 b1154 y1155 e1155 b1155 y1156 e1156 b1156 y1157 e1157 b1157 y1158 e1158 b1158 y1159 e1159 b1159 y1160 e1160 b1160 y1161 e1161 b1161 y1162 e1162 b1162 y1163 e1163 b1163 y1164 e1164 b1164 y1165 e1165 b1165 y1166 e1166 b1166 y1167 e1167 b1167 y1168 e1168 b1168 y1169 e1169 b1169 y1170 e1170 b1170 y1171 e1171 b1171 y1172 e1172 b1172 y1173 e1173 b1173
  intro y1174 e1174 b1174 y1175 e1175 b1175 y1176 e1176 b1176 y1177 e1177 b1177 y1178 e1178 b1178 y1179 e1179 b1179 y1180 e1180 b1180 y1181 e1181 b1181 y1182 e1182 b1182 y1183 e1183 b1183 y1184 e1184 b1184 y1185 e1185 b1185 y1186 e1186 b1186 y1187 e1187 b1187 y1188 e1188 b1188 y1189 e1189 b1189 y1190 e1190 b1190 y1191 e1191 b1191 y1192 e1192 b1192 y1193 e1193 b1193 y1194 e1194 b1194 y1195 e1195 b1195 y1196 e1196 b1196 y1197 e1197 b1197 y1198 e1198 b1198 y1199 e1199 b1199 y1200 e1200 b1200 y1201 e1201 b1201 y1202 e1202 b1202 y1203 e1203 b1203 y1204 e1204 b1204 y1205 e1205 b1205 y1206 e1206 b1206 y1207 e1207 b1207 y1208 e1208 b1208 y1209 e1209 b1209 y1210 e1210 b1210 y1211 e1211 b1211 y1212 e1212 b1212 y1213 e1213 b1213 y1214 e1214 b1214 y1215 e1215 b1215 y1216 e1216 b1216 y1217 e1217 b1217 y1218 e1218 b1218 y1219 e1219 b1219 y1220 e1220 b1220 y1221 e1221 b1221 y1222 e1222 b1222 y1223 e1223 b1223 y1224 e1224 b1224 y1225 e1225 b1225 y1226 e1226 b1226 y1227 e1227 b1227 y1228 e1228 b1228 y1229 e1229 b1229 y1230 e1230 b1230 y1231 e1231 b1231 y1232 e1232 b1232 y1233 e1233 b1233 y1234 e1234 b1234 y1235 e1235 b1235 y1236 e1236 b1236 y1237 e1237 b1237 y1238 e1238 b1238 y1239 e1239 b1239 y1240 e1240 b1240 y1241 e1241 b1241 y1242 e1242 b1242 y1243 e1243 b1243 y1244 e1244 b1244 y1245 e1245 b1245 y1246 e1246 b1246 y1247 e1247 b1247 y1248 e1248 b1248 y1249 e1249 b1249 y1250 e1250 b1250 y1251 e1251 b1251 y1252 e1252 b1252 y1253 e1253 b1253 y1254 e1254 b1254 y1255 e1255 b1255 y1256 e1256 b1256 y1257 e1257 b1257 y1258 e1258 b1258 y1259 e1259 b1259 y1260 e1260 b1260 y1261 e1261 b1261 y1262 e1262 b1262 y1263 e1263 b1263 y1264 e1264 b1264 y1265 e1265 b1265 y1266 e1266 b1266 y1267 e1267 b1267 y1268 e1268 b1268 y1269 e1269 b1269 y1270 e1270 b1270 y1271 e1271 b1271 y1272 e1272 b1272 y1273 e1273 b1273 y1274 e1274 b1274 y1275 e1275 b1275 y1276 e1276 b1276 y1277 e1277 b1277 y1278 e1278 b1278 y1279 e1279 b1279 y1280 e1280 b1280 y1281 e1281 b1281 y1282 e1282 b1282 y1283 e1283 b1283 y1284 e1284 b1284 y1285 e1285 b1285 y1286 e1286 b1286 y1287 e1287 b1287 y1288 e1288 b1288 y1289 e1289 b1289 y1290 e1290 b1290 y1291 e1291 b1291 y1292 e1292 b1292 y1293 e1293 b1293 y1294 e1294 b1294 y1295 e1295 b1295 y1296 e1296 b1296 y1297 e1297 b1297 y1298 e1298 b1298 y1299 e1299 b1299 y1300 e1300 b1300 y1301 e1301 b1301 y1302 e1302 b1302 y1303 e1303 b1303 y1304 e1304 b1304 y1305 e1305 b1305 y1306 e1306 b1306 y1307 e1307 b1307 y1308 e1308 b1308 y1309 e1309 b1309 y1310 e1310 b1310 y1311 e1311 b1311 y1312 e1312 b1312 y1313 e1313 b1313 y1314 e1314 b1314 y1315 e1315 b1315 y1316 e1316 b1316 y1317 e1317 b1317 y1318 e1318 b1318 y1319 e1319 b1319 y1320 e1320 b1320 y1321 e1321 b1321 y1322 e1322 b1322 y1323 e1323 b1323 y1324 e1324 b1324 y1325 e1325 b1325 y1326 e1326 b1326 y1327 e1327 b1327 y1328 e1328 b1328 y1329 e1329 b1329 y1330 e1330 b1330 y1331 e1331 b1331 y1332 e1332 b1332 y1333 e1333 b1333 y1334 e1334 b1334 y1335 e1335 b1335 y1336 e1336 b1336 y1337 e1337 b1337 y1338 e1338 b1338 y1339 e1339 b1339 y1340 e1340 b1340 y1341 e1341 b1341 y1342 e1342 b1342 y1343 e1343 b1343 y1344 e1344 b1344 y1345 e1345 b1345 y1346 e1346 b1346 y1347 e1347 b1347
  have q1174 : y1174 = 2 * y1000 := by rw [e1174, e1000]; exact abs_two l1 u1
  have q1175 : y1175 = 2 * y1001 := by rw [e1175, e1001]; exact abs_two l0 u0
  have d0 := abs_bd l1 u1
  rw [← e1000] at d0
  have d1 := abs_bd l0 u0
  rw [← e1001] at d1
  have hmx : 0 ≤ maxZ y1000 y1001 ∧ maxZ y1000 y1001 ≤ 268435456 := by unfold maxZ; split <;> omega
  have hmn : 0 ≤ minZ y1000 y1001 ∧ minZ y1000 y1001 ≤ maxZ y1000 y1001 := by unfold maxZ minZ; split <;> split <;> omega
  have q1177 : y1177 = y1003 := by
    rw [e1177, e1003, e1176, e1002, q1174, q1175, max_two]
    exact congrArg (IntKind.wrap .i32) (shl_two hmx.1 (Int.le_refl _) hmx.2)
  have q1178 : y1178 = y1004 := by
    rw [e1178, e1004, e1176, e1002, q1174, q1175, max_two, min_two]
    exact congrArg (IntKind.wrap .i32) (shl_two hmn.1 hmn.2 hmx.2)
  have q1179 : y1179 = y1005 := by rw [e1179, q1178, e1005]
  have q1180 : y1180 = y1006 := by rw [e1180, q1178, e1006]
  have q1181 : y1181 = y1007 := by rw [e1181, q1177, q1180, q1179, e1007]
  have q1182 : y1182 = y1008 := by rw [e1182, q1177, e1008]
  have q1183 : y1183 = y1009 := by rw [e1183, q1178, q1182, q1179, e1009]
  have q1184 : y1184 = y1010 := by rw [e1184, q1183, e1010]
  have q1185 : y1185 = y1011 := by rw [e1185, q1181, q1183, e1011]
  have q1186 : y1186 = y1012 := by rw [e1186, q1183, e1012]
  have q1187 : y1187 = y1013 := by rw [e1187, q1179, q1186, e1013]
  have q1188 : y1188 = y1014 := by rw [e1188, q1183, q1185, e1014]
  have q1189 : y1189 = y1015 := by rw [e1189, q1183, q1185, e1015]
  have q1190 : y1190 = y1016 := by rw [e1190, q1189, q1188, e1016]
  have q1191 : y1191 = y1017 := by rw [e1191, q1181, q1184, q1190, e1017]
  have q1192 : y1192 = y1018 := by rw [e1192, q1181, q1184, e1018]
  have q1193 : y1193 = y1019 := by rw [e1193, q1192, q1188, e1019]
  have q1194 : y1194 = y1020 := by rw [e1194, q1183, q1185, q1193, e1020]
  have q1195 : y1195 = y1021 := by rw [e1195, q1188, e1021]
  have q1196 : y1196 = y1022 := by rw [e1196, q1194, e1022]
  have q1197 : y1197 = y1023 := by rw [e1197, q1191, q1194, e1023]
  have q1198 : y1198 = y1024 := by rw [e1198, q1194, e1024]
  have q1199 : y1199 = y1025 := by rw [e1199, q1187, q1195, q1198, e1025]
  have q1200 : y1200 = y1026 := by rw [e1200, q1194, q1197, e1026]
  have q1201 : y1201 = y1027 := by rw [e1201, q1194, q1197, e1027]
  have q1202 : y1202 = y1028 := by rw [e1202, q1201, q1200, e1028]
  have q1203 : y1203 = y1029 := by rw [e1203, q1191, q1196, q1202, e1029]
  have q1204 : y1204 = y1030 := by rw [e1204, q1191, q1196, e1030]
  have q1205 : y1205 = y1031 := by rw [e1205, q1204, q1200, e1031]
  have q1206 : y1206 = y1032 := by rw [e1206, q1194, q1197, q1205, e1032]
  have q1207 : y1207 = y1033 := by rw [e1207, q1200, e1033]
  have q1208 : y1208 = y1034 := by rw [e1208, q1206, e1034]
  have q1209 : y1209 = y1035 := by rw [e1209, q1203, q1206, e1035]
  have q1210 : y1210 = y1036 := by rw [e1210, q1206, e1036]
  have q1211 : y1211 = y1037 := by rw [e1211, q1199, q1207, q1210, e1037]
  have q1212 : y1212 = y1038 := by rw [e1212, q1206, q1209, e1038]
  have q1213 : y1213 = y1039 := by rw [e1213, q1206, q1209, e1039]
  have q1214 : y1214 = y1040 := by rw [e1214, q1213, q1212, e1040]
  have q1215 : y1215 = y1041 := by rw [e1215, q1203, q1208, q1214, e1041]
  have q1216 : y1216 = y1042 := by rw [e1216, q1203, q1208, e1042]
  have q1217 : y1217 = y1043 := by rw [e1217, q1216, q1212, e1043]
  have q1218 : y1218 = y1044 := by rw [e1218, q1206, q1209, q1217, e1044]
  have q1219 : y1219 = y1045 := by rw [e1219, q1212, e1045]
  have q1220 : y1220 = y1046 := by rw [e1220, q1218, e1046]
  have q1221 : y1221 = y1047 := by rw [e1221, q1215, q1218, e1047]
  have q1222 : y1222 = y1048 := by rw [e1222, q1218, e1048]
  have q1223 : y1223 = y1049 := by rw [e1223, q1211, q1219, q1222, e1049]
  have q1224 : y1224 = y1050 := by rw [e1224, q1218, q1221, e1050]
  have q1225 : y1225 = y1051 := by rw [e1225, q1218, q1221, e1051]
  have q1226 : y1226 = y1052 := by rw [e1226, q1225, q1224, e1052]
  have q1227 : y1227 = y1053 := by rw [e1227, q1215, q1220, q1226, e1053]
  have q1228 : y1228 = y1054 := by rw [e1228, q1215, q1220, e1054]
  have q1229 : y1229 = y1055 := by rw [e1229, q1228, q1224, e1055]
  have q1230 : y1230 = y1056 := by rw [e1230, q1218, q1221, q1229, e1056]
  have q1231 : y1231 = y1057 := by rw [e1231, q1224, e1057]
  have q1232 : y1232 = y1058 := by rw [e1232, q1230, e1058]
  have q1233 : y1233 = y1059 := by rw [e1233, q1227, q1230, e1059]
  have q1234 : y1234 = y1060 := by rw [e1234, q1230, e1060]
  have q1235 : y1235 = y1061 := by rw [e1235, q1223, q1231, q1234, e1061]
  have q1236 : y1236 = y1062 := by rw [e1236, q1230, q1233, e1062]
  have q1237 : y1237 = y1063 := by rw [e1237, q1230, q1233, e1063]
  have q1238 : y1238 = y1064 := by rw [e1238, q1237, q1236, e1064]
  have q1239 : y1239 = y1065 := by rw [e1239, q1227, q1232, q1238, e1065]
  have q1240 : y1240 = y1066 := by rw [e1240, q1227, q1232, e1066]
  have q1241 : y1241 = y1067 := by rw [e1241, q1240, q1236, e1067]
  have q1242 : y1242 = y1068 := by rw [e1242, q1230, q1233, q1241, e1068]
  have q1243 : y1243 = y1069 := by rw [e1243, q1236, e1069]
  have q1244 : y1244 = y1070 := by rw [e1244, q1242, e1070]
  have q1245 : y1245 = y1071 := by rw [e1245, q1239, q1242, e1071]
  have q1246 : y1246 = y1072 := by rw [e1246, q1242, e1072]
  have q1247 : y1247 = y1073 := by rw [e1247, q1235, q1243, q1246, e1073]
  have q1248 : y1248 = y1074 := by rw [e1248, q1242, q1245, e1074]
  have q1249 : y1249 = y1075 := by rw [e1249, q1242, q1245, e1075]
  have q1250 : y1250 = y1076 := by rw [e1250, q1249, q1248, e1076]
  have q1251 : y1251 = y1077 := by rw [e1251, q1239, q1244, q1250, e1077]
  have q1252 : y1252 = y1078 := by rw [e1252, q1239, q1244, e1078]
  have q1253 : y1253 = y1079 := by rw [e1253, q1252, q1248, e1079]
  have q1254 : y1254 = y1080 := by rw [e1254, q1242, q1245, q1253, e1080]
  have q1255 : y1255 = y1081 := by rw [e1255, q1248, e1081]
  have q1256 : y1256 = y1082 := by rw [e1256, q1254, e1082]
  have q1257 : y1257 = y1083 := by rw [e1257, q1251, q1254, e1083]
  have q1258 : y1258 = y1084 := by rw [e1258, q1254, e1084]
  have q1259 : y1259 = y1085 := by rw [e1259, q1247, q1255, q1258, e1085]
  have q1260 : y1260 = y1086 := by rw [e1260, q1254, q1257, e1086]
  have q1261 : y1261 = y1087 := by rw [e1261, q1254, q1257, e1087]
  have q1262 : y1262 = y1088 := by rw [e1262, q1261, q1260, e1088]
  have q1263 : y1263 = y1089 := by rw [e1263, q1251, q1256, q1262, e1089]
  have q1264 : y1264 = y1090 := by rw [e1264, q1251, q1256, e1090]
  have q1265 : y1265 = y1091 := by rw [e1265, q1264, q1260, e1091]
  have q1266 : y1266 = y1092 := by rw [e1266, q1254, q1257, q1265, e1092]
  have q1267 : y1267 = y1093 := by rw [e1267, q1260, e1093]
  have q1268 : y1268 = y1094 := by rw [e1268, q1266, e1094]
  have q1269 : y1269 = y1095 := by rw [e1269, q1263, q1266, e1095]
  have q1270 : y1270 = y1096 := by rw [e1270, q1266, e1096]
  have q1271 : y1271 = y1097 := by rw [e1271, q1259, q1267, q1270, e1097]
  have q1272 : y1272 = y1098 := by rw [e1272, q1266, q1269, e1098]
  have q1273 : y1273 = y1099 := by rw [e1273, q1266, q1269, e1099]
  have q1274 : y1274 = y1100 := by rw [e1274, q1273, q1272, e1100]
  have q1275 : y1275 = y1101 := by rw [e1275, q1263, q1268, q1274, e1101]
  have q1276 : y1276 = y1102 := by rw [e1276, q1263, q1268, e1102]
  have q1277 : y1277 = y1103 := by rw [e1277, q1276, q1272, e1103]
  have q1278 : y1278 = y1104 := by rw [e1278, q1266, q1269, q1277, e1104]
  have q1279 : y1279 = y1105 := by rw [e1279, q1272, e1105]
  have q1280 : y1280 = y1106 := by rw [e1280, q1278, e1106]
  have q1281 : y1281 = y1107 := by rw [e1281, q1275, q1278, e1107]
  have q1282 : y1282 = y1108 := by rw [e1282, q1278, e1108]
  have q1283 : y1283 = y1109 := by rw [e1283, q1271, q1279, q1282, e1109]
  have q1284 : y1284 = y1110 := by rw [e1284, q1278, q1281, e1110]
  have q1285 : y1285 = y1111 := by rw [e1285, q1278, q1281, e1111]
  have q1286 : y1286 = y1112 := by rw [e1286, q1285, q1284, e1112]
  have q1287 : y1287 = y1113 := by rw [e1287, q1275, q1280, q1286, e1113]
  have q1288 : y1288 = y1114 := by rw [e1288, q1275, q1280, e1114]
  have q1289 : y1289 = y1115 := by rw [e1289, q1288, q1284, e1115]
  have q1290 : y1290 = y1116 := by rw [e1290, q1278, q1281, q1289, e1116]
  have q1291 : y1291 = y1117 := by rw [e1291, q1284, e1117]
  have q1292 : y1292 = y1118 := by rw [e1292, q1290, e1118]
  have q1293 : y1293 = y1119 := by rw [e1293, q1287, q1290, e1119]
  have q1294 : y1294 = y1120 := by rw [e1294, q1290, e1120]
  have q1295 : y1295 = y1121 := by rw [e1295, q1283, q1291, q1294, e1121]
  have q1296 : y1296 = y1122 := by rw [e1296, q1290, q1293, e1122]
  have q1297 : y1297 = y1123 := by rw [e1297, q1290, q1293, e1123]
  have q1298 : y1298 = y1124 := by rw [e1298, q1297, q1296, e1124]
  have q1299 : y1299 = y1125 := by rw [e1299, q1287, q1292, q1298, e1125]
  have q1300 : y1300 = y1126 := by rw [e1300, q1287, q1292, e1126]
  have q1301 : y1301 = y1127 := by rw [e1301, q1300, q1296, e1127]
  have q1302 : y1302 = y1128 := by rw [e1302, q1290, q1293, q1301, e1128]
  have q1303 : y1303 = y1129 := by rw [e1303, q1296, e1129]
  have q1304 : y1304 = y1130 := by rw [e1304, q1302, e1130]
  have q1305 : y1305 = y1131 := by rw [e1305, q1299, q1302, e1131]
  have q1306 : y1306 = y1132 := by rw [e1306, q1302, e1132]
  have q1307 : y1307 = y1133 := by rw [e1307, q1295, q1303, q1306, e1133]
  have q1308 : y1308 = y1134 := by rw [e1308, q1302, q1305, e1134]
  have q1309 : y1309 = y1135 := by rw [e1309, q1302, q1305, e1135]
  have q1310 : y1310 = y1136 := by rw [e1310, q1309, q1308, e1136]
  have q1311 : y1311 = y1137 := by rw [e1311, q1299, q1304, q1310, e1137]
  have q1312 : y1312 = y1138 := by rw [e1312, q1299, q1304, e1138]
  have q1313 : y1313 = y1139 := by rw [e1313, q1312, q1308, e1139]
  have q1314 : y1314 = y1140 := by rw [e1314, q1302, q1305, q1313, e1140]
  have q1315 : y1315 = y1141 := by rw [e1315, q1308, e1141]
  have q1316 : y1316 = y1142 := by rw [e1316, q1314, e1142]
  have q1317 : y1317 = y1143 := by rw [e1317, q1311, q1314, e1143]
  have q1318 : y1318 = y1144 := by rw [e1318, q1314, e1144]
  have q1319 : y1319 = y1145 := by rw [e1319, q1307, q1315, q1318, e1145]
  have q1320 : y1320 = y1146 := by rw [e1320, q1314, q1317, e1146]
  have q1321 : y1321 = y1147 := by rw [e1321, q1314, q1317, e1147]
  have q1322 : y1322 = y1148 := by rw [e1322, q1321, q1320, e1148]
  have q1323 : y1323 = y1149 := by rw [e1323, q1311, q1316, q1322, e1149]
  have q1324 : y1324 = y1150 := by rw [e1324, q1311, q1316, e1150]
  have q1325 : y1325 = y1151 := by rw [e1325, q1324, q1320, e1151]
  have q1326 : y1326 = y1152 := by rw [e1326, q1314, q1317, q1325, e1152]
  have q1327 : y1327 = y1153 := by rw [e1327, q1320, e1153]
  have q1328 : y1328 = y1154 := by rw [e1328, q1326, e1154]
  have q1329 : y1329 = y1155 := by rw [e1329, q1323, q1326, e1155]
  have q1330 : y1330 = y1156 := by rw [e1330, q1326, e1156]
  have q1331 : y1331 = y1157 := by rw [e1331, q1319, q1327, q1330, e1157]
  have q1332 : y1332 = y1158 := by rw [e1332, q1326, q1329, e1158]
  have q1333 : y1333 = y1159 := by rw [e1333, q1326, q1329, e1159]
  have q1334 : y1334 = y1160 := by rw [e1334, q1333, q1332, e1160]
  have q1335 : y1335 = y1161 := by rw [e1335, q1323, q1328, q1334, e1161]
  have q1336 : y1336 = y1162 := by rw [e1336, q1323, q1328, e1162]
  have q1337 : y1337 = y1163 := by rw [e1337, q1336, q1332, e1163]
  have q1338 : y1338 = y1164 := by rw [e1338, q1326, q1329, q1337, e1164]
  have q1339 : y1339 = y1165 := by rw [e1339, q1332, e1165]
  have q1340 : y1340 = y1166 := by rw [e1340, q1338, e1166]
  have q1341 : y1341 = y1167 := by rw [e1341, q1335, q1338, e1167]
  have q1342 : y1342 = y1168 := by rw [e1342, q1338, e1168]
  have q1343 : y1343 = y1169 := by rw [e1343, q1331, q1339, q1342, e1169]
  have q1344 : y1344 = y1170 := by
    rw [e1344, e1170, q1174, q1175]
    have : decide (2 * y1000 < 2 * y1001) = decide (y1000 < y1001) := by by_cases h : y1000 < y1001 <;> simp [h] <;> omega
    rw [this]
  have q1345 : y1345 = y1171 := by rw [e1345, q1343, q1344, e1171]
  have q1346 : y1346 = y1172 := by rw [e1346, r1, q1345, e1172]
  have q1347 : y1347 = y1173 := by rw [e1347, r0, q1346, e1173]
  rw [q1347]
  simp [bool01]
theorem env2 {x y : Int} (h1 : -2147483648 ≤ x) (h2 : x ≤ 2147483647) (h3 : -2147483648 ≤ y) (h4 : y ≤ 2147483647) : EnvOk cxP (envOf [x, y]) :=
  envOf_ok (n := 2) (bnd_cons ⟨h1, h2⟩ (bnd_cons ⟨h3, h4⟩ (bnd_nil _)))
theorem scale (a0 a1 : Int) (l0 : -134217728 ≤ a0) (u0 : a0 ≤ 134217728) (l1 : -134217728 ≤ a1) (u1 : a1 ≤ 134217728) : fn0 (2 * a0) (2 * a1) = fn0 a0 a1 := by
  have hP := holds1 a0 a1 l0 u0 l1 u1
  rw [← plain1] at hP
  have hA := holdsL_ok (R := fun la => trT0.holdsL cxP (fun lb => cmpL ((1 : Int) ≠ 0) la lb) (envOf [2 * a0, 2 * a1])) (env2 (by omega) (by omega) (by omega) (by omega)) (fun p hp => by cases hp) tidy1 hP
  have hB := holdsL_ok (R := fun lb => cmpL ((1 : Int) ≠ 0) (trT0.outs (envOf [a0, a1])) lb) (env2 (x := 2 * a0) (y := 2 * a1) (by omega) (by omega) (by omega) (by omega)) (fun p hp => by cases hp) tidy1 hA
  exact (cmpL_eq hB).1.symm

/-! ### the law -/
def tree : T E :=
(.br (.b .lt .i64 (.v 0) (.c (-268435456)))
  (.leaf (.c 1))
  (.br (.b .lt .i64 (.c 268435456) (.v 0))
  (.leaf (.c 1))
  (.br (.b .lt .i64 (.v 1) (.c (-268435456)))
  (.leaf (.c 1))
  (.br (.b .lt .i64 (.c 268435456) (.v 1))
  (.leaf (.c 1))
  (.br (.b .lt .i64 (.c 0) (.b .rem .i64 (.v 2) (.c 20)))
  (.br (.b .lt .i64 (.v 0) (.c (-134217728)))
  (.leaf (.c 1))
  (.br (.b .lt .i64 (.c 134217728) (.v 0))
  (.leaf (.c 1))
  (.br (.b .lt .i64 (.v 1) (.c (-134217728)))
  (.leaf (.c 1))
  (.br (.b .lt .i64 (.c 134217728) (.v 1))
  (.leaf (.c 1))
  (.br (.b .lt .i64 (.c 1) (.b .rem .i64 (.v 2) (.c 20)))
  (.br (.b .lt .i64 (.w .i32 (.b .pmul .i64 (.c 2) (.v 0))) (.c (-134217728)))
  (.br (.b .eq .i64 (.f 4 (.w .i32 (.b .pmul .i64 (.c 2) (.v 0))) (.w .i32 (.b .pmul .i64 (.c 2) (.v 1))) (.c 0)) (.f 4 (.v 0) (.v 1) (.c 0)))
  (.leaf (.c 1))
  (.leaf (.c 0)))
  (.br (.b .lt .i64 (.c 134217728) (.w .i32 (.b .pmul .i64 (.c 2) (.v 0))))
  (.br (.b .eq .i64 (.f 4 (.w .i32 (.b .pmul .i64 (.c 2) (.v 0))) (.w .i32 (.b .pmul .i64 (.c 2) (.v 1))) (.c 0)) (.f 4 (.v 0) (.v 1) (.c 0)))
  (.leaf (.c 1))
  (.leaf (.c 0)))
  (.br (.b .lt .i64 (.w .i32 (.b .pmul .i64 (.c 2) (.v 1))) (.c (-134217728)))
  (.br (.b .eq .i64 (.f 4 (.w .i32 (.b .pmul .i64 (.c 2) (.v 0))) (.w .i32 (.b .pmul .i64 (.c 2) (.v 1))) (.c 0)) (.f 4 (.v 0) (.v 1) (.c 0)))
  (.leaf (.c 1))
  (.leaf (.c 0)))
  (.br (.b .lt .i64 (.c 134217728) (.w .i32 (.b .pmul .i64 (.c 2) (.v 1))))
  (.br (.b .eq .i64 (.f 4 (.w .i32 (.b .pmul .i64 (.c 2) (.v 0))) (.w .i32 (.b .pmul .i64 (.c 2) (.v 1))) (.c 0)) (.f 4 (.v 0) (.v 1) (.c 0)))
  (.leaf (.c 1))
  (.leaf (.c 0)))
  (.new 1014 (.w .i32 (.b .pmul .i64 (.c 2) (.w .i32 (.b .pmul .i64 (.c 2) (.v 0)))))
  (.new 1015 (.w .i32 (.b .pmul .i64 (.c 2) (.w .i32 (.b .pmul .i64 (.c 2) (.v 1)))))
  (.br (.b .lt .i64 (.c 2) (.b .rem .i64 (.v 2) (.c 20)))
  (.br (.b .lt .i64 (.cl 1014 (-2147483648) 2147483647) (.c (-134217728)))
  (.br (.b .eq .i64 (.f 4 (.cl 1014 (-2147483648) 2147483647) (.cl 1015 (-2147483648) 2147483647) (.c 0)) (.f 4 (.v 0) (.v 1) (.c 0)))
  (.leaf (.c 1))
  (.leaf (.c 0)))
  (.br (.b .lt .i64 (.c 134217728) (.cl 1014 (-2147483648) 2147483647))
  (.br (.b .eq .i64 (.f 4 (.cl 1014 (-2147483648) 2147483647) (.cl 1015 (-2147483648) 2147483647) (.c 0)) (.f 4 (.v 0) (.v 1) (.c 0)))
  (.leaf (.c 1))
  (.leaf (.c 0)))
  (.br (.b .lt .i64 (.cl 1015 (-2147483648) 2147483647) (.c (-134217728)))
  (.br (.b .eq .i64 (.f 4 (.cl 1014 (-2147483648) 2147483647) (.cl 1015 (-2147483648) 2147483647) (.c 0)) (.f 4 (.v 0) (.v 1) (.c 0)))
  (.leaf (.c 1))
  (.leaf (.c 0)))
  (.br (.b .lt .i64 (.c 134217728) (.cl 1015 (-2147483648) 2147483647))
  (.br (.b .eq .i64 (.f 4 (.cl 1014 (-2147483648) 2147483647) (.cl 1015 (-2147483648) 2147483647) (.c 0)) (.f 4 (.v 0) (.v 1) (.c 0)))
  (.leaf (.c 1))
  (.leaf (.c 0)))
  (.br (.b .lt .i64 (.c 3) (.b .rem .i64 (.v 2) (.c 20)))
  (.br (.b .lt .i64 (.w .i32 (.b .pmul .i64 (.c 2) (.cl 1014 (-2147483648) 2147483647))) (.c (-134217728)))
  (.br (.b .eq .i64 (.f 4 (.w .i32 (.b .pmul .i64 (.c 2) (.cl 1014 (-2147483648) 2147483647))) (.w .i32 (.b .pmul .i64 (.c 2) (.cl 1015 (-2147483648) 2147483647))) (.c 0)) (.f 4 (.v 0) (.v 1) (.c 0)))
  (.leaf (.c 1))
  (.leaf (.c 0)))
  (.br (.b .lt .i64 (.c 134217728) (.w .i32 (.b .pmul .i64 (.c 2) (.cl 1014 (-2147483648) 2147483647))))
  (.br (.b .eq .i64 (.f 4 (.w .i32 (.b .pmul .i64 (.c 2) (.cl 1014 (-2147483648) 2147483647))) (.w .i32 (.b .pmul .i64 (.c 2) (.cl 1015 (-2147483648) 2147483647))) (.c 0)) (.f 4 (.v 0) (.v 1) (.c 0)))
  (.leaf (.c 1))
  (.leaf (.c 0)))
  (.br (.b .lt .i64 (.w .i32 (.b .pmul .i64 (.c 2) (.cl 1015 (-2147483648) 2147483647))) (.c (-134217728)))
  (.br (.b .eq .i64 (.f 4 (.w .i32 (.b .pmul .i64 (.c 2) (.cl 1014 (-2147483648) 2147483647))) (.w .i32 (.b .pmul .i64 (.c 2) (.cl 1015 (-2147483648) 2147483647))) (.c 0)) (.f 4 (.v 0) (.v 1) (.c 0)))
  (.leaf (.c 1))
  (.leaf (.c 0)))
  (.br (.b .lt .i64 (.c 134217728) (.w .i32 (.b .pmul .i64 (.c 2) (.cl 1015 (-2147483648) 2147483647))))
  (.br (.b .eq .i64 (.f 4 (.w .i32 (.b .pmul .i64 (.c 2) (.cl 1014 (-2147483648) 2147483647))) (.w .i32 (.b .pmul .i64 (.c 2) (.cl 1015 (-2147483648) 2147483647))) (.c 0)) (.f 4 (.v 0) (.v 1) (.c 0)))
  (.leaf (.c 1))
  (.leaf (.c 0)))
  (.new 1026 (.w .i32 (.b .pmul .i64 (.c 2) (.w .i32 (.b .pmul .i64 (.c 2) (.cl 1014 (-2147483648) 2147483647)))))
  (.new 1027 (.w .i32 (.b .pmul .i64 (.c 2) (.w .i32 (.b .pmul .i64 (.c 2) (.cl 1015 (-2147483648) 2147483647)))))
  (.br (.b .lt .i64 (.c 4) (.b .rem .i64 (.v 2) (.c 20)))
  (.br (.b .lt .i64 (.cl 1026 (-2147483648) 2147483647) (.c (-134217728)))
  (.br (.b .eq .i64 (.f 4 (.cl 1026 (-2147483648) 2147483647) (.cl 1027 (-2147483648) 2147483647) (.c 0)) (.f 4 (.v 0) (.v 1) (.c 0)))
  (.leaf (.c 1))
  (.leaf (.c 0)))
  (.br (.b .lt .i64 (.c 134217728) (.cl 1026 (-2147483648) 2147483647))
  (.br (.b .eq .i64 (.f 4 (.cl 1026 (-2147483648) 2147483647) (.cl 1027 (-2147483648) 2147483647) (.c 0)) (.f 4 (.v 0) (.v 1) (.c 0)))
  (.leaf (.c 1))
  (.leaf (.c 0)))
  (.br (.b .lt .i64 (.cl 1027 (-2147483648) 2147483647) (.c (-134217728)))
  (.br (.b .eq .i64 (.f 4 (.cl 1026 (-2147483648) 2147483647) (.cl 1027 (-2147483648) 2147483647) (.c 0)) (.f 4 (.v 0) (.v 1) (.c 0)))
  (.leaf (.c 1))
  (.leaf (.c 0)))
  (.br (.b .lt .i64 (.c 134217728) (.cl 1027 (-2147483648) 2147483647))
  (.br (.b .eq .i64 (.f 4 (.cl 1026 (-2147483648) 2147483647) (.cl 1027 (-2147483648) 2147483647) (.c 0)) (.f 4 (.v 0) (.v 1) (.c 0)))
  (.leaf (.c 1))
  (.leaf (.c 0)))
  (.br (.b .lt .i64 (.c 5) (.b .rem .i64 (.v 2) (.c 20)))
  (.br (.b .lt .i64 (.w .i32 (.b .pmul .i64 (.c 2) (.cl 1026 (-2147483648) 2147483647))) (.c (-134217728)))
  (.br (.b .eq .i64 (.f 4 (.w .i32 (.b .pmul .i64 (.c 2) (.cl 1026 (-2147483648) 2147483647))) (.w .i32 (.b .pmul .i64 (.c 2) (.cl 1027 (-2147483648) 2147483647))) (.c 0)) (.f 4 (.v 0) (.v 1) (.c 0)))
  (.leaf (.c 1))
  (.leaf (.c 0)))
  (.br (.b .lt .i64 (.c 134217728) (.w .i32 (.b .pmul .i64 (.c 2) (.cl 1026 (-2147483648) 2147483647))))
  (.br (.b .eq .i64 (.f 4 (.w .i32 (.b .pmul .i64 (.c 2) (.cl 1026 (-2147483648) 2147483647))) (.w .i32 (.b .pmul .i64 (.c 2) (.cl 1027 (-2147483648) 2147483647))) (.c 0)) (.f 4 (.v 0) (.v 1) (.c 0)))
  (.leaf (.c 1))
  (.leaf (.c 0)))
  (.br (.b .lt .i64 (.w .i32 (.b .pmul .i64 (.c 2) (.cl 1027 (-2147483648) 2147483647))) (.c (-134217728)))
  (.br (.b .eq .i64 (.f 4 (.w .i32 (.b .pmul .i64 (.c 2) (.cl 1026 (-2147483648) 2147483647))) (.w .i32 (.b .pmul .i64 (.c 2) (.cl 1027 (-2147483648) 2147483647))) (.c 0)) (.f 4 (.v 0) (.v 1) (.c 0)))
  (.leaf (.c 1))
  (.leaf (.c 0)))
  (.br (.b .lt .i64 (.c 134217728) (.w .i32 (.b .pmul .i64 (.c 2) (.cl 1027 (-2147483648) 2147483647))))
  (.br (.b .eq .i64 (.f 4 (.w .i32 (.b .pmul .i64 (.c 2) (.cl 1026 (-2147483648) 2147483647))) (.w .i32 (.b .pmul .i64 (.c 2) (.cl 1027 (-2147483648) 2147483647))) (.c 0)) (.f 4 (.v 0) (.v 1) (.c 0)))
  (.leaf (.c 1))
  (.leaf (.c 0)))
  (.new 1038 (.w .i32 (.b .pmul .i64 (.c 2) (.w .i32 (.b .pmul .i64 (.c 2) (.cl 1026 (-2147483648) 2147483647)))))
  (.new 1039 (.w .i32 (.b .pmul .i64 (.c 2) (.w .i32 (.b .pmul .i64 (.c 2) (.cl 1027 (-2147483648) 2147483647)))))
  (.br (.b .lt .i64 (.c 6) (.b .rem .i64 (.v 2) (.c 20)))
  (.br (.b .lt .i64 (.cl 1038 (-2147483648) 2147483647) (.c (-134217728)))
  (.br (.b .eq .i64 (.f 4 (.cl 1038 (-2147483648) 2147483647) (.cl 1039 (-2147483648) 2147483647) (.c 0)) (.f 4 (.v 0) (.v 1) (.c 0)))
  (.leaf (.c 1))
  (.leaf (.c 0)))
  (.br (.b .lt .i64 (.c 134217728) (.cl 1038 (-2147483648) 2147483647))
  (.br (.b .eq .i64 (.f 4 (.cl 1038 (-2147483648) 2147483647) (.cl 1039 (-2147483648) 2147483647) (.c 0)) (.f 4 (.v 0) (.v 1) (.c 0)))
  (.leaf (.c 1))
  (.leaf (.c 0)))
  (.br (.b .lt .i64 (.cl 1039 (-2147483648) 2147483647) (.c (-134217728)))
  (.br (.b .eq .i64 (.f 4 (.cl 1038 (-2147483648) 2147483647) (.cl 1039 (-2147483648) 2147483647) (.c 0)) (.f 4 (.v 0) (.v 1) (.c 0)))
  (.leaf (.c 1))
  (.leaf (.c 0)))
  (.br (.b .lt .i64 (.c 134217728) (.cl 1039 (-2147483648) 2147483647))
  (.br (.b .eq .i64 (.f 4 (.cl 1038 (-2147483648) 2147483647) (.cl 1039 (-2147483648) 2147483647) (.c 0)) (.f 4 (.v 0) (.v 1) (.c 0)))
  (.leaf (.c 1))
  (.leaf (.c 0)))
  (.br (.b .lt .i64 (.c 7) (.b .rem .i64 (.v 2) (.c 20)))
  (.br (.b .lt .i64 (.w .i32 (.b .pmul .i64 (.c 2) (.cl 1038 (-2147483648) 2147483647))) (.c (-134217728)))
  (.br (.b .eq .i64 (.f 4 (.w .i32 (.b .pmul .i64 (.c 2) (.cl 1038 (-2147483648) 2147483647))) (.w .i32 (.b .pmul .i64 (.c 2) (.cl 1039 (-2147483648) 2147483647))) (.c 0)) (.f 4 (.v 0) (.v 1) (.c 0)))
  (.leaf (.c 1))
  (.leaf (.c 0)))
  (.br (.b .lt .i64 (.c 134217728) (.w .i32 (.b .pmul .i64 (.c 2) (.cl 1038 (-2147483648) 2147483647))))
  (.br (.b .eq .i64 (.f 4 (.w .i32 (.b .pmul .i64 (.c 2) (.cl 1038 (-2147483648) 2147483647))) (.w .i32 (.b .pmul .i64 (.c 2) (.cl 1039 (-2147483648) 2147483647))) (.c 0)) (.f 4 (.v 0) (.v 1) (.c 0)))
  (.leaf (.c 1))
  (.leaf (.c 0)))
  (.br (.b .lt .i64 (.w .i32 (.b .pmul .i64 (.c 2) (.cl 1039 (-2147483648) 2147483647))) (.c (-134217728)))
  (.br (.b .eq .i64 (.f 4 (.w .i32 (.b .pmul .i64 (.c 2) (.cl 1038 (-2147483648) 2147483647))) (.w .i32 (.b .pmul .i64 (.c 2) (.cl 1039 (-2147483648) 2147483647))) (.c 0)) (.f 4 (.v 0) (.v 1) (.c 0)))
  (.leaf (.c 1))
  (.leaf (.c 0)))
  (.br (.b .lt .i64 (.c 134217728) (.w .i32 (.b .pmul .i64 (.c 2) (.cl 1039 (-2147483648) 2147483647))))
  (.br (.b .eq .i64 (.f 4 (.w .i32 (.b .pmul .i64 (.c 2) (.cl 1038 (-2147483648) 2147483647))) (.w .i32 (.b .pmul .i64 (.c 2) (.cl 1039 (-2147483648) 2147483647))) (.c 0)) (.f 4 (.v 0) (.v 1) (.c 0)))
  (.leaf (.c 1))
  (.leaf (.c 0)))
  (.new 1050 (.w .i32 (.b .pmul .i64 (.c 2) (.w .i32 (.b .pmul .i64 (.c 2) (.cl 1038 (-2147483648) 2147483647)))))
  (.new 1051 (.w .i32 (.b .pmul .i64 (.c 2) (.w .i32 (.b .pmul .i64 (.c 2) (.cl 1039 (-2147483648) 2147483647)))))
  (.br (.b .lt .i64 (.c 8) (.b .rem .i64 (.v 2) (.c 20)))
  (.br (.b .lt .i64 (.cl 1050 (-2147483648) 2147483647) (.c (-134217728)))
  (.br (.b .eq .i64 (.f 4 (.cl 1050 (-2147483648) 2147483647) (.cl 1051 (-2147483648) 2147483647) (.c 0)) (.f 4 (.v 0) (.v 1) (.c 0)))
  (.leaf (.c 1))
  (.leaf (.c 0)))
  (.br (.b .lt .i64 (.c 134217728) (.cl 1050 (-2147483648) 2147483647))
  (.br (.b .eq .i64 (.f 4 (.cl 1050 (-2147483648) 2147483647) (.cl 1051 (-2147483648) 2147483647) (.c 0)) (.f 4 (.v 0) (.v 1) (.c 0)))
  (.leaf (.c 1))
  (.leaf (.c 0)))
  (.br (.b .lt .i64 (.cl 1051 (-2147483648) 2147483647) (.c (-134217728)))
  (.br (.b .eq .i64 (.f 4 (.cl 1050 (-2147483648) 2147483647) (.cl 1051 (-2147483648) 2147483647) (.c 0)) (.f 4 (.v 0) (.v 1) (.c 0)))
  (.leaf (.c 1))
  (.leaf (.c 0)))
  (.br (.b .lt .i64 (.c 134217728) (.cl 1051 (-2147483648) 2147483647))
  (.br (.b .eq .i64 (.f 4 (.cl 1050 (-2147483648) 2147483647) (.cl 1051 (-2147483648) 2147483647) (.c 0)) (.f 4 (.v 0) (.v 1) (.c 0)))
  (.leaf (.c 1))
  (.leaf (.c 0)))
  (.br (.b .lt .i64 (.c 9) (.b .rem .i64 (.v 2) (.c 20)))
  (.br (.b .lt .i64 (.w .i32 (.b .pmul .i64 (.c 2) (.cl 1050 (-2147483648) 2147483647))) (.c (-134217728)))
  (.br (.b .eq .i64 (.f 4 (.w .i32 (.b .pmul .i64 (.c 2) (.cl 1050 (-2147483648) 2147483647))) (.w .i32 (.b .pmul .i64 (.c 2) (.cl 1051 (-2147483648) 2147483647))) (.c 0)) (.f 4 (.v 0) (.v 1) (.c 0)))
  (.leaf (.c 1))
  (.leaf (.c 0)))
  (.br (.b .lt .i64 (.c 134217728) (.w .i32 (.b .pmul .i64 (.c 2) (.cl 1050 (-2147483648) 2147483647))))
  (.br (.b .eq .i64 (.f 4 (.w .i32 (.b .pmul .i64 (.c 2) (.cl 1050 (-2147483648) 2147483647))) (.w .i32 (.b .pmul .i64 (.c 2) (.cl 1051 (-2147483648) 2147483647))) (.c 0)) (.f 4 (.v 0) (.v 1) (.c 0)))
  (.leaf (.c 1))
  (.leaf (.c 0)))
  (.br (.b .lt .i64 (.w .i32 (.b .pmul .i64 (.c 2) (.cl 1051 (-2147483648) 2147483647))) (.c (-134217728)))
  (.br (.b .eq .i64 (.f 4 (.w .i32 (.b .pmul .i64 (.c 2) (.cl 1050 (-2147483648) 2147483647))) (.w .i32 (.b .pmul .i64 (.c 2) (.cl 1051 (-2147483648) 2147483647))) (.c 0)) (.f 4 (.v 0) (.v 1) (.c 0)))
  (.leaf (.c 1))
  (.leaf (.c 0)))
  (.br (.b .lt .i64 (.c 134217728) (.w .i32 (.b .pmul .i64 (.c 2) (.cl 1051 (-2147483648) 2147483647))))
  (.br (.b .eq .i64 (.f 4 (.w .i32 (.b .pmul .i64 (.c 2) (.cl 1050 (-2147483648) 2147483647))) (.w .i32 (.b .pmul .i64 (.c 2) (.cl 1051 (-2147483648) 2147483647))) (.c 0)) (.f 4 (.v 0) (.v 1) (.c 0)))
  (.leaf (.c 1))
  (.leaf (.c 0)))
  (.new 1062 (.w .i32 (.b .pmul .i64 (.c 2) (.w .i32 (.b .pmul .i64 (.c 2) (.cl 1050 (-2147483648) 2147483647)))))
  (.new 1063 (.w .i32 (.b .pmul .i64 (.c 2) (.w .i32 (.b .pmul .i64 (.c 2) (.cl 1051 (-2147483648) 2147483647)))))
  (.br (.b .lt .i64 (.c 10) (.b .rem .i64 (.v 2) (.c 20)))
  (.br (.b .lt .i64 (.cl 1062 (-2147483648) 2147483647) (.c (-134217728)))
  (.br (.b .eq .i64 (.f 4 (.cl 1062 (-2147483648) 2147483647) (.cl 1063 (-2147483648) 2147483647) (.c 0)) (.f 4 (.v 0) (.v 1) (.c 0)))
  (.leaf (.c 1))
  (.leaf (.c 0)))
  (.br (.b .lt .i64 (.c 134217728) (.cl 1062 (-2147483648) 2147483647))
  (.br (.b .eq .i64 (.f 4 (.cl 1062 (-2147483648) 2147483647) (.cl 1063 (-2147483648) 2147483647) (.c 0)) (.f 4 (.v 0) (.v 1) (.c 0)))
  (.leaf (.c 1))
  (.leaf (.c 0)))
  (.br (.b .lt .i64 (.cl 1063 (-2147483648) 2147483647) (.c (-134217728)))
  (.br (.b .eq .i64 (.f 4 (.cl 1062 (-2147483648) 2147483647) (.cl 1063 (-2147483648) 2147483647) (.c 0)) (.f 4 (.v 0) (.v 1) (.c 0)))
  (.leaf (.c 1))
  (.leaf (.c 0)))
  (.br (.b .lt .i64 (.c 134217728) (.cl 1063 (-2147483648) 2147483647))
  (.br (.b .eq .i64 (.f 4 (.cl 1062 (-2147483648) 2147483647) (.cl 1063 (-2147483648) 2147483647) (.c 0)) (.f 4 (.v 0) (.v 1) (.c 0)))
  (.leaf (.c 1))
  (.leaf (.c 0)))
  (.br (.b .lt .i64 (.c 11) (.b .rem .i64 (.v 2) (.c 20)))
  (.br (.b .lt .i64 (.w .i32 (.b .pmul .i64 (.c 2) (.cl 1062 (-2147483648) 2147483647))) (.c (-134217728)))
  (.br (.b .eq .i64 (.f 4 (.w .i32 (.b .pmul .i64 (.c 2) (.cl 1062 (-2147483648) 2147483647))) (.w .i32 (.b .pmul .i64 (.c 2) (.cl 1063 (-2147483648) 2147483647))) (.c 0)) (.f 4 (.v 0) (.v 1) (.c 0)))
  (.leaf (.c 1))
  (.leaf (.c 0)))
  (.br (.b .lt .i64 (.c 134217728) (.w .i32 (.b .pmul .i64 (.c 2) (.cl 1062 (-2147483648) 2147483647))))
  (.br (.b .eq .i64 (.f 4 (.w .i32 (.b .pmul .i64 (.c 2) (.cl 1062 (-2147483648) 2147483647))) (.w .i32 (.b .pmul .i64 (.c 2) (.cl 1063 (-2147483648) 2147483647))) (.c 0)) (.f 4 (.v 0) (.v 1) (.c 0)))
  (.leaf (.c 1))
  (.leaf (.c 0)))
  (.br (.b .lt .i64 (.w .i32 (.b .pmul .i64 (.c 2) (.cl 1063 (-2147483648) 2147483647))) (.c (-134217728)))
  (.br (.b .eq .i64 (.f 4 (.w .i32 (.b .pmul .i64 (.c 2) (.cl 1062 (-2147483648) 2147483647))) (.w .i32 (.b .pmul .i64 (.c 2) (.cl 1063 (-2147483648) 2147483647))) (.c 0)) (.f 4 (.v 0) (.v 1) (.c 0)))
  (.leaf (.c 1))
  (.leaf (.c 0)))
  (.br (.b .lt .i64 (.c 134217728) (.w .i32 (.b .pmul .i64 (.c 2) (.cl 1063 (-2147483648) 2147483647))))
  (.br (.b .eq .i64 (.f 4 (.w .i32 (.b .pmul .i64 (.c 2) (.cl 1062 (-2147483648) 2147483647))) (.w .i32 (.b .pmul .i64 (.c 2) (.cl 1063 (-2147483648) 2147483647))) (.c 0)) (.f 4 (.v 0) (.v 1) (.c 0)))
  (.leaf (.c 1))
  (.leaf (.c 0)))
  (.new 1074 (.w .i32 (.b .pmul .i64 (.c 2) (.w .i32 (.b .pmul .i64 (.c 2) (.cl 1062 (-2147483648) 2147483647)))))
  (.new 1075 (.w .i32 (.b .pmul .i64 (.c 2) (.w .i32 (.b .pmul .i64 (.c 2) (.cl 1063 (-2147483648) 2147483647)))))
  (.br (.b .lt .i64 (.c 12) (.b .rem .i64 (.v 2) (.c 20)))
  (.br (.b .lt .i64 (.cl 1074 (-2147483648) 2147483647) (.c (-134217728)))
  (.br (.b .eq .i64 (.f 4 (.cl 1074 (-2147483648) 2147483647) (.cl 1075 (-2147483648) 2147483647) (.c 0)) (.f 4 (.v 0) (.v 1) (.c 0)))
  (.leaf (.c 1))
  (.leaf (.c 0)))
  (.br (.b .lt .i64 (.c 134217728) (.cl 1074 (-2147483648) 2147483647))
  (.br (.b .eq .i64 (.f 4 (.cl 1074 (-2147483648) 2147483647) (.cl 1075 (-2147483648) 2147483647) (.c 0)) (.f 4 (.v 0) (.v 1) (.c 0)))
  (.leaf (.c 1))
  (.leaf (.c 0)))
  (.br (.b .lt .i64 (.cl 1075 (-2147483648) 2147483647) (.c (-134217728)))
  (.br (.b .eq .i64 (.f 4 (.cl 1074 (-2147483648) 2147483647) (.cl 1075 (-2147483648) 2147483647) (.c 0)) (.f 4 (.v 0) (.v 1) (.c 0)))
  (.leaf (.c 1))
  (.leaf (.c 0)))
  (.br (.b .lt .i64 (.c 134217728) (.cl 1075 (-2147483648) 2147483647))
  (.br (.b .eq .i64 (.f 4 (.cl 1074 (-2147483648) 2147483647) (.cl 1075 (-2147483648) 2147483647) (.c 0)) (.f 4 (.v 0) (.v 1) (.c 0)))
  (.leaf (.c 1))
  (.leaf (.c 0)))
  (.br (.b .lt .i64 (.c 13) (.b .rem .i64 (.v 2) (.c 20)))
  (.br (.b .lt .i64 (.w .i32 (.b .pmul .i64 (.c 2) (.cl 1074 (-2147483648) 2147483647))) (.c (-134217728)))
  (.br (.b .eq .i64 (.f 4 (.w .i32 (.b .pmul .i64 (.c 2) (.cl 1074 (-2147483648) 2147483647))) (.w .i32 (.b .pmul .i64 (.c 2) (.cl 1075 (-2147483648) 2147483647))) (.c 0)) (.f 4 (.v 0) (.v 1) (.c 0)))
  (.leaf (.c 1))
  (.leaf (.c 0)))
  (.br (.b .lt .i64 (.c 134217728) (.w .i32 (.b .pmul .i64 (.c 2) (.cl 1074 (-2147483648) 2147483647))))
  (.br (.b .eq .i64 (.f 4 (.w .i32 (.b .pmul .i64 (.c 2) (.cl 1074 (-2147483648) 2147483647))) (.w .i32 (.b .pmul .i64 (.c 2) (.cl 1075 (-2147483648) 2147483647))) (.c 0)) (.f 4 (.v 0) (.v 1) (.c 0)))
  (.leaf (.c 1))
  (.leaf (.c 0)))
  (.br (.b .lt .i64 (.w .i32 (.b .pmul .i64 (.c 2) (.cl 1075 (-2147483648) 2147483647))) (.c (-134217728)))
  (.br (.b .eq .i64 (.f 4 (.w .i32 (.b .pmul .i64 (.c 2) (.cl 1074 (-2147483648) 2147483647))) (.w .i32 (.b .pmul .i64 (.c 2) (.cl 1075 (-2147483648) 2147483647))) (.c 0)) (.f 4 (.v 0) (.v 1) (.c 0)))
  (.leaf (.c 1))
  (.leaf (.c 0)))
  (.br (.b .lt .i64 (.c 134217728) (.w .i32 (.b .pmul .i64 (.c 2) (.cl 1075 (-2147483648) 2147483647))))
  (.br (.b .eq .i64 (.f 4 (.w .i32 (.b .pmul .i64 (.c 2) (.cl 1074 (-2147483648) 2147483647))) (.w .i32 (.b .pmul .i64 (.c 2) (.cl 1075 (-2147483648) 2147483647))) (.c 0)) (.f 4 (.v 0) (.v 1) (.c 0)))
  (.leaf (.c 1))
  (.leaf (.c 0)))
  (.new 1086 (.w .i32 (.b .pmul .i64 (.c 2) (.w .i32 (.b .pmul .i64 (.c 2) (.cl 1074 (-2147483648) 2147483647)))))
  (.new 1087 (.w .i32 (.b .pmul .i64 (.c 2) (.w .i32 (.b .pmul .i64 (.c 2) (.cl 1075 (-2147483648) 2147483647)))))
  (.br (.b .lt .i64 (.c 14) (.b .rem .i64 (.v 2) (.c 20)))
  (.br (.b .lt .i64 (.cl 1086 (-2147483648) 2147483647) (.c (-134217728)))
  (.br (.b .eq .i64 (.f 4 (.cl 1086 (-2147483648) 2147483647) (.cl 1087 (-2147483648) 2147483647) (.c 0)) (.f 4 (.v 0) (.v 1) (.c 0)))
  (.leaf (.c 1))
  (.leaf (.c 0)))
  (.br (.b .lt .i64 (.c 134217728) (.cl 1086 (-2147483648) 2147483647))
  (.br (.b .eq .i64 (.f 4 (.cl 1086 (-2147483648) 2147483647) (.cl 1087 (-2147483648) 2147483647) (.c 0)) (.f 4 (.v 0) (.v 1) (.c 0)))
  (.leaf (.c 1))
  (.leaf (.c 0)))
  (.br (.b .lt .i64 (.cl 1087 (-2147483648) 2147483647) (.c (-134217728)))
  (.br (.b .eq .i64 (.f 4 (.cl 1086 (-2147483648) 2147483647) (.cl 1087 (-2147483648) 2147483647) (.c 0)) (.f 4 (.v 0) (.v 1) (.c 0)))
  (.leaf (.c 1))
  (.leaf (.c 0)))
  (.br (.b .lt .i64 (.c 134217728) (.cl 1087 (-2147483648) 2147483647))
  (.br (.b .eq .i64 (.f 4 (.cl 1086 (-2147483648) 2147483647) (.cl 1087 (-2147483648) 2147483647) (.c 0)) (.f 4 (.v 0) (.v 1) (.c 0)))
  (.leaf (.c 1))
  (.leaf (.c 0)))
  (.br (.b .lt .i64 (.c 15) (.b .rem .i64 (.v 2) (.c 20)))
  (.br (.b .lt .i64 (.w .i32 (.b .pmul .i64 (.c 2) (.cl 1086 (-2147483648) 2147483647))) (.c (-134217728)))
  (.br (.b .eq .i64 (.f 4 (.w .i32 (.b .pmul .i64 (.c 2) (.cl 1086 (-2147483648) 2147483647))) (.w .i32 (.b .pmul .i64 (.c 2) (.cl 1087 (-2147483648) 2147483647))) (.c 0)) (.f 4 (.v 0) (.v 1) (.c 0)))
  (.leaf (.c 1))
  (.leaf (.c 0)))
  (.br (.b .lt .i64 (.c 134217728) (.w .i32 (.b .pmul .i64 (.c 2) (.cl 1086 (-2147483648) 2147483647))))
  (.br (.b .eq .i64 (.f 4 (.w .i32 (.b .pmul .i64 (.c 2) (.cl 1086 (-2147483648) 2147483647))) (.w .i32 (.b .pmul .i64 (.c 2) (.cl 1087 (-2147483648) 2147483647))) (.c 0)) (.f 4 (.v 0) (.v 1) (.c 0)))
  (.leaf (.c 1))
  (.leaf (.c 0)))
  (.br (.b .lt .i64 (.w .i32 (.b .pmul .i64 (.c 2) (.cl 1087 (-2147483648) 2147483647))) (.c (-134217728)))
  (.br (.b .eq .i64 (.f 4 (.w .i32 (.b .pmul .i64 (.c 2) (.cl 1086 (-2147483648) 2147483647))) (.w .i32 (.b .pmul .i64 (.c 2) (.cl 1087 (-2147483648) 2147483647))) (.c 0)) (.f 4 (.v 0) (.v 1) (.c 0)))
  (.leaf (.c 1))
  (.leaf (.c 0)))
  (.br (.b .lt .i64 (.c 134217728) (.w .i32 (.b .pmul .i64 (.c 2) (.cl 1087 (-2147483648) 2147483647))))
  (.br (.b .eq .i64 (.f 4 (.w .i32 (.b .pmul .i64 (.c 2) (.cl 1086 (-2147483648) 2147483647))) (.w .i32 (.b .pmul .i64 (.c 2) (.cl 1087 (-2147483648) 2147483647))) (.c 0)) (.f 4 (.v 0) (.v 1) (.c 0)))
  (.leaf (.c 1))
  (.leaf (.c 0)))
  (.new 1098 (.w .i32 (.b .pmul .i64 (.c 2) (.w .i32 (.b .pmul .i64 (.c 2) (.cl 1086 (-2147483648) 2147483647)))))
  (.new 1099 (.w .i32 (.b .pmul .i64 (.c 2) (.w .i32 (.b .pmul .i64 (.c 2) (.cl 1087 (-2147483648) 2147483647)))))
  (.br (.b .lt .i64 (.c 16) (.b .rem .i64 (.v 2) (.c 20)))
  (.br (.b .lt .i64 (.cl 1098 (-2147483648) 2147483647) (.c (-134217728)))
  (.br (.b .eq .i64 (.f 4 (.cl 1098 (-2147483648) 2147483647) (.cl 1099 (-2147483648) 2147483647) (.c 0)) (.f 4 (.v 0) (.v 1) (.c 0)))
  (.leaf (.c 1))
  (.leaf (.c 0)))
  (.br (.b .lt .i64 (.c 134217728) (.cl 1098 (-2147483648) 2147483647))
  (.br (.b .eq .i64 (.f 4 (.cl 1098 (-2147483648) 2147483647) (.cl 1099 (-2147483648) 2147483647) (.c 0)) (.f 4 (.v 0) (.v 1) (.c 0)))
  (.leaf (.c 1))
  (.leaf (.c 0)))
  (.br (.b .lt .i64 (.cl 1099 (-2147483648) 2147483647) (.c (-134217728)))
  (.br (.b .eq .i64 (.f 4 (.cl 1098 (-2147483648) 2147483647) (.cl 1099 (-2147483648) 2147483647) (.c 0)) (.f 4 (.v 0) (.v 1) (.c 0)))
  (.leaf (.c 1))
  (.leaf (.c 0)))
  (.br (.b .lt .i64 (.c 134217728) (.cl 1099 (-2147483648) 2147483647))
  (.br (.b .eq .i64 (.f 4 (.cl 1098 (-2147483648) 2147483647) (.cl 1099 (-2147483648) 2147483647) (.c 0)) (.f 4 (.v 0) (.v 1) (.c 0)))
  (.leaf (.c 1))
  (.leaf (.c 0)))
  (.br (.b .lt .i64 (.c 17) (.b .rem .i64 (.v 2) (.c 20)))
  (.br (.b .lt .i64 (.w .i32 (.b .pmul .i64 (.c 2) (.cl 1098 (-2147483648) 2147483647))) (.c (-134217728)))
  (.br (.b .eq .i64 (.f 4 (.w .i32 (.b .pmul .i64 (.c 2) (.cl 1098 (-2147483648) 2147483647))) (.w .i32 (.b .pmul .i64 (.c 2) (.cl 1099 (-2147483648) 2147483647))) (.c 0)) (.f 4 (.v 0) (.v 1) (.c 0)))
  (.leaf (.c 1))
  (.leaf (.c 0)))
  (.br (.b .lt .i64 (.c 134217728) (.w .i32 (.b .pmul .i64 (.c 2) (.cl 1098 (-2147483648) 2147483647))))
  (.br (.b .eq .i64 (.f 4 (.w .i32 (.b .pmul .i64 (.c 2) (.cl 1098 (-2147483648) 2147483647))) (.w .i32 (.b .pmul .i64 (.c 2) (.cl 1099 (-2147483648) 2147483647))) (.c 0)) (.f 4 (.v 0) (.v 1) (.c 0)))
  (.leaf (.c 1))
  (.leaf (.c 0)))
  (.br (.b .lt .i64 (.w .i32 (.b .pmul .i64 (.c 2) (.cl 1099 (-2147483648) 2147483647))) (.c (-134217728)))
  (.br (.b .eq .i64 (.f 4 (.w .i32 (.b .pmul .i64 (.c 2) (.cl 1098 (-2147483648) 2147483647))) (.w .i32 (.b .pmul .i64 (.c 2) (.cl 1099 (-2147483648) 2147483647))) (.c 0)) (.f 4 (.v 0) (.v 1) (.c 0)))
  (.leaf (.c 1))
  (.leaf (.c 0)))
  (.br (.b .lt .i64 (.c 134217728) (.w .i32 (.b .pmul .i64 (.c 2) (.cl 1099 (-2147483648) 2147483647))))
  (.br (.b .eq .i64 (.f 4 (.w .i32 (.b .pmul .i64 (.c 2) (.cl 1098 (-2147483648) 2147483647))) (.w .i32 (.b .pmul .i64 (.c 2) (.cl 1099 (-2147483648) 2147483647))) (.c 0)) (.f 4 (.v 0) (.v 1) (.c 0)))
  (.leaf (.c 1))
  (.leaf (.c 0)))
  (.new 1110 (.w .i32 (.b .pmul .i64 (.c 2) (.w .i32 (.b .pmul .i64 (.c 2) (.cl 1098 (-2147483648) 2147483647)))))
  (.new 1111 (.w .i32 (.b .pmul .i64 (.c 2) (.w .i32 (.b .pmul .i64 (.c 2) (.cl 1099 (-2147483648) 2147483647)))))
  (.br (.b .lt .i64 (.c 18) (.b .rem .i64 (.v 2) (.c 20)))
  (.br (.b .lt .i64 (.cl 1110 (-2147483648) 2147483647) (.c (-134217728)))
  (.br (.b .eq .i64 (.f 4 (.cl 1110 (-2147483648) 2147483647) (.cl 1111 (-2147483648) 2147483647) (.c 0)) (.f 4 (.v 0) (.v 1) (.c 0)))
  (.leaf (.c 1))
  (.leaf (.c 0)))
  (.br (.b .lt .i64 (.c 134217728) (.cl 1110 (-2147483648) 2147483647))
  (.br (.b .eq .i64 (.f 4 (.cl 1110 (-2147483648) 2147483647) (.cl 1111 (-2147483648) 2147483647) (.c 0)) (.f 4 (.v 0) (.v 1) (.c 0)))
  (.leaf (.c 1))
  (.leaf (.c 0)))
  (.br (.b .lt .i64 (.cl 1111 (-2147483648) 2147483647) (.c (-134217728)))
  (.br (.b .eq .i64 (.f 4 (.cl 1110 (-2147483648) 2147483647) (.cl 1111 (-2147483648) 2147483647) (.c 0)) (.f 4 (.v 0) (.v 1) (.c 0)))
  (.leaf (.c 1))
  (.leaf (.c 0)))
  (.br (.b .lt .i64 (.c 134217728) (.cl 1111 (-2147483648) 2147483647))
  (.br (.b .eq .i64 (.f 4 (.cl 1110 (-2147483648) 2147483647) (.cl 1111 (-2147483648) 2147483647) (.c 0)) (.f 4 (.v 0) (.v 1) (.c 0)))
  (.leaf (.c 1))
  (.leaf (.c 0)))
  (.br (.b .eq .i64 (.f 4 (.w .i32 (.b .pmul .i64 (.c 2) (.cl 1110 (-2147483648) 2147483647))) (.w .i32 (.b .pmul .i64 (.c 2) (.cl 1111 (-2147483648) 2147483647))) (.c 0)) (.f 4 (.v 0) (.v 1) (.c 0)))
  (.leaf (.c 1))
  (.leaf (.c 0)))))))
  (.br (.b .eq .i64 (.f 4 (.cl 1110 (-2147483648) 2147483647) (.cl 1111 (-2147483648) 2147483647) (.c 0)) (.f 4 (.v 0) (.v 1) (.c 0)))
  (.leaf (.c 1))
  (.leaf (.c 0))))))))))
  (.br (.b .eq .i64 (.f 4 (.w .i32 (.b .pmul .i64 (.c 2) (.cl 1098 (-2147483648) 2147483647))) (.w .i32 (.b .pmul .i64 (.c 2) (.cl 1099 (-2147483648) 2147483647))) (.c 0)) (.f 4 (.v 0) (.v 1) (.c 0)))
  (.leaf (.c 1))
  (.leaf (.c 0))))))))
  (.br (.b .eq .i64 (.f 4 (.cl 1098 (-2147483648) 2147483647) (.cl 1099 (-2147483648) 2147483647) (.c 0)) (.f 4 (.v 0) (.v 1) (.c 0)))
  (.leaf (.c 1))
  (.leaf (.c 0))))))))))
  (.br (.b .eq .i64 (.f 4 (.w .i32 (.b .pmul .i64 (.c 2) (.cl 1086 (-2147483648) 2147483647))) (.w .i32 (.b .pmul .i64 (.c 2) (.cl 1087 (-2147483648) 2147483647))) (.c 0)) (.f 4 (.v 0) (.v 1) (.c 0)))
  (.leaf (.c 1))
  (.leaf (.c 0))))))))
  (.br (.b .eq .i64 (.f 4 (.cl 1086 (-2147483648) 2147483647) (.cl 1087 (-2147483648) 2147483647) (.c 0)) (.f 4 (.v 0) (.v 1) (.c 0)))
  (.leaf (.c 1))
  (.leaf (.c 0))))))))))
  (.br (.b .eq .i64 (.f 4 (.w .i32 (.b .pmul .i64 (.c 2) (.cl 1074 (-2147483648) 2147483647))) (.w .i32 (.b .pmul .i64 (.c 2) (.cl 1075 (-2147483648) 2147483647))) (.c 0)) (.f 4 (.v 0) (.v 1) (.c 0)))
  (.leaf (.c 1))
  (.leaf (.c 0))))))))
  (.br (.b .eq .i64 (.f 4 (.cl 1074 (-2147483648) 2147483647) (.cl 1075 (-2147483648) 2147483647) (.c 0)) (.f 4 (.v 0) (.v 1) (.c 0)))
  (.leaf (.c 1))
  (.leaf (.c 0))))))))))
  (.br (.b .eq .i64 (.f 4 (.w .i32 (.b .pmul .i64 (.c 2) (.cl 1062 (-2147483648) 2147483647))) (.w .i32 (.b .pmul .i64 (.c 2) (.cl 1063 (-2147483648) 2147483647))) (.c 0)) (.f 4 (.v 0) (.v 1) (.c 0)))
  (.leaf (.c 1))
  (.leaf (.c 0))))))))
  (.br (.b .eq .i64 (.f 4 (.cl 1062 (-2147483648) 2147483647) (.cl 1063 (-2147483648) 2147483647) (.c 0)) (.f 4 (.v 0) (.v 1) (.c 0)))
  (.leaf (.c 1))
  (.leaf (.c 0))))))))))
  (.br (.b .eq .i64 (.f 4 (.w .i32 (.b .pmul .i64 (.c 2) (.cl 1050 (-2147483648) 2147483647))) (.w .i32 (.b .pmul .i64 (.c 2) (.cl 1051 (-2147483648) 2147483647))) (.c 0)) (.f 4 (.v 0) (.v 1) (.c 0)))
  (.leaf (.c 1))
  (.leaf (.c 0))))))))
  (.br (.b .eq .i64 (.f 4 (.cl 1050 (-2147483648) 2147483647) (.cl 1051 (-2147483648) 2147483647) (.c 0)) (.f 4 (.v 0) (.v 1) (.c 0)))
  (.leaf (.c 1))
  (.leaf (.c 0))))))))))
  (.br (.b .eq .i64 (.f 4 (.w .i32 (.b .pmul .i64 (.c 2) (.cl 1038 (-2147483648) 2147483647))) (.w .i32 (.b .pmul .i64 (.c 2) (.cl 1039 (-2147483648) 2147483647))) (.c 0)) (.f 4 (.v 0) (.v 1) (.c 0)))
  (.leaf (.c 1))
  (.leaf (.c 0))))))))
  (.br (.b .eq .i64 (.f 4 (.cl 1038 (-2147483648) 2147483647) (.cl 1039 (-2147483648) 2147483647) (.c 0)) (.f 4 (.v 0) (.v 1) (.c 0)))
  (.leaf (.c 1))
  (.leaf (.c 0))))))))))
  (.br (.b .eq .i64 (.f 4 (.w .i32 (.b .pmul .i64 (.c 2) (.cl 1026 (-2147483648) 2147483647))) (.w .i32 (.b .pmul .i64 (.c 2) (.cl 1027 (-2147483648) 2147483647))) (.c 0)) (.f 4 (.v 0) (.v 1) (.c 0)))
  (.leaf (.c 1))
  (.leaf (.c 0))))))))
  (.br (.b .eq .i64 (.f 4 (.cl 1026 (-2147483648) 2147483647) (.cl 1027 (-2147483648) 2147483647) (.c 0)) (.f 4 (.v 0) (.v 1) (.c 0)))
  (.leaf (.c 1))
  (.leaf (.c 0))))))))))
  (.br (.b .eq .i64 (.f 4 (.w .i32 (.b .pmul .i64 (.c 2) (.cl 1014 (-2147483648) 2147483647))) (.w .i32 (.b .pmul .i64 (.c 2) (.cl 1015 (-2147483648) 2147483647))) (.c 0)) (.f 4 (.v 0) (.v 1) (.c 0)))
  (.leaf (.c 1))
  (.leaf (.c 0))))))))
  (.br (.b .eq .i64 (.f 4 (.cl 1014 (-2147483648) 2147483647) (.cl 1015 (-2147483648) 2147483647) (.c 0)) (.f 4 (.v 0) (.v 1) (.c 0)))
  (.leaf (.c 1))
  (.leaf (.c 0))))))))))
  (.br (.b .eq .i64 (.f 4 (.w .i32 (.b .pmul .i64 (.c 2) (.v 0))) (.w .i32 (.b .pmul .i64 (.c 2) (.v 1))) (.c 0)) (.f 4 (.v 0) (.v 1) (.c 0)))
  (.leaf (.c 1))
  (.leaf (.c 0))))))))
  (.leaf (.c 1)))))))
def P (a0 a1 a2 : Int) : Prop :=
 (((bool01 (decide (a0 < (-268435456)))) ≠ 0 →
  (1 : Int) ≠ 0) ∧ ((bool01 (decide (a0 < (-268435456)))) = 0 →
  (((bool01 (decide (268435456 < a0))) ≠ 0 →
   (1 : Int) ≠ 0) ∧ ((bool01 (decide (268435456 < a0))) = 0 →
   (((bool01 (decide (a1 < (-268435456)))) ≠ 0 →
    (1 : Int) ≠ 0) ∧ ((bool01 (decide (a1 < (-268435456)))) = 0 →
    (((bool01 (decide (268435456 < a1))) ≠ 0 →
     (1 : Int) ≠ 0) ∧ ((bool01 (decide (268435456 < a1))) = 0 →
     (((bool01 (decide (0 < (BO.ev .rem .i64 a2 20)))) ≠ 0 →
      (((bool01 (decide (a0 < (-134217728)))) ≠ 0 →
       (1 : Int) ≠ 0) ∧ ((bool01 (decide (a0 < (-134217728)))) = 0 →
       (((bool01 (decide (134217728 < a0))) ≠ 0 →
        (1 : Int) ≠ 0) ∧ ((bool01 (decide (134217728 < a0))) = 0 →
        (((bool01 (decide (a1 < (-134217728)))) ≠ 0 →
         (1 : Int) ≠ 0) ∧ ((bool01 (decide (a1 < (-134217728)))) = 0 →
         (((bool01 (decide (134217728 < a1))) ≠ 0 →
          (1 : Int) ≠ 0) ∧ ((bool01 (decide (134217728 < a1))) = 0 →
          (((bool01 (decide (1 < (BO.ev .rem .i64 a2 20)))) ≠ 0 →
           (((bool01 (decide ((IntKind.wrap .i32 (2 * a0)) < (-134217728)))) ≠ 0 →
            (((bool01 ((F' 4 (IntKind.wrap .i32 (2 * a0)) (IntKind.wrap .i32 (2 * a1)) 0) == (F' 4 a0 a1 0))) ≠ 0 →
             (1 : Int) ≠ 0) ∧ ((bool01 ((F' 4 (IntKind.wrap .i32 (2 * a0)) (IntKind.wrap .i32 (2 * a1)) 0) == (F' 4 a0 a1 0))) = 0 →
             (0 : Int) ≠ 0))) ∧ ((bool01 (decide ((IntKind.wrap .i32 (2 * a0)) < (-134217728)))) = 0 →
            (((bool01 (decide (134217728 < (IntKind.wrap .i32 (2 * a0))))) ≠ 0 →
             (((bool01 ((F' 4 (IntKind.wrap .i32 (2 * a0)) (IntKind.wrap .i32 (2 * a1)) 0) == (F' 4 a0 a1 0))) ≠ 0 →
              (1 : Int) ≠ 0) ∧ ((bool01 ((F' 4 (IntKind.wrap .i32 (2 * a0)) (IntKind.wrap .i32 (2 * a1)) 0) == (F' 4 a0 a1 0))) = 0 →
              (0 : Int) ≠ 0))) ∧ ((bool01 (decide (134217728 < (IntKind.wrap .i32 (2 * a0))))) = 0 →
             (((bool01 (decide ((IntKind.wrap .i32 (2 * a1)) < (-134217728)))) ≠ 0 →
              (((bool01 ((F' 4 (IntKind.wrap .i32 (2 * a0)) (IntKind.wrap .i32 (2 * a1)) 0) == (F' 4 a0 a1 0))) ≠ 0 →
               (1 : Int) ≠ 0) ∧ ((bool01 ((F' 4 (IntKind.wrap .i32 (2 * a0)) (IntKind.wrap .i32 (2 * a1)) 0) == (F' 4 a0 a1 0))) = 0 →
               (0 : Int) ≠ 0))) ∧ ((bool01 (decide ((IntKind.wrap .i32 (2 * a1)) < (-134217728)))) = 0 →
              (((bool01 (decide (134217728 < (IntKind.wrap .i32 (2 * a1))))) ≠ 0 →
               (((bool01 ((F' 4 (IntKind.wrap .i32 (2 * a0)) (IntKind.wrap .i32 (2 * a1)) 0) == (F' 4 a0 a1 0))) ≠ 0 →
                (1 : Int) ≠ 0) ∧ ((bool01 ((F' 4 (IntKind.wrap .i32 (2 * a0)) (IntKind.wrap .i32 (2 * a1)) 0) == (F' 4 a0 a1 0))) = 0 →
                (0 : Int) ≠ 0))) ∧ ((bool01 (decide (134217728 < (IntKind.wrap .i32 (2 * a1))))) = 0 →
               ∀ y1014 : Int, y1014 = (IntKind.wrap .i32 (2 * (IntKind.wrap .i32 (2 * a0)))) → (-2147483648 ≤ y1014 ∧ y1014 ≤ 2147483647) →
               ∀ y1015 : Int, y1015 = (IntKind.wrap .i32 (2 * (IntKind.wrap .i32 (2 * a1)))) → (-2147483648 ≤ y1015 ∧ y1015 ≤ 2147483647) →
               (((bool01 (decide (2 < (BO.ev .rem .i64 a2 20)))) ≠ 0 →
                (((bool01 (decide (y1014 < (-134217728)))) ≠ 0 →
                 (((bool01 ((F' 4 y1014 y1015 0) == (F' 4 a0 a1 0))) ≠ 0 →
                  (1 : Int) ≠ 0) ∧ ((bool01 ((F' 4 y1014 y1015 0) == (F' 4 a0 a1 0))) = 0 →
                  (0 : Int) ≠ 0))) ∧ ((bool01 (decide (y1014 < (-134217728)))) = 0 →
                 (((bool01 (decide (134217728 < y1014))) ≠ 0 →
                  (((bool01 ((F' 4 y1014 y1015 0) == (F' 4 a0 a1 0))) ≠ 0 →
                   (1 : Int) ≠ 0) ∧ ((bool01 ((F' 4 y1014 y1015 0) == (F' 4 a0 a1 0))) = 0 →
                   (0 : Int) ≠ 0))) ∧ ((bool01 (decide (134217728 < y1014))) = 0 →
                  (((bool01 (decide (y1015 < (-134217728)))) ≠ 0 →
                   (((bool01 ((F' 4 y1014 y1015 0) == (F' 4 a0 a1 0))) ≠ 0 →
                    (1 : Int) ≠ 0) ∧ ((bool01 ((F' 4 y1014 y1015 0) == (F' 4 a0 a1 0))) = 0 →
                    (0 : Int) ≠ 0))) ∧ ((bool01 (decide (y1015 < (-134217728)))) = 0 →
                   (((bool01 (decide (134217728 < y1015))) ≠ 0 →
                    (((bool01 ((F' 4 y1014 y1015 0) == (F' 4 a0 a1 0))) ≠ 0 →
                     (1 : Int) ≠ 0) ∧ ((bool01 ((F' 4 y1014 y1015 0) == (F' 4 a0 a1 0))) = 0 →
                     (0 : Int) ≠ 0))) ∧ ((bool01 (decide (134217728 < y1015))) = 0 →
                    (((bool01 (decide (3 < (BO.ev .rem .i64 a2 20)))) ≠ 0 →
                     (((bool01 (decide ((IntKind.wrap .i32 (2 * y1014)) < (-134217728)))) ≠ 0 →
                      (((bool01 ((F' 4 (IntKind.wrap .i32 (2 * y1014)) (IntKind.wrap .i32 (2 * y1015)) 0) == (F' 4 a0 a1 0))) ≠ 0 →
                       (1 : Int) ≠ 0) ∧ ((bool01 ((F' 4 (IntKind.wrap .i32 (2 * y1014)) (IntKind.wrap .i32 (2 * y1015)) 0) == (F' 4 a0 a1 0))) = 0 →
                       (0 : Int) ≠ 0))) ∧ ((bool01 (decide ((IntKind.wrap .i32 (2 * y1014)) < (-134217728)))) = 0 →
                      (((bool01 (decide (134217728 < (IntKind.wrap .i32 (2 * y1014))))) ≠ 0 →
                       (((bool01 ((F' 4 (IntKind.wrap .i32 (2 * y1014)) (IntKind.wrap .i32 (2 * y1015)) 0) == (F' 4 a0 a1 0))) ≠ 0 →
                        (1 : Int) ≠ 0) ∧ ((bool01 ((F' 4 (IntKind.wrap .i32 (2 * y1014)) (IntKind.wrap .i32 (2 * y1015)) 0) == (F' 4 a0 a1 0))) = 0 →
                        (0 : Int) ≠ 0))) ∧ ((bool01 (decide (134217728 < (IntKind.wrap .i32 (2 * y1014))))) = 0 →
                       (((bool01 (decide ((IntKind.wrap .i32 (2 * y1015)) < (-134217728)))) ≠ 0 →
                        (((bool01 ((F' 4 (IntKind.wrap .i32 (2 * y1014)) (IntKind.wrap .i32 (2 * y1015)) 0) == (F' 4 a0 a1 0))) ≠ 0 →
                         (1 : Int) ≠ 0) ∧ ((bool01 ((F' 4 (IntKind.wrap .i32 (2 * y1014)) (IntKind.wrap .i32 (2 * y1015)) 0) == (F' 4 a0 a1 0))) = 0 →
                         (0 : Int) ≠ 0))) ∧ ((bool01 (decide ((IntKind.wrap .i32 (2 * y1015)) < (-134217728)))) = 0 →
                        (((bool01 (decide (134217728 < (IntKind.wrap .i32 (2 * y1015))))) ≠ 0 →
                         (((bool01 ((F' 4 (IntKind.wrap .i32 (2 * y1014)) (IntKind.wrap .i32 (2 * y1015)) 0) == (F' 4 a0 a1 0))) ≠ 0 →
                          (1 : Int) ≠ 0) ∧ ((bool01 ((F' 4 (IntKind.wrap .i32 (2 * y1014)) (IntKind.wrap .i32 (2 * y1015)) 0) == (F' 4 a0 a1 0))) = 0 →
                          (0 : Int) ≠ 0))) ∧ ((bool01 (decide (134217728 < (IntKind.wrap .i32 (2 * y1015))))) = 0 →
                         ∀ y1026 : Int, y1026 = (IntKind.wrap .i32 (2 * (IntKind.wrap .i32 (2 * y1014)))) → (-2147483648 ≤ y1026 ∧ y1026 ≤ 2147483647) →
                         ∀ y1027 : Int, y1027 = (IntKind.wrap .i32 (2 * (IntKind.wrap .i32 (2 * y1015)))) → (-2147483648 ≤ y1027 ∧ y1027 ≤ 2147483647) →
                         (((bool01 (decide (4 < (BO.ev .rem .i64 a2 20)))) ≠ 0 →
                          (((bool01 (decide (y1026 < (-134217728)))) ≠ 0 →
                           (((bool01 ((F' 4 y1026 y1027 0) == (F' 4 a0 a1 0))) ≠ 0 →
                            (1 : Int) ≠ 0) ∧ ((bool01 ((F' 4 y1026 y1027 0) == (F' 4 a0 a1 0))) = 0 →
                            (0 : Int) ≠ 0))) ∧ ((bool01 (decide (y1026 < (-134217728)))) = 0 →
                           (((bool01 (decide (134217728 < y1026))) ≠ 0 →
                            (((bool01 ((F' 4 y1026 y1027 0) == (F' 4 a0 a1 0))) ≠ 0 →
                             (1 : Int) ≠ 0) ∧ ((bool01 ((F' 4 y1026 y1027 0) == (F' 4 a0 a1 0))) = 0 →
                             (0 : Int) ≠ 0))) ∧ ((bool01 (decide (134217728 < y1026))) = 0 →
                            (((bool01 (decide (y1027 < (-134217728)))) ≠ 0 →
                             (((bool01 ((F' 4 y1026 y1027 0) == (F' 4 a0 a1 0))) ≠ 0 →
                              (1 : Int) ≠ 0) ∧ ((bool01 ((F' 4 y1026 y1027 0) == (F' 4 a0 a1 0))) = 0 →
                              (0 : Int) ≠ 0))) ∧ ((bool01 (decide (y1027 < (-134217728)))) = 0 →
                             (((bool01 (decide (134217728 < y1027))) ≠ 0 →
                              (((bool01 ((F' 4 y1026 y1027 0) == (F' 4 a0 a1 0))) ≠ 0 →
                               (1 : Int) ≠ 0) ∧ ((bool01 ((F' 4 y1026 y1027 0) == (F' 4 a0 a1 0))) = 0 →
                               (0 : Int) ≠ 0))) ∧ ((bool01 (decide (134217728 < y1027))) = 0 →
                              (((bool01 (decide (5 < (BO.ev .rem .i64 a2 20)))) ≠ 0 →
                               (((bool01 (decide ((IntKind.wrap .i32 (2 * y1026)) < (-134217728)))) ≠ 0 →
                                (((bool01 ((F' 4 (IntKind.wrap .i32 (2 * y1026)) (IntKind.wrap .i32 (2 * y1027)) 0) == (F' 4 a0 a1 0))) ≠ 0 →
                                 (1 : Int) ≠ 0) ∧ ((bool01 ((F' 4 (IntKind.wrap .i32 (2 * y1026)) (IntKind.wrap .i32 (2 * y1027)) 0) == (F' 4 a0 a1 0))) = 0 →
                                 (0 : Int) ≠ 0))) ∧ ((bool01 (decide ((IntKind.wrap .i32 (2 * y1026)) < (-134217728)))) = 0 →
                                (((bool01 (decide (134217728 < (IntKind.wrap .i32 (2 * y1026))))) ≠ 0 →
                                 (((bool01 ((F' 4 (IntKind.wrap .i32 (2 * y1026)) (IntKind.wrap .i32 (2 * y1027)) 0) == (F' 4 a0 a1 0))) ≠ 0 →
                                  (1 : Int) ≠ 0) ∧ ((bool01 ((F' 4 (IntKind.wrap .i32 (2 * y1026)) (IntKind.wrap .i32 (2 * y1027)) 0) == (F' 4 a0 a1 0))) = 0 →
                                  (0 : Int) ≠ 0))) ∧ ((bool01 (decide (134217728 < (IntKind.wrap .i32 (2 * y1026))))) = 0 →
                                 (((bool01 (decide ((IntKind.wrap .i32 (2 * y1027)) < (-134217728)))) ≠ 0 →
                                  (((bool01 ((F' 4 (IntKind.wrap .i32 (2 * y1026)) (IntKind.wrap .i32 (2 * y1027)) 0) == (F' 4 a0 a1 0))) ≠ 0 →
                                   (1 : Int) ≠ 0) ∧ ((bool01 ((F' 4 (IntKind.wrap .i32 (2 * y1026)) (IntKind.wrap .i32 (2 * y1027)) 0) == (F' 4 a0 a1 0))) = 0 →
                                   (0 : Int) ≠ 0))) ∧ ((bool01 (decide ((IntKind.wrap .i32 (2 * y1027)) < (-134217728)))) = 0 →
                                  (((bool01 (decide (134217728 < (IntKind.wrap .i32 (2 * y1027))))) ≠ 0 →
                                   (((bool01 ((F' 4 (IntKind.wrap .i32 (2 * y1026)) (IntKind.wrap .i32 (2 * y1027)) 0) == (F' 4 a0 a1 0))) ≠ 0 →
                                    (1 : Int) ≠ 0) ∧ ((bool01 ((F' 4 (IntKind.wrap .i32 (2 * y1026)) (IntKind.wrap .i32 (2 * y1027)) 0) == (F' 4 a0 a1 0))) = 0 →
                                    (0 : Int) ≠ 0))) ∧ ((bool01 (decide (134217728 < (IntKind.wrap .i32 (2 * y1027))))) = 0 →
                                   ∀ y1038 : Int, y1038 = (IntKind.wrap .i32 (2 * (IntKind.wrap .i32 (2 * y1026)))) → (-2147483648 ≤ y1038 ∧ y1038 ≤ 2147483647) →
                                   ∀ y1039 : Int, y1039 = (IntKind.wrap .i32 (2 * (IntKind.wrap .i32 (2 * y1027)))) → (-2147483648 ≤ y1039 ∧ y1039 ≤ 2147483647) →
                                   (((bool01 (decide (6 < (BO.ev .rem .i64 a2 20)))) ≠ 0 →
                                    (((bool01 (decide (y1038 < (-134217728)))) ≠ 0 →
                                     (((bool01 ((F' 4 y1038 y1039 0) == (F' 4 a0 a1 0))) ≠ 0 →
                                      (1 : Int) ≠ 0) ∧ ((bool01 ((F' 4 y1038 y1039 0) == (F' 4 a0 a1 0))) = 0 →
                                      (0 : Int) ≠ 0))) ∧ ((bool01 (decide (y1038 < (-134217728)))) = 0 →
                                     (((bool01 (decide (134217728 < y1038))) ≠ 0 →
                                      (((bool01 ((F' 4 y1038 y1039 0) == (F' 4 a0 a1 0))) ≠ 0 →
                                       (1 : Int) ≠ 0) ∧ ((bool01 ((F' 4 y1038 y1039 0) == (F' 4 a0 a1 0))) = 0 →
                                       (0 : Int) ≠ 0))) ∧ ((bool01 (decide (134217728 < y1038))) = 0 →
                                      (((bool01 (decide (y1039 < (-134217728)))) ≠ 0 →
                                       (((bool01 ((F' 4 y1038 y1039 0) == (F' 4 a0 a1 0))) ≠ 0 →
                                        (1 : Int) ≠ 0) ∧ ((bool01 ((F' 4 y1038 y1039 0) == (F' 4 a0 a1 0))) = 0 →
                                        (0 : Int) ≠ 0))) ∧ ((bool01 (decide (y1039 < (-134217728)))) = 0 →
                                       (((bool01 (decide (134217728 < y1039))) ≠ 0 →
                                        (((bool01 ((F' 4 y1038 y1039 0) == (F' 4 a0 a1 0))) ≠ 0 →
                                         (1 : Int) ≠ 0) ∧ ((bool01 ((F' 4 y1038 y1039 0) == (F' 4 a0 a1 0))) = 0 →
                                         (0 : Int) ≠ 0))) ∧ ((bool01 (decide (134217728 < y1039))) = 0 →
                                        (((bool01 (decide (7 < (BO.ev .rem .i64 a2 20)))) ≠ 0 →
                                         (((bool01 (decide ((IntKind.wrap .i32 (2 * y1038)) < (-134217728)))) ≠ 0 →
                                          (((bool01 ((F' 4 (IntKind.wrap .i32 (2 * y1038)) (IntKind.wrap .i32 (2 * y1039)) 0) == (F' 4 a0 a1 0))) ≠ 0 →
                                           (1 : Int) ≠ 0) ∧ ((bool01 ((F' 4 (IntKind.wrap .i32 (2 * y1038)) (IntKind.wrap .i32 (2 * y1039)) 0) == (F' 4 a0 a1 0))) = 0 →
                                           (0 : Int) ≠ 0))) ∧ ((bool01 (decide ((IntKind.wrap .i32 (2 * y1038)) < (-134217728)))) = 0 →
                                          (((bool01 (decide (134217728 < (IntKind.wrap .i32 (2 * y1038))))) ≠ 0 →
                                           (((bool01 ((F' 4 (IntKind.wrap .i32 (2 * y1038)) (IntKind.wrap .i32 (2 * y1039)) 0) == (F' 4 a0 a1 0))) ≠ 0 →
                                            (1 : Int) ≠ 0) ∧ ((bool01 ((F' 4 (IntKind.wrap .i32 (2 * y1038)) (IntKind.wrap .i32 (2 * y1039)) 0) == (F' 4 a0 a1 0))) = 0 →
                                            (0 : Int) ≠ 0))) ∧ ((bool01 (decide (134217728 < (IntKind.wrap .i32 (2 * y1038))))) = 0 →
                                           (((bool01 (decide ((IntKind.wrap .i32 (2 * y1039)) < (-134217728)))) ≠ 0 →
                                            (((bool01 ((F' 4 (IntKind.wrap .i32 (2 * y1038)) (IntKind.wrap .i32 (2 * y1039)) 0) == (F' 4 a0 a1 0))) ≠ 0 →
                                             (1 : Int) ≠ 0) ∧ ((bool01 ((F' 4 (IntKind.wrap .i32 (2 * y1038)) (IntKind.wrap .i32 (2 * y1039)) 0) == (F' 4 a0 a1 0))) = 0 →
                                             (0 : Int) ≠ 0))) ∧ ((bool01 (decide ((IntKind.wrap .i32 (2 * y1039)) < (-134217728)))) = 0 →
                                            (((bool01 (decide (134217728 < (IntKind.wrap .i32 (2 * y1039))))) ≠ 0 →
                                             (((bool01 ((F' 4 (IntKind.wrap .i32 (2 * y1038)) (IntKind.wrap .i32 (2 * y1039)) 0) == (F' 4 a0 a1 0))) ≠ 0 →
                                              (1 : Int) ≠ 0) ∧ ((bool01 ((F' 4 (IntKind.wrap .i32 (2 * y1038)) (IntKind.wrap .i32 (2 * y1039)) 0) == (F' 4 a0 a1 0))) = 0 →
                                              (0 : Int) ≠ 0))) ∧ ((bool01 (decide (134217728 < (IntKind.wrap .i32 (2 * y1039))))) = 0 →
                                             ∀ y1050 : Int, y1050 = (IntKind.wrap .i32 (2 * (IntKind.wrap .i32 (2 * y1038)))) → (-2147483648 ≤ y1050 ∧ y1050 ≤ 2147483647) →
                                             ∀ y1051 : Int, y1051 = (IntKind.wrap .i32 (2 * (IntKind.wrap .i32 (2 * y1039)))) → (-2147483648 ≤ y1051 ∧ y1051 ≤ 2147483647) →
                                             (((bool01 (decide (8 < (BO.ev .rem .i64 a2 20)))) ≠ 0 →
                                              (((bool01 (decide (y1050 < (-134217728)))) ≠ 0 →
                                               (((bool01 ((F' 4 y1050 y1051 0) == (F' 4 a0 a1 0))) ≠ 0 →
                                                (1 : Int) ≠ 0) ∧ ((bool01 ((F' 4 y1050 y1051 0) == (F' 4 a0 a1 0))) = 0 →
                                                (0 : Int) ≠ 0))) ∧ ((bool01 (decide (y1050 < (-134217728)))) = 0 →
                                               (((bool01 (decide (134217728 < y1050))) ≠ 0 →
                                                (((bool01 ((F' 4 y1050 y1051 0) == (F' 4 a0 a1 0))) ≠ 0 →
                                                 (1 : Int) ≠ 0) ∧ ((bool01 ((F' 4 y1050 y1051 0) == (F' 4 a0 a1 0))) = 0 →
                                                 (0 : Int) ≠ 0))) ∧ ((bool01 (decide (134217728 < y1050))) = 0 →
                                                (((bool01 (decide (y1051 < (-134217728)))) ≠ 0 →
                                                 (((bool01 ((F' 4 y1050 y1051 0) == (F' 4 a0 a1 0))) ≠ 0 →
                                                  (1 : Int) ≠ 0) ∧ ((bool01 ((F' 4 y1050 y1051 0) == (F' 4 a0 a1 0))) = 0 →
                                                  (0 : Int) ≠ 0))) ∧ ((bool01 (decide (y1051 < (-134217728)))) = 0 →
                                                 (((bool01 (decide (134217728 < y1051))) ≠ 0 →
                                                  (((bool01 ((F' 4 y1050 y1051 0) == (F' 4 a0 a1 0))) ≠ 0 →
                                                   (1 : Int) ≠ 0) ∧ ((bool01 ((F' 4 y1050 y1051 0) == (F' 4 a0 a1 0))) = 0 →
                                                   (0 : Int) ≠ 0))) ∧ ((bool01 (decide (134217728 < y1051))) = 0 →
                                                  (((bool01 (decide (9 < (BO.ev .rem .i64 a2 20)))) ≠ 0 →
                                                   (((bool01 (decide ((IntKind.wrap .i32 (2 * y1050)) < (-134217728)))) ≠ 0 →
                                                    (((bool01 ((F' 4 (IntKind.wrap .i32 (2 * y1050)) (IntKind.wrap .i32 (2 * y1051)) 0) == (F' 4 a0 a1 0))) ≠ 0 →
                                                     (1 : Int) ≠ 0) ∧ ((bool01 ((F' 4 (IntKind.wrap .i32 (2 * y1050)) (IntKind.wrap .i32 (2 * y1051)) 0) == (F' 4 a0 a1 0))) = 0 →
                                                     (0 : Int) ≠ 0))) ∧ ((bool01 (decide ((IntKind.wrap .i32 (2 * y1050)) < (-134217728)))) = 0 →
                                                    (((bool01 (decide (134217728 < (IntKind.wrap .i32 (2 * y1050))))) ≠ 0 →
                                                     (((bool01 ((F' 4 (IntKind.wrap .i32 (2 * y1050)) (IntKind.wrap .i32 (2 * y1051)) 0) == (F' 4 a0 a1 0))) ≠ 0 →
                                                      (1 : Int) ≠ 0) ∧ ((bool01 ((F' 4 (IntKind.wrap .i32 (2 * y1050)) (IntKind.wrap .i32 (2 * y1051)) 0) == (F' 4 a0 a1 0))) = 0 →
                                                      (0 : Int) ≠ 0))) ∧ ((bool01 (decide (134217728 < (IntKind.wrap .i32 (2 * y1050))))) = 0 →
                                                     (((bool01 (decide ((IntKind.wrap .i32 (2 * y1051)) < (-134217728)))) ≠ 0 →
                                                      (((bool01 ((F' 4 (IntKind.wrap .i32 (2 * y1050)) (IntKind.wrap .i32 (2 * y1051)) 0) == (F' 4 a0 a1 0))) ≠ 0 →
                                                       (1 : Int) ≠ 0) ∧ ((bool01 ((F' 4 (IntKind.wrap .i32 (2 * y1050)) (IntKind.wrap .i32 (2 * y1051)) 0) == (F' 4 a0 a1 0))) = 0 →
                                                       (0 : Int) ≠ 0))) ∧ ((bool01 (decide ((IntKind.wrap .i32 (2 * y1051)) < (-134217728)))) = 0 →
                                                      (((bool01 (decide (134217728 < (IntKind.wrap .i32 (2 * y1051))))) ≠ 0 →
                                                       (((bool01 ((F' 4 (IntKind.wrap .i32 (2 * y1050)) (IntKind.wrap .i32 (2 * y1051)) 0) == (F' 4 a0 a1 0))) ≠ 0 →
                                                        (1 : Int) ≠ 0) ∧ ((bool01 ((F' 4 (IntKind.wrap .i32 (2 * y1050)) (IntKind.wrap .i32 (2 * y1051)) 0) == (F' 4 a0 a1 0))) = 0 →
                                                        (0 : Int) ≠ 0))) ∧ ((bool01 (decide (134217728 < (IntKind.wrap .i32 (2 * y1051))))) = 0 →
                                                       ∀ y1062 : Int, y1062 = (IntKind.wrap .i32 (2 * (IntKind.wrap .i32 (2 * y1050)))) → (-2147483648 ≤ y1062 ∧ y1062 ≤ 2147483647) →
                                                       ∀ y1063 : Int, y1063 = (IntKind.wrap .i32 (2 * (IntKind.wrap .i32 (2 * y1051)))) → (-2147483648 ≤ y1063 ∧ y1063 ≤ 2147483647) →
                                                       (((bool01 (decide (10 < (BO.ev .rem .i64 a2 20)))) ≠ 0 →
                                                        (((bool01 (decide (y1062 < (-134217728)))) ≠ 0 →
                                                         (((bool01 ((F' 4 y1062 y1063 0) == (F' 4 a0 a1 0))) ≠ 0 →
                                                          (1 : Int) ≠ 0) ∧ ((bool01 ((F' 4 y1062 y1063 0) == (F' 4 a0 a1 0))) = 0 →
                                                          (0 : Int) ≠ 0))) ∧ ((bool01 (decide (y1062 < (-134217728)))) = 0 →
                                                         (((bool01 (decide (134217728 < y1062))) ≠ 0 →
                                                          (((bool01 ((F' 4 y1062 y1063 0) == (F' 4 a0 a1 0))) ≠ 0 →
                                                           (1 : Int) ≠ 0) ∧ ((bool01 ((F' 4 y1062 y1063 0) == (F' 4 a0 a1 0))) = 0 →
                                                           (0 : Int) ≠ 0))) ∧ ((bool01 (decide (134217728 < y1062))) = 0 →
                                                          (((bool01 (decide (y1063 < (-134217728)))) ≠ 0 →
                                                           (((bool01 ((F' 4 y1062 y1063 0) == (F' 4 a0 a1 0))) ≠ 0 →
                                                            (1 : Int) ≠ 0) ∧ ((bool01 ((F' 4 y1062 y1063 0) == (F' 4 a0 a1 0))) = 0 →
                                                            (0 : Int) ≠ 0))) ∧ ((bool01 (decide (y1063 < (-134217728)))) = 0 →
                                                           (((bool01 (decide (134217728 < y1063))) ≠ 0 →
                                                            (((bool01 ((F' 4 y1062 y1063 0) == (F' 4 a0 a1 0))) ≠ 0 →
                                                             (1 : Int) ≠ 0) ∧ ((bool01 ((F' 4 y1062 y1063 0) == (F' 4 a0 a1 0))) = 0 →
                                                             (0 : Int) ≠ 0))) ∧ ((bool01 (decide (134217728 < y1063))) = 0 →
                                                            (((bool01 (decide (11 < (BO.ev .rem .i64 a2 20)))) ≠ 0 →
                                                             (((bool01 (decide ((IntKind.wrap .i32 (2 * y1062)) < (-134217728)))) ≠ 0 →
                                                              (((bool01 ((F' 4 (IntKind.wrap .i32 (2 * y1062)) (IntKind.wrap .i32 (2 * y1063)) 0) == (F' 4 a0 a1 0))) ≠ 0 →
                                                               (1 : Int) ≠ 0) ∧ ((bool01 ((F' 4 (IntKind.wrap .i32 (2 * y1062)) (IntKind.wrap .i32 (2 * y1063)) 0) == (F' 4 a0 a1 0))) = 0 →
                                                               (0 : Int) ≠ 0))) ∧ ((bool01 (decide ((IntKind.wrap .i32 (2 * y1062)) < (-134217728)))) = 0 →
                                                              (((bool01 (decide (134217728 < (IntKind.wrap .i32 (2 * y1062))))) ≠ 0 →
                                                               (((bool01 ((F' 4 (IntKind.wrap .i32 (2 * y1062)) (IntKind.wrap .i32 (2 * y1063)) 0) == (F' 4 a0 a1 0))) ≠ 0 →
                                                                (1 : Int) ≠ 0) ∧ ((bool01 ((F' 4 (IntKind.wrap .i32 (2 * y1062)) (IntKind.wrap .i32 (2 * y1063)) 0) == (F' 4 a0 a1 0))) = 0 →
                                                                (0 : Int) ≠ 0))) ∧ ((bool01 (decide (134217728 < (IntKind.wrap .i32 (2 * y1062))))) = 0 →
                                                               (((bool01 (decide ((IntKind.wrap .i32 (2 * y1063)) < (-134217728)))) ≠ 0 →
                                                                (((bool01 ((F' 4 (IntKind.wrap .i32 (2 * y1062)) (IntKind.wrap .i32 (2 * y1063)) 0) == (F' 4 a0 a1 0))) ≠ 0 →
                                                                 (1 : Int) ≠ 0) ∧ ((bool01 ((F' 4 (IntKind.wrap .i32 (2 * y1062)) (IntKind.wrap .i32 (2 * y1063)) 0) == (F' 4 a0 a1 0))) = 0 →
                                                                 (0 : Int) ≠ 0))) ∧ ((bool01 (decide ((IntKind.wrap .i32 (2 * y1063)) < (-134217728)))) = 0 →
                                                                (((bool01 (decide (134217728 < (IntKind.wrap .i32 (2 * y1063))))) ≠ 0 →
                                                                 (((bool01 ((F' 4 (IntKind.wrap .i32 (2 * y1062)) (IntKind.wrap .i32 (2 * y1063)) 0) == (F' 4 a0 a1 0))) ≠ 0 →
                                                                  (1 : Int) ≠ 0) ∧ ((bool01 ((F' 4 (IntKind.wrap .i32 (2 * y1062)) (IntKind.wrap .i32 (2 * y1063)) 0) == (F' 4 a0 a1 0))) = 0 →
                                                                  (0 : Int) ≠ 0))) ∧ ((bool01 (decide (134217728 < (IntKind.wrap .i32 (2 * y1063))))) = 0 →
                                                                 ∀ y1074 : Int, y1074 = (IntKind.wrap .i32 (2 * (IntKind.wrap .i32 (2 * y1062)))) → (-2147483648 ≤ y1074 ∧ y1074 ≤ 2147483647) →
                                                                 ∀ y1075 : Int, y1075 = (IntKind.wrap .i32 (2 * (IntKind.wrap .i32 (2 * y1063)))) → (-2147483648 ≤ y1075 ∧ y1075 ≤ 2147483647) →
                                                                 (((bool01 (decide (12 < (BO.ev .rem .i64 a2 20)))) ≠ 0 →
                                                                  (((bool01 (decide (y1074 < (-134217728)))) ≠ 0 →
                                                                   (((bool01 ((F' 4 y1074 y1075 0) == (F' 4 a0 a1 0))) ≠ 0 →
                                                                    (1 : Int) ≠ 0) ∧ ((bool01 ((F' 4 y1074 y1075 0) == (F' 4 a0 a1 0))) = 0 →
                                                                    (0 : Int) ≠ 0))) ∧ ((bool01 (decide (y1074 < (-134217728)))) = 0 →
                                                                   (((bool01 (decide (134217728 < y1074))) ≠ 0 →
                                                                    (((bool01 ((F' 4 y1074 y1075 0) == (F' 4 a0 a1 0))) ≠ 0 →
                                                                     (1 : Int) ≠ 0) ∧ ((bool01 ((F' 4 y1074 y1075 0) == (F' 4 a0 a1 0))) = 0 →
                                                                     (0 : Int) ≠ 0))) ∧ ((bool01 (decide (134217728 < y1074))) = 0 →
                                                                    (((bool01 (decide (y1075 < (-134217728)))) ≠ 0 →
                                                                     (((bool01 ((F' 4 y1074 y1075 0) == (F' 4 a0 a1 0))) ≠ 0 →
                                                                      (1 : Int) ≠ 0) ∧ ((bool01 ((F' 4 y1074 y1075 0) == (F' 4 a0 a1 0))) = 0 →
                                                                      (0 : Int) ≠ 0))) ∧ ((bool01 (decide (y1075 < (-134217728)))) = 0 →
                                                                     (((bool01 (decide (134217728 < y1075))) ≠ 0 →
                                                                      (((bool01 ((F' 4 y1074 y1075 0) == (F' 4 a0 a1 0))) ≠ 0 →
                                                                       (1 : Int) ≠ 0) ∧ ((bool01 ((F' 4 y1074 y1075 0) == (F' 4 a0 a1 0))) = 0 →
                                                                       (0 : Int) ≠ 0))) ∧ ((bool01 (decide (134217728 < y1075))) = 0 →
                                                                      (((bool01 (decide (13 < (BO.ev .rem .i64 a2 20)))) ≠ 0 →
                                                                       (((bool01 (decide ((IntKind.wrap .i32 (2 * y1074)) < (-134217728)))) ≠ 0 →
                                                                        (((bool01 ((F' 4 (IntKind.wrap .i32 (2 * y1074)) (IntKind.wrap .i32 (2 * y1075)) 0) == (F' 4 a0 a1 0))) ≠ 0 →
                                                                         (1 : Int) ≠ 0) ∧ ((bool01 ((F' 4 (IntKind.wrap .i32 (2 * y1074)) (IntKind.wrap .i32 (2 * y1075)) 0) == (F' 4 a0 a1 0))) = 0 →
                                                                         (0 : Int) ≠ 0))) ∧ ((bool01 (decide ((IntKind.wrap .i32 (2 * y1074)) < (-134217728)))) = 0 →
                                                                        (((bool01 (decide (134217728 < (IntKind.wrap .i32 (2 * y1074))))) ≠ 0 →
                                                                         (((bool01 ((F' 4 (IntKind.wrap .i32 (2 * y1074)) (IntKind.wrap .i32 (2 * y1075)) 0) == (F' 4 a0 a1 0))) ≠ 0 →
                                                                          (1 : Int) ≠ 0) ∧ ((bool01 ((F' 4 (IntKind.wrap .i32 (2 * y1074)) (IntKind.wrap .i32 (2 * y1075)) 0) == (F' 4 a0 a1 0))) = 0 →
                                                                          (0 : Int) ≠ 0))) ∧ ((bool01 (decide (134217728 < (IntKind.wrap .i32 (2 * y1074))))) = 0 →
                                                                         (((bool01 (decide ((IntKind.wrap .i32 (2 * y1075)) < (-134217728)))) ≠ 0 →
                                                                          (((bool01 ((F' 4 (IntKind.wrap .i32 (2 * y1074)) (IntKind.wrap .i32 (2 * y1075)) 0) == (F' 4 a0 a1 0))) ≠ 0 →
                                                                           (1 : Int) ≠ 0) ∧ ((bool01 ((F' 4 (IntKind.wrap .i32 (2 * y1074)) (IntKind.wrap .i32 (2 * y1075)) 0) == (F' 4 a0 a1 0))) = 0 →
                                                                           (0 : Int) ≠ 0))) ∧ ((bool01 (decide ((IntKind.wrap .i32 (2 * y1075)) < (-134217728)))) = 0 →
                                                                          (((bool01 (decide (134217728 < (IntKind.wrap .i32 (2 * y1075))))) ≠ 0 →
                                                                           (((bool01 ((F' 4 (IntKind.wrap .i32 (2 * y1074)) (IntKind.wrap .i32 (2 * y1075)) 0) == (F' 4 a0 a1 0))) ≠ 0 →
                                                                            (1 : Int) ≠ 0) ∧ ((bool01 ((F' 4 (IntKind.wrap .i32 (2 * y1074)) (IntKind.wrap .i32 (2 * y1075)) 0) == (F' 4 a0 a1 0))) = 0 →
                                                                            (0 : Int) ≠ 0))) ∧ ((bool01 (decide (134217728 < (IntKind.wrap .i32 (2 * y1075))))) = 0 →
                                                                           ∀ y1086 : Int, y1086 = (IntKind.wrap .i32 (2 * (IntKind.wrap .i32 (2 * y1074)))) → (-2147483648 ≤ y1086 ∧ y1086 ≤ 2147483647) →
                                                                           ∀ y1087 : Int, y1087 = (IntKind.wrap .i32 (2 * (IntKind.wrap .i32 (2 * y1075)))) → (-2147483648 ≤ y1087 ∧ y1087 ≤ 2147483647) →
                                                                           (((bool01 (decide (14 < (BO.ev .rem .i64 a2 20)))) ≠ 0 →
                                                                            (((bool01 (decide (y1086 < (-134217728)))) ≠ 0 →
                                                                             (((bool01 ((F' 4 y1086 y1087 0) == (F' 4 a0 a1 0))) ≠ 0 →
                                                                              (1 : Int) ≠ 0) ∧ ((bool01 ((F' 4 y1086 y1087 0) == (F' 4 a0 a1 0))) = 0 →
                                                                              (0 : Int) ≠ 0))) ∧ ((bool01 (decide (y1086 < (-134217728)))) = 0 →
                                                                             (((bool01 (decide (134217728 < y1086))) ≠ 0 →
                                                                              (((bool01 ((F' 4 y1086 y1087 0) == (F' 4 a0 a1 0))) ≠ 0 →
                                                                               (1 : Int) ≠ 0) ∧ ((bool01 ((F' 4 y1086 y1087 0) == (F' 4 a0 a1 0))) = 0 →
                                                                               (0 : Int) ≠ 0))) ∧ ((bool01 (decide (134217728 < y1086))) = 0 →
                                                                              (((bool01 (decide (y1087 < (-134217728)))) ≠ 0 →
                                                                               (((bool01 ((F' 4 y1086 y1087 0) == (F' 4 a0 a1 0))) ≠ 0 →
                                                                                (1 : Int) ≠ 0) ∧ ((bool01 ((F' 4 y1086 y1087 0) == (F' 4 a0 a1 0))) = 0 →
                                                                                (0 : Int) ≠ 0))) ∧ ((bool01 (decide (y1087 < (-134217728)))) = 0 →
                                                                               (((bool01 (decide (134217728 < y1087))) ≠ 0 →
                                                                                (((bool01 ((F' 4 y1086 y1087 0) == (F' 4 a0 a1 0))) ≠ 0 →
                                                                                 (1 : Int) ≠ 0) ∧ ((bool01 ((F' 4 y1086 y1087 0) == (F' 4 a0 a1 0))) = 0 →
                                                                                 (0 : Int) ≠ 0))) ∧ ((bool01 (decide (134217728 < y1087))) = 0 →
                                                                                (((bool01 (decide (15 < (BO.ev .rem .i64 a2 20)))) ≠ 0 →
                                                                                 (((bool01 (decide ((IntKind.wrap .i32 (2 * y1086)) < (-134217728)))) ≠ 0 →
                                                                                  (((bool01 ((F' 4 (IntKind.wrap .i32 (2 * y1086)) (IntKind.wrap .i32 (2 * y1087)) 0) == (F' 4 a0 a1 0))) ≠ 0 →
                                                                                   (1 : Int) ≠ 0) ∧ ((bool01 ((F' 4 (IntKind.wrap .i32 (2 * y1086)) (IntKind.wrap .i32 (2 * y1087)) 0) == (F' 4 a0 a1 0))) = 0 →
                                                                                   (0 : Int) ≠ 0))) ∧ ((bool01 (decide ((IntKind.wrap .i32 (2 * y1086)) < (-134217728)))) = 0 →
                                                                                  (((bool01 (decide (134217728 < (IntKind.wrap .i32 (2 * y1086))))) ≠ 0 →
                                                                                   (((bool01 ((F' 4 (IntKind.wrap .i32 (2 * y1086)) (IntKind.wrap .i32 (2 * y1087)) 0) == (F' 4 a0 a1 0))) ≠ 0 →
                                                                                    (1 : Int) ≠ 0) ∧ ((bool01 ((F' 4 (IntKind.wrap .i32 (2 * y1086)) (IntKind.wrap .i32 (2 * y1087)) 0) == (F' 4 a0 a1 0))) = 0 →
                                                                                    (0 : Int) ≠ 0))) ∧ ((bool01 (decide (134217728 < (IntKind.wrap .i32 (2 * y1086))))) = 0 →
                                                                                   (((bool01 (decide ((IntKind.wrap .i32 (2 * y1087)) < (-134217728)))) ≠ 0 →
                                                                                    (((bool01 ((F' 4 (IntKind.wrap .i32 (2 * y1086)) (IntKind.wrap .i32 (2 * y1087)) 0) == (F' 4 a0 a1 0))) ≠ 0 →
                                                                                     (1 : Int) ≠ 0) ∧ ((bool01 ((F' 4 (IntKind.wrap .i32 (2 * y1086)) (IntKind.wrap .i32 (2 * y1087)) 0) == (F' 4 a0 a1 0))) = 0 →
                                                                                     (0 : Int) ≠ 0))) ∧ ((bool01 (decide ((IntKind.wrap .i32 (2 * y1087)) < (-134217728)))) = 0 →
                                                                                    (((bool01 (decide (134217728 < (IntKind.wrap .i32 (2 * y1087))))) ≠ 0 →
                                                                                     (((bool01 ((F' 4 (IntKind.wrap .i32 (2 * y1086)) (IntKind.wrap .i32 (2 * y1087)) 0) == (F' 4 a0 a1 0))) ≠ 0 →
                                                                                      (1 : Int) ≠ 0) ∧ ((bool01 ((F' 4 (IntKind.wrap .i32 (2 * y1086)) (IntKind.wrap .i32 (2 * y1087)) 0) == (F' 4 a0 a1 0))) = 0 →
                                                                                      (0 : Int) ≠ 0))) ∧ ((bool01 (decide (134217728 < (IntKind.wrap .i32 (2 * y1087))))) = 0 →
                                                                                     ∀ y1098 : Int, y1098 = (IntKind.wrap .i32 (2 * (IntKind.wrap .i32 (2 * y1086)))) → (-2147483648 ≤ y1098 ∧ y1098 ≤ 2147483647) →
                                                                                     ∀ y1099 : Int, y1099 = (IntKind.wrap .i32 (2 * (IntKind.wrap .i32 (2 * y1087)))) → (-2147483648 ≤ y1099 ∧ y1099 ≤ 2147483647) →
                                                                                     (((bool01 (decide (16 < (BO.ev .rem .i64 a2 20)))) ≠ 0 →
                                                                                      (((bool01 (decide (y1098 < (-134217728)))) ≠ 0 →
                                                                                       (((bool01 ((F' 4 y1098 y1099 0) == (F' 4 a0 a1 0))) ≠ 0 →
                                                                                        (1 : Int) ≠ 0) ∧ ((bool01 ((F' 4 y1098 y1099 0) == (F' 4 a0 a1 0))) = 0 →
                                                                                        (0 : Int) ≠ 0))) ∧ ((bool01 (decide (y1098 < (-134217728)))) = 0 →
                                                                                       (((bool01 (decide (134217728 < y1098))) ≠ 0 →
                                                                                        (((bool01 ((F' 4 y1098 y1099 0) == (F' 4 a0 a1 0))) ≠ 0 →
                                                                                         (1 : Int) ≠ 0) ∧ ((bool01 ((F' 4 y1098 y1099 0) == (F' 4 a0 a1 0))) = 0 →
                                                                                         (0 : Int) ≠ 0))) ∧ ((bool01 (decide (134217728 < y1098))) = 0 →
                                                                                        (((bool01 (decide (y1099 < (-134217728)))) ≠ 0 →
                                                                                         (((bool01 ((F' 4 y1098 y1099 0) == (F' 4 a0 a1 0))) ≠ 0 →
                                                                                          (1 : Int) ≠ 0) ∧ ((bool01 ((F' 4 y1098 y1099 0) == (F' 4 a0 a1 0))) = 0 →
                                                                                          (0 : Int) ≠ 0))) ∧ ((bool01 (decide (y1099 < (-134217728)))) = 0 →
                                                                                         (((bool01 (decide (134217728 < y1099))) ≠ 0 →
                                                                                          (((bool01 ((F' 4 y1098 y1099 0) == (F' 4 a0 a1 0))) ≠ 0 →
                                                                                           (1 : Int) ≠ 0) ∧ ((bool01 ((F' 4 y1098 y1099 0) == (F' 4 a0 a1 0))) = 0 →
                                                                                           (0 : Int) ≠ 0))) ∧ ((bool01 (decide (134217728 < y1099))) = 0 →
                                                                                          (((bool01 (decide (17 < (BO.ev .rem .i64 a2 20)))) ≠ 0 →
                                                                                           (((bool01 (decide ((IntKind.wrap .i32 (2 * y1098)) < (-134217728)))) ≠ 0 →
                                                                                            (((bool01 ((F' 4 (IntKind.wrap .i32 (2 * y1098)) (IntKind.wrap .i32 (2 * y1099)) 0) == (F' 4 a0 a1 0))) ≠ 0 →
                                                                                             (1 : Int) ≠ 0) ∧ ((bool01 ((F' 4 (IntKind.wrap .i32 (2 * y1098)) (IntKind.wrap .i32 (2 * y1099)) 0) == (F' 4 a0 a1 0))) = 0 →
                                                                                             (0 : Int) ≠ 0))) ∧ ((bool01 (decide ((IntKind.wrap .i32 (2 * y1098)) < (-134217728)))) = 0 →
                                                                                            (((bool01 (decide (134217728 < (IntKind.wrap .i32 (2 * y1098))))) ≠ 0 →
                                                                                             (((bool01 ((F' 4 (IntKind.wrap .i32 (2 * y1098)) (IntKind.wrap .i32 (2 * y1099)) 0) == (F' 4 a0 a1 0))) ≠ 0 →
                                                                                              (1 : Int) ≠ 0) ∧ ((bool01 ((F' 4 (IntKind.wrap .i32 (2 * y1098)) (IntKind.wrap .i32 (2 * y1099)) 0) == (F' 4 a0 a1 0))) = 0 →
                                                                                              (0 : Int) ≠ 0))) ∧ ((bool01 (decide (134217728 < (IntKind.wrap .i32 (2 * y1098))))) = 0 →
                                                                                             (((bool01 (decide ((IntKind.wrap .i32 (2 * y1099)) < (-134217728)))) ≠ 0 →
                                                                                              (((bool01 ((F' 4 (IntKind.wrap .i32 (2 * y1098)) (IntKind.wrap .i32 (2 * y1099)) 0) == (F' 4 a0 a1 0))) ≠ 0 →
                                                                                               (1 : Int) ≠ 0) ∧ ((bool01 ((F' 4 (IntKind.wrap .i32 (2 * y1098)) (IntKind.wrap .i32 (2 * y1099)) 0) == (F' 4 a0 a1 0))) = 0 →
                                                                                               (0 : Int) ≠ 0))) ∧ ((bool01 (decide ((IntKind.wrap .i32 (2 * y1099)) < (-134217728)))) = 0 →
                                                                                              (((bool01 (decide (134217728 < (IntKind.wrap .i32 (2 * y1099))))) ≠ 0 →
                                                                                               (((bool01 ((F' 4 (IntKind.wrap .i32 (2 * y1098)) (IntKind.wrap .i32 (2 * y1099)) 0) == (F' 4 a0 a1 0))) ≠ 0 →
                                                                                                (1 : Int) ≠ 0) ∧ ((bool01 ((F' 4 (IntKind.wrap .i32 (2 * y1098)) (IntKind.wrap .i32 (2 * y1099)) 0) == (F' 4 a0 a1 0))) = 0 →
                                                                                                (0 : Int) ≠ 0))) ∧ ((bool01 (decide (134217728 < (IntKind.wrap .i32 (2 * y1099))))) = 0 →
                                                                                               ∀ y1110 : Int, y1110 = (IntKind.wrap .i32 (2 * (IntKind.wrap .i32 (2 * y1098)))) → (-2147483648 ≤ y1110 ∧ y1110 ≤ 2147483647) →
                                                                                               ∀ y1111 : Int, y1111 = (IntKind.wrap .i32 (2 * (IntKind.wrap .i32 (2 * y1099)))) → (-2147483648 ≤ y1111 ∧ y1111 ≤ 2147483647) →
                                                                                               (((bool01 (decide (18 < (BO.ev .rem .i64 a2 20)))) ≠ 0 →
                                                                                                (((bool01 (decide (y1110 < (-134217728)))) ≠ 0 →
                                                                                                 (((bool01 ((F' 4 y1110 y1111 0) == (F' 4 a0 a1 0))) ≠ 0 →
                                                                                                  (1 : Int) ≠ 0) ∧ ((bool01 ((F' 4 y1110 y1111 0) == (F' 4 a0 a1 0))) = 0 →
                                                                                                  (0 : Int) ≠ 0))) ∧ ((bool01 (decide (y1110 < (-134217728)))) = 0 →
                                                                                                 (((bool01 (decide (134217728 < y1110))) ≠ 0 →
                                                                                                  (((bool01 ((F' 4 y1110 y1111 0) == (F' 4 a0 a1 0))) ≠ 0 →
                                                                                                   (1 : Int) ≠ 0) ∧ ((bool01 ((F' 4 y1110 y1111 0) == (F' 4 a0 a1 0))) = 0 →
                                                                                                   (0 : Int) ≠ 0))) ∧ ((bool01 (decide (134217728 < y1110))) = 0 →
                                                                                                  (((bool01 (decide (y1111 < (-134217728)))) ≠ 0 →
                                                                                                   (((bool01 ((F' 4 y1110 y1111 0) == (F' 4 a0 a1 0))) ≠ 0 →
                                                                                                    (1 : Int) ≠ 0) ∧ ((bool01 ((F' 4 y1110 y1111 0) == (F' 4 a0 a1 0))) = 0 →
                                                                                                    (0 : Int) ≠ 0))) ∧ ((bool01 (decide (y1111 < (-134217728)))) = 0 →
                                                                                                   (((bool01 (decide (134217728 < y1111))) ≠ 0 →
                                                                                                    (((bool01 ((F' 4 y1110 y1111 0) == (F' 4 a0 a1 0))) ≠ 0 →
                                                                                                     (1 : Int) ≠ 0) ∧ ((bool01 ((F' 4 y1110 y1111 0) == (F' 4 a0 a1 0))) = 0 →
                                                                                                     (0 : Int) ≠ 0))) ∧ ((bool01 (decide (134217728 < y1111))) = 0 →
                                                                                                    (((bool01 ((F' 4 (IntKind.wrap .i32 (2 * y1110)) (IntKind.wrap .i32 (2 * y1111)) 0) == (F' 4 a0 a1 0))) ≠ 0 →
                                                                                                     (1 : Int) ≠ 0) ∧ ((bool01 ((F' 4 (IntKind.wrap .i32 (2 * y1110)) (IntKind.wrap .i32 (2 * y1111)) 0) == (F' 4 a0 a1 0))) = 0 →
                                                                                                     (0 : Int) ≠ 0))))))))))) ∧ ((bool01 (decide (18 < (BO.ev .rem .i64 a2 20)))) = 0 →
                                                                                                (((bool01 ((F' 4 y1110 y1111 0) == (F' 4 a0 a1 0))) ≠ 0 →
                                                                                                 (1 : Int) ≠ 0) ∧ ((bool01 ((F' 4 y1110 y1111 0) == (F' 4 a0 a1 0))) = 0 →
                                                                                                 (0 : Int) ≠ 0))))))))))))) ∧ ((bool01 (decide (17 < (BO.ev .rem .i64 a2 20)))) = 0 →
                                                                                           (((bool01 ((F' 4 (IntKind.wrap .i32 (2 * y1098)) (IntKind.wrap .i32 (2 * y1099)) 0) == (F' 4 a0 a1 0))) ≠ 0 →
                                                                                            (1 : Int) ≠ 0) ∧ ((bool01 ((F' 4 (IntKind.wrap .i32 (2 * y1098)) (IntKind.wrap .i32 (2 * y1099)) 0) == (F' 4 a0 a1 0))) = 0 →
                                                                                            (0 : Int) ≠ 0))))))))))))) ∧ ((bool01 (decide (16 < (BO.ev .rem .i64 a2 20)))) = 0 →
                                                                                      (((bool01 ((F' 4 y1098 y1099 0) == (F' 4 a0 a1 0))) ≠ 0 →
                                                                                       (1 : Int) ≠ 0) ∧ ((bool01 ((F' 4 y1098 y1099 0) == (F' 4 a0 a1 0))) = 0 →
                                                                                       (0 : Int) ≠ 0))))))))))))) ∧ ((bool01 (decide (15 < (BO.ev .rem .i64 a2 20)))) = 0 →
                                                                                 (((bool01 ((F' 4 (IntKind.wrap .i32 (2 * y1086)) (IntKind.wrap .i32 (2 * y1087)) 0) == (F' 4 a0 a1 0))) ≠ 0 →
                                                                                  (1 : Int) ≠ 0) ∧ ((bool01 ((F' 4 (IntKind.wrap .i32 (2 * y1086)) (IntKind.wrap .i32 (2 * y1087)) 0) == (F' 4 a0 a1 0))) = 0 →
                                                                                  (0 : Int) ≠ 0))))))))))))) ∧ ((bool01 (decide (14 < (BO.ev .rem .i64 a2 20)))) = 0 →
                                                                            (((bool01 ((F' 4 y1086 y1087 0) == (F' 4 a0 a1 0))) ≠ 0 →
                                                                             (1 : Int) ≠ 0) ∧ ((bool01 ((F' 4 y1086 y1087 0) == (F' 4 a0 a1 0))) = 0 →
                                                                             (0 : Int) ≠ 0))))))))))))) ∧ ((bool01 (decide (13 < (BO.ev .rem .i64 a2 20)))) = 0 →
                                                                       (((bool01 ((F' 4 (IntKind.wrap .i32 (2 * y1074)) (IntKind.wrap .i32 (2 * y1075)) 0) == (F' 4 a0 a1 0))) ≠ 0 →
                                                                        (1 : Int) ≠ 0) ∧ ((bool01 ((F' 4 (IntKind.wrap .i32 (2 * y1074)) (IntKind.wrap .i32 (2 * y1075)) 0) == (F' 4 a0 a1 0))) = 0 →
                                                                        (0 : Int) ≠ 0))))))))))))) ∧ ((bool01 (decide (12 < (BO.ev .rem .i64 a2 20)))) = 0 →
                                                                  (((bool01 ((F' 4 y1074 y1075 0) == (F' 4 a0 a1 0))) ≠ 0 →
                                                                   (1 : Int) ≠ 0) ∧ ((bool01 ((F' 4 y1074 y1075 0) == (F' 4 a0 a1 0))) = 0 →
                                                                   (0 : Int) ≠ 0))))))))))))) ∧ ((bool01 (decide (11 < (BO.ev .rem .i64 a2 20)))) = 0 →
                                                             (((bool01 ((F' 4 (IntKind.wrap .i32 (2 * y1062)) (IntKind.wrap .i32 (2 * y1063)) 0) == (F' 4 a0 a1 0))) ≠ 0 →
                                                              (1 : Int) ≠ 0) ∧ ((bool01 ((F' 4 (IntKind.wrap .i32 (2 * y1062)) (IntKind.wrap .i32 (2 * y1063)) 0) == (F' 4 a0 a1 0))) = 0 →
                                                              (0 : Int) ≠ 0))))))))))))) ∧ ((bool01 (decide (10 < (BO.ev .rem .i64 a2 20)))) = 0 →
                                                        (((bool01 ((F' 4 y1062 y1063 0) == (F' 4 a0 a1 0))) ≠ 0 →
                                                         (1 : Int) ≠ 0) ∧ ((bool01 ((F' 4 y1062 y1063 0) == (F' 4 a0 a1 0))) = 0 →
                                                         (0 : Int) ≠ 0))))))))))))) ∧ ((bool01 (decide (9 < (BO.ev .rem .i64 a2 20)))) = 0 →
                                                   (((bool01 ((F' 4 (IntKind.wrap .i32 (2 * y1050)) (IntKind.wrap .i32 (2 * y1051)) 0) == (F' 4 a0 a1 0))) ≠ 0 →
                                                    (1 : Int) ≠ 0) ∧ ((bool01 ((F' 4 (IntKind.wrap .i32 (2 * y1050)) (IntKind.wrap .i32 (2 * y1051)) 0) == (F' 4 a0 a1 0))) = 0 →
                                                    (0 : Int) ≠ 0))))))))))))) ∧ ((bool01 (decide (8 < (BO.ev .rem .i64 a2 20)))) = 0 →
                                              (((bool01 ((F' 4 y1050 y1051 0) == (F' 4 a0 a1 0))) ≠ 0 →
                                               (1 : Int) ≠ 0) ∧ ((bool01 ((F' 4 y1050 y1051 0) == (F' 4 a0 a1 0))) = 0 →
                                               (0 : Int) ≠ 0))))))))))))) ∧ ((bool01 (decide (7 < (BO.ev .rem .i64 a2 20)))) = 0 →
                                         (((bool01 ((F' 4 (IntKind.wrap .i32 (2 * y1038)) (IntKind.wrap .i32 (2 * y1039)) 0) == (F' 4 a0 a1 0))) ≠ 0 →
                                          (1 : Int) ≠ 0) ∧ ((bool01 ((F' 4 (IntKind.wrap .i32 (2 * y1038)) (IntKind.wrap .i32 (2 * y1039)) 0) == (F' 4 a0 a1 0))) = 0 →
                                          (0 : Int) ≠ 0))))))))))))) ∧ ((bool01 (decide (6 < (BO.ev .rem .i64 a2 20)))) = 0 →
                                    (((bool01 ((F' 4 y1038 y1039 0) == (F' 4 a0 a1 0))) ≠ 0 →
                                     (1 : Int) ≠ 0) ∧ ((bool01 ((F' 4 y1038 y1039 0) == (F' 4 a0 a1 0))) = 0 →
                                     (0 : Int) ≠ 0))))))))))))) ∧ ((bool01 (decide (5 < (BO.ev .rem .i64 a2 20)))) = 0 →
                               (((bool01 ((F' 4 (IntKind.wrap .i32 (2 * y1026)) (IntKind.wrap .i32 (2 * y1027)) 0) == (F' 4 a0 a1 0))) ≠ 0 →
                                (1 : Int) ≠ 0) ∧ ((bool01 ((F' 4 (IntKind.wrap .i32 (2 * y1026)) (IntKind.wrap .i32 (2 * y1027)) 0) == (F' 4 a0 a1 0))) = 0 →
                                (0 : Int) ≠ 0))))))))))))) ∧ ((bool01 (decide (4 < (BO.ev .rem .i64 a2 20)))) = 0 →
                          (((bool01 ((F' 4 y1026 y1027 0) == (F' 4 a0 a1 0))) ≠ 0 →
                           (1 : Int) ≠ 0) ∧ ((bool01 ((F' 4 y1026 y1027 0) == (F' 4 a0 a1 0))) = 0 →
                           (0 : Int) ≠ 0))))))))))))) ∧ ((bool01 (decide (3 < (BO.ev .rem .i64 a2 20)))) = 0 →
                     (((bool01 ((F' 4 (IntKind.wrap .i32 (2 * y1014)) (IntKind.wrap .i32 (2 * y1015)) 0) == (F' 4 a0 a1 0))) ≠ 0 →
                      (1 : Int) ≠ 0) ∧ ((bool01 ((F' 4 (IntKind.wrap .i32 (2 * y1014)) (IntKind.wrap .i32 (2 * y1015)) 0) == (F' 4 a0 a1 0))) = 0 →
                      (0 : Int) ≠ 0))))))))))))) ∧ ((bool01 (decide (2 < (BO.ev .rem .i64 a2 20)))) = 0 →
                (((bool01 ((F' 4 y1014 y1015 0) == (F' 4 a0 a1 0))) ≠ 0 →
                 (1 : Int) ≠ 0) ∧ ((bool01 ((F' 4 y1014 y1015 0) == (F' 4 a0 a1 0))) = 0 →
                 (0 : Int) ≠ 0))))))))))))) ∧ ((bool01 (decide (1 < (BO.ev .rem .i64 a2 20)))) = 0 →
           (((bool01 ((F' 4 (IntKind.wrap .i32 (2 * a0)) (IntKind.wrap .i32 (2 * a1)) 0) == (F' 4 a0 a1 0))) ≠ 0 →
            (1 : Int) ≠ 0) ∧ ((bool01 ((F' 4 (IntKind.wrap .i32 (2 * a0)) (IntKind.wrap .i32 (2 * a1)) 0) == (F' 4 a0 a1 0))) = 0 →
            (0 : Int) ≠ 0))))))))))))) ∧ ((bool01 (decide (0 < (BO.ev .rem .i64 a2 20)))) = 0 →
      (1 : Int) ≠ 0))))))))))

theorem plain (a0 a1 a2 : Int) : T.holdsP cxL (envL [a0, a1, a2]) tree = P a0 a1 a2 := by kernel_rfl
theorem both {a b : Int} (h : a = b) : ((bool01 (a == b)) ≠ 0 → (1 : Int) ≠ 0) ∧ ((bool01 (a == b)) = 0 → (0 : Int) ≠ 0) :=
  ⟨fun _ => by decide, fun h' => by simp [bool01, h] at h'⟩
theorem step {y x a b : Int} (g1 : bool01 (decide (y < (-134217728))) = 0) (g2 : bool01 (decide (134217728 < y)) = 0) (g3 : bool01 (decide (x < (-134217728))) = 0) (g4 : bool01 (decide (134217728 < x)) = 0)
    (h : F' 4 y x 0 = F' 4 a b 0) : F' 4 (IntKind.wrap .i32 (2 * y)) (IntKind.wrap .i32 (2 * x)) 0 = F' 4 a b 0 := by
  rw [b01_eq] at g1 g2 g3 g4
  rw [wrap_id (by omega) (by omega), wrap_id (by omega) (by omega), ← h]
  have e := scale y x (by omega) (by omega) (by omega) (by omega)
  show (fn0 (2 * y) (2 * x)).getD 0 0 = (fn0 y x).getD 0 0
  rw [e]
theorem holds (a0 a1 a2 : Int) : P a0 a1 a2 := by
  unfold P
  refine ⟨fun _ => by decide, fun _ => ⟨fun _ => by decide, fun _ => ⟨fun _ => by decide, fun _ => ⟨fun _ => by decide, fun _ => ?_⟩⟩⟩⟩
  refine ⟨fun _ => ?_, fun _ => by decide⟩
  have E0 : F' 4 a0 a1 0 = F' 4 a0 a1 0 := rfl
  refine ⟨fun _ => by decide, fun g1 => ⟨fun _ => by decide, fun g2 => ⟨fun _ => by decide, fun g3 => ⟨fun _ => by decide, fun g4 => ?_⟩⟩⟩⟩
  have E1 := step g1 g2 g3 g4 E0
  clear g1 g2 g3 g4
  refine ⟨fun _ => ?_, fun _ => both E1⟩
  refine ⟨fun _ => both E1, fun g1 => ⟨fun _ => both E1, fun g2 => ⟨fun _ => both E1, fun g3 => ⟨fun _ => both E1, fun g4 => ?_⟩⟩⟩⟩
  have E2 := step g1 g2 g3 g4 E1
  clear g1 g2 g3 g4
  intro y1014 e1014 _ y1015 e1015 _
  rw [← e1014, ← e1015] at E2
  refine ⟨fun _ => ?_, fun _ => both E2⟩
  refine ⟨fun _ => both E2, fun g1 => ⟨fun _ => both E2, fun g2 => ⟨fun _ => both E2, fun g3 => ⟨fun _ => both E2, fun g4 => ?_⟩⟩⟩⟩
  have E3 := step g1 g2 g3 g4 E2
  clear g1 g2 g3 g4
  refine ⟨fun _ => ?_, fun _ => both E3⟩
  refine ⟨fun _ => both E3, fun g1 => ⟨fun _ => both E3, fun g2 => ⟨fun _ => both E3, fun g3 => ⟨fun _ => both E3, fun g4 => ?_⟩⟩⟩⟩
  have E4 := step g1 g2 g3 g4 E3
  clear g1 g2 g3 g4
  intro y1026 e1026 _ y1027 e1027 _
  rw [← e1026, ← e1027] at E4
  refine ⟨fun _ => ?_, fun _ => both E4⟩
  refine ⟨fun _ => both E4, fun g1 => ⟨fun _ => both E4, fun g2 => ⟨fun _ => both E4, fun g3 => ⟨fun _ => both E4, fun g4 => ?_⟩⟩⟩⟩
  have E5 := step g1 g2 g3 g4 E4
  clear g1 g2 g3 g4
  refine ⟨fun _ => ?_, fun _ => both E5⟩
  refine ⟨fun _ => both E5, fun g1 => ⟨fun _ => both E5, fun g2 => ⟨fun _ => both E5, fun g3 => ⟨fun _ => both E5, fun g4 => ?_⟩⟩⟩⟩
  have E6 := step g1 g2 g3 g4 E5
  clear g1 g2 g3 g4
  intro y1038 e1038 _ y1039 e1039 _
  rw [← e1038, ← e1039] at E6
  refine ⟨fun _ => ?_, fun _ => both E6⟩
  refine ⟨fun _ => both E6, fun g1 => ⟨fun _ => both E6, fun g2 => ⟨fun _ => both E6, fun g3 => ⟨fun _ => both E6, fun g4 => ?_⟩⟩⟩⟩
  have E7 := step g1 g2 g3 g4 E6
  clear g1 g2 g3 g4
  refine ⟨fun _ => ?_, fun _ => both E7⟩
  refine ⟨fun _ => both E7, fun g1 => ⟨fun _ => both E7, fun g2 => ⟨fun _ => both E7, fun g3 => ⟨fun _ => both E7, fun g4 => ?_⟩⟩⟩⟩
  have E8 := step g1 g2 g3 g4 E7
  clear g1 g2 g3 g4
  intro y1050 e1050 _ y1051 e1051 _
  rw [← e1050, ← e1051] at E8
  refine ⟨fun _ => ?_, fun _ => both E8⟩
  refine ⟨fun _ => both E8, fun g1 => ⟨fun _ => both E8, fun g2 => ⟨fun _ => both E8, fun g3 => ⟨fun _ => both E8, fun g4 => ?_⟩⟩⟩⟩
  have E9 := step g1 g2 g3 g4 E8
  clear g1 g2 g3 g4
  refine ⟨fun _ => ?_, fun _ => both E9⟩
  refine ⟨fun _ => both E9, fun g1 => ⟨fun _ => both E9, fun g2 => ⟨fun _ => both E9, fun g3 => ⟨fun _ => both E9, fun g4 => ?_⟩⟩⟩⟩
  have E10 := step g1 g2 g3 g4 E9
  clear g1 g2 g3 g4
  intro y1062 e1062 _ y1063 e1063 _
  rw [← e1062, ← e1063] at E10
  refine ⟨fun _ => ?_, fun _ => both E10⟩
  refine ⟨fun _ => both E10, fun g1 => ⟨fun _ => both E10, fun g2 => ⟨fun _ => both E10, fun g3 => ⟨fun _ => both E10, fun g4 => ?_⟩⟩⟩⟩
  have E11 := step g1 g2 g3 g4 E10
  clear g1 g2 g3 g4
  refine ⟨fun _ => ?_, fun _ => both E11⟩
  refine ⟨fun _ => both E11, fun g1 => ⟨fun _ => both E11, fun g2 => ⟨fun _ => both E11, fun g3 => ⟨fun _ => both E11, fun g4 => ?_⟩⟩⟩⟩
  have E12 := step g1 g2 g3 g4 E11
  clear g1 g2 g3 g4
  intro y1074 e1074 _ y1075 e1075 _
  rw [← e1074, ← e1075] at E12
  refine ⟨fun _ => ?_, fun _ => both E12⟩
  refine ⟨fun _ => both E12, fun g1 => ⟨fun _ => both E12, fun g2 => ⟨fun _ => both E12, fun g3 => ⟨fun _ => both E12, fun g4 => ?_⟩⟩⟩⟩
  have E13 := step g1 g2 g3 g4 E12
  clear g1 g2 g3 g4
  refine ⟨fun _ => ?_, fun _ => both E13⟩
  refine ⟨fun _ => both E13, fun g1 => ⟨fun _ => both E13, fun g2 => ⟨fun _ => both E13, fun g3 => ⟨fun _ => both E13, fun g4 => ?_⟩⟩⟩⟩
  have E14 := step g1 g2 g3 g4 E13
  clear g1 g2 g3 g4
  intro y1086 e1086 _ y1087 e1087 _
  rw [← e1086, ← e1087] at E14
  refine ⟨fun _ => ?_, fun _ => both E14⟩
  refine ⟨fun _ => both E14, fun g1 => ⟨fun _ => both E14, fun g2 => ⟨fun _ => both E14, fun g3 => ⟨fun _ => both E14, fun g4 => ?_⟩⟩⟩⟩
  have E15 := step g1 g2 g3 g4 E14
  clear g1 g2 g3 g4
  refine ⟨fun _ => ?_, fun _ => both E15⟩
  refine ⟨fun _ => both E15, fun g1 => ⟨fun _ => both E15, fun g2 => ⟨fun _ => both E15, fun g3 => ⟨fun _ => both E15, fun g4 => ?_⟩⟩⟩⟩
  have E16 := step g1 g2 g3 g4 E15
  clear g1 g2 g3 g4
  intro y1098 e1098 _ y1099 e1099 _
  rw [← e1098, ← e1099] at E16
  refine ⟨fun _ => ?_, fun _ => both E16⟩
  refine ⟨fun _ => both E16, fun g1 => ⟨fun _ => both E16, fun g2 => ⟨fun _ => both E16, fun g3 => ⟨fun _ => both E16, fun g4 => ?_⟩⟩⟩⟩
  have E17 := step g1 g2 g3 g4 E16
  clear g1 g2 g3 g4
  refine ⟨fun _ => ?_, fun _ => both E17⟩
  refine ⟨fun _ => both E17, fun g1 => ⟨fun _ => both E17, fun g2 => ⟨fun _ => both E17, fun g3 => ⟨fun _ => both E17, fun g4 => ?_⟩⟩⟩⟩
  have E18 := step g1 g2 g3 g4 E17
  clear g1 g2 g3 g4
  intro y1110 e1110 _ y1111 e1111 _
  rw [← e1110, ← e1111] at E18
  refine ⟨fun _ => ?_, fun _ => both E18⟩
  refine ⟨fun _ => both E18, fun g1 => ⟨fun _ => both E18, fun g2 => ⟨fun _ => both E18, fun g3 => ⟨fun _ => both E18, fun g4 => ?_⟩⟩⟩⟩
  have E19 := step g1 g2 g3 g4 E18
  clear g1 g2 g3 g4
  exact both E19
theorem ran : T.beq (projB (runL 12 [.int .i32 (.v 0), .int .i32 (.v 1), .int .u8 (.v 2)] ⟨[], []⟩)) tree = true := by kernel_rfl
theorem fineT : (Nat.ble cxL.Γ.length 1000 && T.fine 1000 tree && SV.vbL 1000 [.int .i32 (.v 0), .int .i32 (.v 1), .int .u8 (.v 2)]) = true := by kernel_rfl
theorem tidyT : T.tidy cxL [] tree = true := by kernel_rfl
theorem walk (a0 a1 a2 : Int) (w0 : (Lit.int .i32 a0).wf = true) (w1 : (Lit.int .i32 a1).wf = true) (w2 : (Lit.int .u8 a2).wf = true) (w : World) :
    Calls Try.prog 12 #[.int .i32 a0, .int .i32 a1, .int .u8 a2] w fun e w' => e = .returned (.bool true) ∧ Below w.heap.size w w' :=
  truthP_of runL_ok (ρ := envL [a0, a1, a2]) (envL_ok (bnd_cons (wf_bd w0) (bnd_cons (wf_bd w1) (bnd_cons (wf_bd w2) (bnd_nil _))))) (f := 12) (args := [.int .i32 (.v 0), .int .i32 (.v 1), .int .u8 (.v 2)]) (t := tree) ran (by rw [fineT, tidyT]; rfl)
    (by rw [plain]; exact holds a0 a1 a2) rfl w

/-! ### the row's step -/
set_option maxRecDepth 100000
theorem lifted (os : Os) (started : os.Started) (H : Type) (enc : TypeId × Value → H) :
    ReturnsInHanded {} Try.checked os 12 .any (Rows.turnScalesSpec.pre6 enc Try.prog Try.f12 Rows.turnScalesRow.domain false) (Rows.turnScalesSpec.post enc Try.prog Try.f12 false true false false) := by
  refine returnsInHanded_of_change (C := Try.checked) own started (by kernel_rfl) Try.func12
    (ChangeSpec.witness6 (enc := enc) (C := Try.checked) false ⟨#[], #[.int .i32 0, .int .i32 0, .int .u8 0], []⟩ 8 (by kernel_rfl) (by kernel_rfl) (by kernel_rfl) (by kernel_rfl)) ?_
  intro W base args ds gs before hval0 hW hcnd _
  have hval : ∀ (j : Nat) t v, Try.f12.params[j]? = some t → args[j]? = some v → Value.okWide Try.prog W .any base t v := hval0
  have hW' := hW
  obtain ⟨p, q, hA0, hV, rfl, hfz, hnd⟩ := hW
  have hA : DataW.TrodAll enc Try.prog W 0 (fun _ => true) true Try.f12.params.toList args.toList ds p := hA0
  rw [Try.params12] at hA hval
  obtain ⟨v0, vs0, d0, ds0, p0, q0, hargs, rfl, rfl, h0, r0⟩ := trodAll_cons hA
  obtain ⟨v1, vs1, d1, ds1, p1, q1, rfl, rfl, rfl, h1, r1⟩ := trodAll_cons r0
  obtain ⟨v2, vs2, d2, ds2, p2, q2, rfl, rfl, rfl, h2, r2⟩ := trodAll_cons r1
  obtain ⟨rfl, rfl, rfl⟩ := trodAll_nil r2
  obtain rfl : args = #[v0, v1, v2] := by cases args; simp_all
  obtain ⟨rfl, rfl⟩ := trodVars_none hV
  obtain ⟨a0, rfl, rfl, rfl, w0⟩ := open_int Try.underlying21 (hval 0 21 v0 rfl rfl) h0
  obtain ⟨a1, rfl, rfl, rfl, w1⟩ := open_int Try.underlying21 (hval 1 21 v1 rfl rfl) h1
  obtain ⟨a2, rfl, rfl, rfl, w2⟩ := open_int Try.underlying5 (hval 2 5 v2 rfl rfl) h2
  clear hA0 hval0
  simp only [List.append_nil] at hW'
  refine (walk a0 a1 a2 w0 w1 w2 W).mono fun e W' ⟨he, hg⟩ => ?_
  subst he
  exact ⟨_, rfl, post_below (pa := []) (pv := []) hW' hg (fun _ _ _ => (trodAll_cons_mk (shut_bool Try.underlying4 _) trodAll_mk0)) (fun sp _ => (trodAll_cons_mk (shut_int Try.underlying21 w0) (trodAll_cons_mk (shut_int Try.underlying21 w1) (trodAll_cons_mk (shut_int Try.underlying5 w2) trodAll_mk0)))) (fun _ _ => rfl) rfl
    (ok_one (by kernel_rfl) rfl (okWide_bool_mk Try.underlying4 _))⟩

theorem over : Rows.turnScalesRow.holds Try.pinned (OpenSpec.ofChange Rows.turnScalesSpec) :=
  OpenClaim.holds_of_wide 12 Try.f12 rfl rfl rfl rfl rfl rfl rfl ⟨rfl, rfl, rfl, rfl, rfl⟩ rfl rfl rfl rfl rfl (by kernel_rfl) Try.func12 (by kernel_rfl)
    (of_decide_eq_true (by kernel_rfl)) (by unfold Func.isWrapper; first | (rw [if_pos (by decide +kernel)]; kernel_rfl) | (rw [if_neg (by decide +kernel)]; exact ⟨rfl, rfl⟩))
    (fun os started H enc _ => lifted os started H enc)

/-- the statement -/
theorem proved : Rows.TurnScalesSaid :=
  over
#print axioms proved
end Go.Proofs.Ytjooaieolphomaa.turnScales
