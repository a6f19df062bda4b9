/-
  The law QuatTurns answers true at every input: the law's function is run by the engine (a program's symbolic run, proved sound), and the tree of its answers, as a plain statement, is shown to hold. No condition.
-/
import Derived.Test.YtjooaieolphomaaRows
import Derived.Test.YtjooaieolphomaaTmAc
import Derived.Test.YtjooaieolphomaaEngT
import Derived.Test.YtjooaieolphomaaPlG
import Derived.WalkKit
import Derived.ProofKit
import Derived.OpenShut
namespace Go.Proofs.Ytjooaieolphomaa.quatTurns
open Go.ChangeShapes Go.WideShapes Go.ChangeAt Go.RowKit
open Go.Eng
set_option linter.unusedVariables false
set_option linter.unusedSimpArgs false

theorem own : ownKnob Try.prog.godebug = none := by kernel_rfl

set_option maxRecDepth 100000 in
def tree : T E :=
(.br (.b .lt .i64 (.v 0) (.c (-536870912)))
  (.leaf (.c 1))
  (.br (.b .lt .i64 (.c 536870912) (.v 0))
  (.leaf (.c 1))
  (.br (.b .lt .i64 (.v 4) (.c (-536870912)))
  (.leaf (.c 1))
  (.br (.b .lt .i64 (.c 536870912) (.v 4))
  (.leaf (.c 1))
  (.br (.b .lt .i64 (.v 1) (.c (-536870912)))
  (.leaf (.c 1))
  (.br (.b .lt .i64 (.c 536870912) (.v 1))
  (.leaf (.c 1))
  (.br (.b .lt .i64 (.v 5) (.c (-536870912)))
  (.leaf (.c 1))
  (.br (.b .lt .i64 (.c 536870912) (.v 5))
  (.leaf (.c 1))
  (.br (.b .lt .i64 (.v 2) (.c (-536870912)))
  (.leaf (.c 1))
  (.br (.b .lt .i64 (.c 536870912) (.v 2))
  (.leaf (.c 1))
  (.br (.b .lt .i64 (.v 6) (.c (-536870912)))
  (.leaf (.c 1))
  (.br (.b .lt .i64 (.c 536870912) (.v 6))
  (.leaf (.c 1))
  (.br (.b .lt .i64 (.v 3) (.c (-536870912)))
  (.leaf (.c 1))
  (.br (.b .lt .i64 (.c 536870912) (.v 3))
  (.leaf (.c 1))
  (.br (.b .lt .i64 (.v 7) (.c (-536870912)))
  (.leaf (.c 1))
  (.br (.b .lt .i64 (.c 536870912) (.v 7))
  (.leaf (.c 1))
  (.new 1016 (.b .psub .i64 (.c 0) (.b .min .i64 (.b .psub .i64 (.c 0) (.v 1)) (.c 2147483647)))
  (.new 1017 (.b .psub .i64 (.c 0) (.b .min .i64 (.b .psub .i64 (.c 0) (.v 2)) (.c 2147483647)))
  (.new 1018 (.b .psub .i64 (.c 0) (.b .min .i64 (.b .psub .i64 (.c 0) (.v 3)) (.c 2147483647)))
  (.br (.nt (.ite (.b .eq .i64 (.cl 1016 (-2147483647) 2147483647) (.v 1)) (.ite (.b .eq .i64 (.cl 1017 (-2147483647) 2147483647) (.v 2)) (.ite (.b .eq .i64 (.cl 1018 (-2147483647) 2147483647) (.v 3)) (.c 1) (.c 0)) (.c 0)) (.c 0)))
  (.leaf (.c 0))
  (.new 1020 (.b .min .i64 (.b .max .i64 (.b .padd .i64 (.f 1 (.v 0) (.v 0) (.c 0)) (.f 1 (.b .min .i64 (.b .psub .i64 (.c 0) (.v 1)) (.c 2147483647)) (.b .min .i64 (.b .psub .i64 (.c 0) (.v 1)) (.c 2147483647)) (.c 0))) (.c (-2147483648))) (.c 2147483647))
  (.new 1021 (.b .min .i64 (.b .max .i64 (.b .padd .i64 (.cl 1020 (-2147483648) 2147483647) (.f 1 (.b .min .i64 (.b .psub .i64 (.c 0) (.v 2)) (.c 2147483647)) (.b .min .i64 (.b .psub .i64 (.c 0) (.v 2)) (.c 2147483647)) (.c 0))) (.c (-2147483648))) (.c 2147483647))
  (.new 1022 (.b .min .i64 (.b .max .i64 (.b .padd .i64 (.cl 1021 (-2147483648) 2147483647) (.f 1 (.b .min .i64 (.b .psub .i64 (.c 0) (.v 3)) (.c 2147483647)) (.b .min .i64 (.b .psub .i64 (.c 0) (.v 3)) (.c 2147483647)) (.c 0))) (.c (-2147483648))) (.c 2147483647))
  (.new 1023 (.b .min .i64 (.b .max .i64 (.b .padd .i64 (.f 1 (.v 0) (.v 0) (.c 0)) (.f 1 (.v 1) (.v 1) (.c 0))) (.c (-2147483648))) (.c 2147483647))
  (.new 1024 (.b .min .i64 (.b .max .i64 (.b .padd .i64 (.cl 1023 (-2147483648) 2147483647) (.f 1 (.v 2) (.v 2) (.c 0))) (.c (-2147483648))) (.c 2147483647))
  (.new 1025 (.b .min .i64 (.b .max .i64 (.b .padd .i64 (.cl 1024 (-2147483648) 2147483647) (.f 1 (.v 3) (.v 3) (.c 0))) (.c (-2147483648))) (.c 2147483647))
  (.br (.b .ne .i64 (.cl 1022 (-2147483648) 2147483647) (.cl 1025 (-2147483648) 2147483647))
  (.leaf (.c 0))
  (.new 1027 (.b .min .i64 (.b .max .i64 (.b .psub .i64 (.f 1 (.v 0) (.v 4) (.c 0)) (.f 1 (.v 1) (.v 5) (.c 0))) (.c (-2147483648))) (.c 2147483647))
  (.new 1028 (.b .min .i64 (.b .max .i64 (.b .psub .i64 (.cl 1027 (-2147483648) 2147483647) (.f 1 (.v 2) (.v 6) (.c 0))) (.c (-2147483648))) (.c 2147483647))
  (.new 1029 (.b .min .i64 (.b .max .i64 (.b .psub .i64 (.cl 1028 (-2147483648) 2147483647) (.f 1 (.v 3) (.v 7) (.c 0))) (.c (-2147483648))) (.c 2147483647))
  (.new 1030 (.b .min .i64 (.b .max .i64 (.b .padd .i64 (.f 1 (.v 0) (.v 5) (.c 0)) (.f 1 (.v 1) (.v 4) (.c 0))) (.c (-2147483648))) (.c 2147483647))
  (.new 1031 (.b .min .i64 (.b .max .i64 (.b .padd .i64 (.cl 1030 (-2147483648) 2147483647) (.f 1 (.v 2) (.v 7) (.c 0))) (.c (-2147483648))) (.c 2147483647))
  (.new 1032 (.b .min .i64 (.b .max .i64 (.b .psub .i64 (.cl 1031 (-2147483648) 2147483647) (.f 1 (.v 3) (.v 6) (.c 0))) (.c (-2147483648))) (.c 2147483647))
  (.new 1033 (.b .min .i64 (.b .max .i64 (.b .psub .i64 (.f 1 (.v 0) (.v 6) (.c 0)) (.f 1 (.v 1) (.v 7) (.c 0))) (.c (-2147483648))) (.c 2147483647))
  (.new 1034 (.b .min .i64 (.b .max .i64 (.b .padd .i64 (.cl 1033 (-2147483648) 2147483647) (.f 1 (.v 2) (.v 4) (.c 0))) (.c (-2147483648))) (.c 2147483647))
  (.new 1035 (.b .min .i64 (.b .max .i64 (.b .padd .i64 (.cl 1034 (-2147483648) 2147483647) (.f 1 (.v 3) (.v 5) (.c 0))) (.c (-2147483648))) (.c 2147483647))
  (.new 1036 (.b .min .i64 (.b .max .i64 (.b .padd .i64 (.f 1 (.v 0) (.v 7) (.c 0)) (.f 1 (.v 1) (.v 6) (.c 0))) (.c (-2147483648))) (.c 2147483647))
  (.new 1037 (.b .min .i64 (.b .max .i64 (.b .psub .i64 (.cl 1036 (-2147483648) 2147483647) (.f 1 (.v 2) (.v 5) (.c 0))) (.c (-2147483648))) (.c 2147483647))
  (.new 1038 (.b .min .i64 (.b .max .i64 (.b .padd .i64 (.cl 1037 (-2147483648) 2147483647) (.f 1 (.v 3) (.v 4) (.c 0))) (.c (-2147483648))) (.c 2147483647))
  (.new 1039 (.b .min .i64 (.b .max .i64 (.b .psub .i64 (.f 1 (.v 4) (.v 0) (.c 0)) (.f 1 (.b .min .i64 (.b .psub .i64 (.c 0) (.v 5)) (.c 2147483647)) (.b .min .i64 (.b .psub .i64 (.c 0) (.v 1)) (.c 2147483647)) (.c 0))) (.c (-2147483648))) (.c 2147483647))
  (.new 1040 (.b .min .i64 (.b .max .i64 (.b .psub .i64 (.cl 1039 (-2147483648) 2147483647) (.f 1 (.b .min .i64 (.b .psub .i64 (.c 0) (.v 6)) (.c 2147483647)) (.b .min .i64 (.b .psub .i64 (.c 0) (.v 2)) (.c 2147483647)) (.c 0))) (.c (-2147483648))) (.c 2147483647))
  (.new 1041 (.b .min .i64 (.b .max .i64 (.b .psub .i64 (.cl 1040 (-2147483648) 2147483647) (.f 1 (.b .min .i64 (.b .psub .i64 (.c 0) (.v 7)) (.c 2147483647)) (.b .min .i64 (.b .psub .i64 (.c 0) (.v 3)) (.c 2147483647)) (.c 0))) (.c (-2147483648))) (.c 2147483647))
  (.new 1042 (.b .min .i64 (.b .max .i64 (.b .padd .i64 (.f 1 (.v 4) (.b .min .i64 (.b .psub .i64 (.c 0) (.v 1)) (.c 2147483647)) (.c 0)) (.f 1 (.b .min .i64 (.b .psub .i64 (.c 0) (.v 5)) (.c 2147483647)) (.v 0) (.c 0))) (.c (-2147483648))) (.c 2147483647))
  (.new 1043 (.b .min .i64 (.b .max .i64 (.b .padd .i64 (.cl 1042 (-2147483648) 2147483647) (.f 1 (.b .min .i64 (.b .psub .i64 (.c 0) (.v 6)) (.c 2147483647)) (.b .min .i64 (.b .psub .i64 (.c 0) (.v 3)) (.c 2147483647)) (.c 0))) (.c (-2147483648))) (.c 2147483647))
  (.new 1044 (.b .min .i64 (.b .max .i64 (.b .psub .i64 (.cl 1043 (-2147483648) 2147483647) (.f 1 (.b .min .i64 (.b .psub .i64 (.c 0) (.v 7)) (.c 2147483647)) (.b .min .i64 (.b .psub .i64 (.c 0) (.v 2)) (.c 2147483647)) (.c 0))) (.c (-2147483648))) (.c 2147483647))
  (.new 1045 (.b .min .i64 (.b .max .i64 (.b .psub .i64 (.f 1 (.v 4) (.b .min .i64 (.b .psub .i64 (.c 0) (.v 2)) (.c 2147483647)) (.c 0)) (.f 1 (.b .min .i64 (.b .psub .i64 (.c 0) (.v 5)) (.c 2147483647)) (.b .min .i64 (.b .psub .i64 (.c 0) (.v 3)) (.c 2147483647)) (.c 0))) (.c (-2147483648))) (.c 2147483647))
  (.new 1046 (.b .min .i64 (.b .max .i64 (.b .padd .i64 (.cl 1045 (-2147483648) 2147483647) (.f 1 (.b .min .i64 (.b .psub .i64 (.c 0) (.v 6)) (.c 2147483647)) (.v 0) (.c 0))) (.c (-2147483648))) (.c 2147483647))
  (.new 1047 (.b .min .i64 (.b .max .i64 (.b .padd .i64 (.cl 1046 (-2147483648) 2147483647) (.f 1 (.b .min .i64 (.b .psub .i64 (.c 0) (.v 7)) (.c 2147483647)) (.b .min .i64 (.b .psub .i64 (.c 0) (.v 1)) (.c 2147483647)) (.c 0))) (.c (-2147483648))) (.c 2147483647))
  (.new 1048 (.b .min .i64 (.b .max .i64 (.b .padd .i64 (.f 1 (.v 4) (.b .min .i64 (.b .psub .i64 (.c 0) (.v 3)) (.c 2147483647)) (.c 0)) (.f 1 (.b .min .i64 (.b .psub .i64 (.c 0) (.v 5)) (.c 2147483647)) (.b .min .i64 (.b .psub .i64 (.c 0) (.v 2)) (.c 2147483647)) (.c 0))) (.c (-2147483648))) (.c 2147483647))
  (.new 1049 (.b .min .i64 (.b .max .i64 (.b .psub .i64 (.cl 1048 (-2147483648) 2147483647) (.f 1 (.b .min .i64 (.b .psub .i64 (.c 0) (.v 6)) (.c 2147483647)) (.b .min .i64 (.b .psub .i64 (.c 0) (.v 1)) (.c 2147483647)) (.c 0))) (.c (-2147483648))) (.c 2147483647))
  (.new 1050 (.b .min .i64 (.b .max .i64 (.b .padd .i64 (.cl 1049 (-2147483648) 2147483647) (.f 1 (.b .min .i64 (.b .psub .i64 (.c 0) (.v 7)) (.c 2147483647)) (.v 0) (.c 0))) (.c (-2147483648))) (.c 2147483647))
  (.br (.b .lt .i64 (.c 8) (.w .i32 (.b .psub .i64 (.cl 1029 (-2147483648) 2147483647) (.cl 1041 (-2147483648) 2147483647))))
  (.leaf (.c 0))
  (.br (.b .lt .i64 (.c 8) (.w .i32 (.b .psub .i64 (.cl 1041 (-2147483648) 2147483647) (.cl 1029 (-2147483648) 2147483647))))
  (.leaf (.c 0))
  (.new 1053 (.w .i32 (.b .psub .i64 (.b .min .i64 (.b .psub .i64 (.c 0) (.cl 1032 (-2147483648) 2147483647)) (.c 2147483647)) (.cl 1044 (-2147483648) 2147483647)))
  (.br (.b .lt .i64 (.c 8) (.cl 1053 (-2147483648) 2147483647))
  (.leaf (.c 0))
  (.new 1055 (.w .i32 (.b .psub .i64 (.cl 1044 (-2147483648) 2147483647) (.b .min .i64 (.b .psub .i64 (.c 0) (.cl 1032 (-2147483648) 2147483647)) (.c 2147483647))))
  (.br (.b .lt .i64 (.c 8) (.cl 1055 (-2147483648) 2147483647))
  (.leaf (.c 0))
  (.new 1057 (.w .i32 (.b .psub .i64 (.b .min .i64 (.b .psub .i64 (.c 0) (.cl 1035 (-2147483648) 2147483647)) (.c 2147483647)) (.cl 1047 (-2147483648) 2147483647)))
  (.br (.b .lt .i64 (.c 8) (.cl 1057 (-2147483648) 2147483647))
  (.leaf (.c 0))
  (.new 1059 (.w .i32 (.b .psub .i64 (.cl 1047 (-2147483648) 2147483647) (.b .min .i64 (.b .psub .i64 (.c 0) (.cl 1035 (-2147483648) 2147483647)) (.c 2147483647))))
  (.br (.b .lt .i64 (.c 8) (.cl 1059 (-2147483648) 2147483647))
  (.leaf (.c 0))
  (.new 1061 (.w .i32 (.b .psub .i64 (.b .min .i64 (.b .psub .i64 (.c 0) (.cl 1038 (-2147483648) 2147483647)) (.c 2147483647)) (.cl 1050 (-2147483648) 2147483647)))
  (.br (.b .lt .i64 (.c 8) (.cl 1061 (-2147483648) 2147483647))
  (.leaf (.c 0))
  (.new 1063 (.w .i32 (.b .psub .i64 (.cl 1050 (-2147483648) 2147483647) (.b .min .i64 (.b .psub .i64 (.c 0) (.cl 1038 (-2147483648) 2147483647)) (.c 2147483647))))
  (.br (.b .lt .i64 (.c 8) (.cl 1063 (-2147483648) 2147483647))
  (.leaf (.c 0))
  (.leaf (.c 1)))))))))))))))))))))))))))))))))))))))))))))))))))))))))))))))))))

def P (a0 a1 a2 a3 a4 a5 a6 a7 : Int) : Prop :=
 (((bool01 (decide (a0 < (-536870912)))) ≠ 0 →
  (1 : Int) ≠ 0) ∧ ((bool01 (decide (a0 < (-536870912)))) = 0 →
  (((bool01 (decide (536870912 < a0))) ≠ 0 →
   (1 : Int) ≠ 0) ∧ ((bool01 (decide (536870912 < a0))) = 0 →
   (((bool01 (decide (a4 < (-536870912)))) ≠ 0 →
    (1 : Int) ≠ 0) ∧ ((bool01 (decide (a4 < (-536870912)))) = 0 →
    (((bool01 (decide (536870912 < a4))) ≠ 0 →
     (1 : Int) ≠ 0) ∧ ((bool01 (decide (536870912 < a4))) = 0 →
     (((bool01 (decide (a1 < (-536870912)))) ≠ 0 →
      (1 : Int) ≠ 0) ∧ ((bool01 (decide (a1 < (-536870912)))) = 0 →
      (((bool01 (decide (536870912 < a1))) ≠ 0 →
       (1 : Int) ≠ 0) ∧ ((bool01 (decide (536870912 < a1))) = 0 →
       (((bool01 (decide (a5 < (-536870912)))) ≠ 0 →
        (1 : Int) ≠ 0) ∧ ((bool01 (decide (a5 < (-536870912)))) = 0 →
        (((bool01 (decide (536870912 < a5))) ≠ 0 →
         (1 : Int) ≠ 0) ∧ ((bool01 (decide (536870912 < a5))) = 0 →
         (((bool01 (decide (a2 < (-536870912)))) ≠ 0 →
          (1 : Int) ≠ 0) ∧ ((bool01 (decide (a2 < (-536870912)))) = 0 →
          (((bool01 (decide (536870912 < a2))) ≠ 0 →
           (1 : Int) ≠ 0) ∧ ((bool01 (decide (536870912 < a2))) = 0 →
           (((bool01 (decide (a6 < (-536870912)))) ≠ 0 →
            (1 : Int) ≠ 0) ∧ ((bool01 (decide (a6 < (-536870912)))) = 0 →
            (((bool01 (decide (536870912 < a6))) ≠ 0 →
             (1 : Int) ≠ 0) ∧ ((bool01 (decide (536870912 < a6))) = 0 →
             (((bool01 (decide (a3 < (-536870912)))) ≠ 0 →
              (1 : Int) ≠ 0) ∧ ((bool01 (decide (a3 < (-536870912)))) = 0 →
              (((bool01 (decide (536870912 < a3))) ≠ 0 →
               (1 : Int) ≠ 0) ∧ ((bool01 (decide (536870912 < a3))) = 0 →
               (((bool01 (decide (a7 < (-536870912)))) ≠ 0 →
                (1 : Int) ≠ 0) ∧ ((bool01 (decide (a7 < (-536870912)))) = 0 →
                (((bool01 (decide (536870912 < a7))) ≠ 0 →
                 (1 : Int) ≠ 0) ∧ ((bool01 (decide (536870912 < a7))) = 0 →
                 ∀ y1016 : Int, y1016 = (0 - (minZ (0 - a1) 2147483647)) → (-2147483647 ≤ y1016 ∧ y1016 ≤ 2147483647) →
                 ∀ y1017 : Int, y1017 = (0 - (minZ (0 - a2) 2147483647)) → (-2147483647 ≤ y1017 ∧ y1017 ≤ 2147483647) →
                 ∀ y1018 : Int, y1018 = (0 - (minZ (0 - a3) 2147483647)) → (-2147483647 ≤ y1018 ∧ y1018 ≤ 2147483647) →
                 (((bool01 ((iteZ (bool01 (y1016 == a1)) (iteZ (bool01 (y1017 == a2)) (iteZ (bool01 (y1018 == a3)) 1 0) 0) 0) == 0)) ≠ 0 →
                  (0 : Int) ≠ 0) ∧ ((bool01 ((iteZ (bool01 (y1016 == a1)) (iteZ (bool01 (y1017 == a2)) (iteZ (bool01 (y1018 == a3)) 1 0) 0) 0) == 0)) = 0 →
                  ∀ y1020 : Int, y1020 = (sat32 ((mulqZ a0 a0) + (mulqZ (minZ (0 - a1) 2147483647) (minZ (0 - a1) 2147483647)))) → (-2147483648 ≤ y1020 ∧ y1020 ≤ 2147483647) →
                  ∀ y1021 : Int, y1021 = (sat32 (y1020 + (mulqZ (minZ (0 - a2) 2147483647) (minZ (0 - a2) 2147483647)))) → (-2147483648 ≤ y1021 ∧ y1021 ≤ 2147483647) →
                  ∀ y1022 : Int, y1022 = (sat32 (y1021 + (mulqZ (minZ (0 - a3) 2147483647) (minZ (0 - a3) 2147483647)))) → (-2147483648 ≤ y1022 ∧ y1022 ≤ 2147483647) →
                  ∀ y1023 : Int, y1023 = (sat32 ((mulqZ a0 a0) + (mulqZ a1 a1))) → (-2147483648 ≤ y1023 ∧ y1023 ≤ 2147483647) →
                  ∀ y1024 : Int, y1024 = (sat32 (y1023 + (mulqZ a2 a2))) → (-2147483648 ≤ y1024 ∧ y1024 ≤ 2147483647) →
                  ∀ y1025 : Int, y1025 = (sat32 (y1024 + (mulqZ a3 a3))) → (-2147483648 ≤ y1025 ∧ y1025 ≤ 2147483647) →
                  (((bool01 (y1022 != y1025)) ≠ 0 →
                   (0 : Int) ≠ 0) ∧ ((bool01 (y1022 != y1025)) = 0 →
                   ∀ y1027 : Int, y1027 = (sat32 ((mulqZ a0 a4) - (mulqZ a1 a5))) → (-2147483648 ≤ y1027 ∧ y1027 ≤ 2147483647) →
                   ∀ y1028 : Int, y1028 = (sat32 (y1027 - (mulqZ a2 a6))) → (-2147483648 ≤ y1028 ∧ y1028 ≤ 2147483647) →
                   ∀ y1029 : Int, y1029 = (sat32 (y1028 - (mulqZ a3 a7))) → (-2147483648 ≤ y1029 ∧ y1029 ≤ 2147483647) →
                   ∀ y1030 : Int, y1030 = (sat32 ((mulqZ a0 a5) + (mulqZ a1 a4))) → (-2147483648 ≤ y1030 ∧ y1030 ≤ 2147483647) →
                   ∀ y1031 : Int, y1031 = (sat32 (y1030 + (mulqZ a2 a7))) → (-2147483648 ≤ y1031 ∧ y1031 ≤ 2147483647) →
                   ∀ y1032 : Int, y1032 = (sat32 (y1031 - (mulqZ a3 a6))) → (-2147483648 ≤ y1032 ∧ y1032 ≤ 2147483647) →
                   ∀ y1033 : Int, y1033 = (sat32 ((mulqZ a0 a6) - (mulqZ a1 a7))) → (-2147483648 ≤ y1033 ∧ y1033 ≤ 2147483647) →
                   ∀ y1034 : Int, y1034 = (sat32 (y1033 + (mulqZ a2 a4))) → (-2147483648 ≤ y1034 ∧ y1034 ≤ 2147483647) →
                   ∀ y1035 : Int, y1035 = (sat32 (y1034 + (mulqZ a3 a5))) → (-2147483648 ≤ y1035 ∧ y1035 ≤ 2147483647) →
                   ∀ y1036 : Int, y1036 = (sat32 ((mulqZ a0 a7) + (mulqZ a1 a6))) → (-2147483648 ≤ y1036 ∧ y1036 ≤ 2147483647) →
                   ∀ y1037 : Int, y1037 = (sat32 (y1036 - (mulqZ a2 a5))) → (-2147483648 ≤ y1037 ∧ y1037 ≤ 2147483647) →
                   ∀ y1038 : Int, y1038 = (sat32 (y1037 + (mulqZ a3 a4))) → (-2147483648 ≤ y1038 ∧ y1038 ≤ 2147483647) →
                   ∀ y1039 : Int, y1039 = (sat32 ((mulqZ a4 a0) - (mulqZ (minZ (0 - a5) 2147483647) (minZ (0 - a1) 2147483647)))) → (-2147483648 ≤ y1039 ∧ y1039 ≤ 2147483647) →
                   ∀ y1040 : Int, y1040 = (sat32 (y1039 - (mulqZ (minZ (0 - a6) 2147483647) (minZ (0 - a2) 2147483647)))) → (-2147483648 ≤ y1040 ∧ y1040 ≤ 2147483647) →
                   ∀ y1041 : Int, y1041 = (sat32 (y1040 - (mulqZ (minZ (0 - a7) 2147483647) (minZ (0 - a3) 2147483647)))) → (-2147483648 ≤ y1041 ∧ y1041 ≤ 2147483647) →
                   ∀ y1042 : Int, y1042 = (sat32 ((mulqZ a4 (minZ (0 - a1) 2147483647)) + (mulqZ (minZ (0 - a5) 2147483647) a0))) → (-2147483648 ≤ y1042 ∧ y1042 ≤ 2147483647) →
                   ∀ y1043 : Int, y1043 = (sat32 (y1042 + (mulqZ (minZ (0 - a6) 2147483647) (minZ (0 - a3) 2147483647)))) → (-2147483648 ≤ y1043 ∧ y1043 ≤ 2147483647) →
                   ∀ y1044 : Int, y1044 = (sat32 (y1043 - (mulqZ (minZ (0 - a7) 2147483647) (minZ (0 - a2) 2147483647)))) → (-2147483648 ≤ y1044 ∧ y1044 ≤ 2147483647) →
                   ∀ y1045 : Int, y1045 = (sat32 ((mulqZ a4 (minZ (0 - a2) 2147483647)) - (mulqZ (minZ (0 - a5) 2147483647) (minZ (0 - a3) 2147483647)))) → (-2147483648 ≤ y1045 ∧ y1045 ≤ 2147483647) →
                   ∀ y1046 : Int, y1046 = (sat32 (y1045 + (mulqZ (minZ (0 - a6) 2147483647) a0))) → (-2147483648 ≤ y1046 ∧ y1046 ≤ 2147483647) →
                   ∀ y1047 : Int, y1047 = (sat32 (y1046 + (mulqZ (minZ (0 - a7) 2147483647) (minZ (0 - a1) 2147483647)))) → (-2147483648 ≤ y1047 ∧ y1047 ≤ 2147483647) →
                   ∀ y1048 : Int, y1048 = (sat32 ((mulqZ a4 (minZ (0 - a3) 2147483647)) + (mulqZ (minZ (0 - a5) 2147483647) (minZ (0 - a2) 2147483647)))) → (-2147483648 ≤ y1048 ∧ y1048 ≤ 2147483647) →
                   ∀ y1049 : Int, y1049 = (sat32 (y1048 - (mulqZ (minZ (0 - a6) 2147483647) (minZ (0 - a1) 2147483647)))) → (-2147483648 ≤ y1049 ∧ y1049 ≤ 2147483647) →
                   ∀ y1050 : Int, y1050 = (sat32 (y1049 + (mulqZ (minZ (0 - a7) 2147483647) a0))) → (-2147483648 ≤ y1050 ∧ y1050 ≤ 2147483647) →
                   (((bool01 (decide (8 < (IntKind.wrap .i32 (y1029 - y1041))))) ≠ 0 →
                    (0 : Int) ≠ 0) ∧ ((bool01 (decide (8 < (IntKind.wrap .i32 (y1029 - y1041))))) = 0 →
                    (((bool01 (decide (8 < (IntKind.wrap .i32 (y1041 - y1029))))) ≠ 0 →
                     (0 : Int) ≠ 0) ∧ ((bool01 (decide (8 < (IntKind.wrap .i32 (y1041 - y1029))))) = 0 →
                     ∀ y1053 : Int, y1053 = (IntKind.wrap .i32 ((minZ (0 - y1032) 2147483647) - y1044)) → (-2147483648 ≤ y1053 ∧ y1053 ≤ 2147483647) →
                     (((bool01 (decide (8 < y1053))) ≠ 0 →
                      (0 : Int) ≠ 0) ∧ ((bool01 (decide (8 < y1053))) = 0 →
                      ∀ y1055 : Int, y1055 = (IntKind.wrap .i32 (y1044 - (minZ (0 - y1032) 2147483647))) → (-2147483648 ≤ y1055 ∧ y1055 ≤ 2147483647) →
                      (((bool01 (decide (8 < y1055))) ≠ 0 →
                       (0 : Int) ≠ 0) ∧ ((bool01 (decide (8 < y1055))) = 0 →
                       ∀ y1057 : Int, y1057 = (IntKind.wrap .i32 ((minZ (0 - y1035) 2147483647) - y1047)) → (-2147483648 ≤ y1057 ∧ y1057 ≤ 2147483647) →
                       (((bool01 (decide (8 < y1057))) ≠ 0 →
                        (0 : Int) ≠ 0) ∧ ((bool01 (decide (8 < y1057))) = 0 →
                        ∀ y1059 : Int, y1059 = (IntKind.wrap .i32 (y1047 - (minZ (0 - y1035) 2147483647))) → (-2147483648 ≤ y1059 ∧ y1059 ≤ 2147483647) →
                        (((bool01 (decide (8 < y1059))) ≠ 0 →
                         (0 : Int) ≠ 0) ∧ ((bool01 (decide (8 < y1059))) = 0 →
                         ∀ y1061 : Int, y1061 = (IntKind.wrap .i32 ((minZ (0 - y1038) 2147483647) - y1050)) → (-2147483648 ≤ y1061 ∧ y1061 ≤ 2147483647) →
                         (((bool01 (decide (8 < y1061))) ≠ 0 →
                          (0 : Int) ≠ 0) ∧ ((bool01 (decide (8 < y1061))) = 0 →
                          ∀ y1063 : Int, y1063 = (IntKind.wrap .i32 (y1050 - (minZ (0 - y1038) 2147483647))) → (-2147483648 ≤ y1063 ∧ y1063 ≤ 2147483647) →
                          (((bool01 (decide (8 < y1063))) ≠ 0 →
                           (0 : Int) ≠ 0) ∧ ((bool01 (decide (8 < y1063))) = 0 →
                           (1 : Int) ≠ 0))))))))))))))))))))))))))))))))))))))))))))))))))))

theorem plain (a0 a1 a2 a3 a4 a5 a6 a7 : Int) : T.holdsP (cxOf 2 [(-2147483648, 2147483647), (-2147483648, 2147483647), (-2147483648, 2147483647), (-2147483648, 2147483647), (-2147483648, 2147483647), (-2147483648, 2147483647), (-2147483648, 2147483647), (-2147483648, 2147483647)]) (envOf [a0, a1, a2, a3, a4, a5, a6, a7]) tree = P a0 a1 a2 a3 a4 a5 a6 a7 := by kernel_rfl

set_option maxHeartbeats 2000000 in
theorem holds (a0 a1 a2 a3 a4 a5 a6 a7 : Int) (l0 : -2147483648 ≤ a0) (u0 : a0 ≤ 2147483647) (l1 : -2147483648 ≤ a1) (u1 : a1 ≤ 2147483647) (l2 : -2147483648 ≤ a2) (u2 : a2 ≤ 2147483647) (l3 : -2147483648 ≤ a3) (u3 : a3 ≤ 2147483647) (l4 : -2147483648 ≤ a4) (u4 : a4 ≤ 2147483647) (l5 : -2147483648 ≤ a5) (u5 : a5 ≤ 2147483647) (l6 : -2147483648 ≤ a6) (u6 : a6 ≤ 2147483647) (l7 : -2147483648 ≤ a7) (u7 : a7 ≤ 2147483647) : P a0 a1 a2 a3 a4 a5 a6 a7 := by
  unfold P
  simp only [b01_ne, b01_eq]
  refine ⟨fun _ => by decide, fun g0 => ⟨fun _ => by decide, fun k0 => ?_⟩⟩
  refine ⟨fun _ => by decide, fun g4 => ⟨fun _ => by decide, fun k4 => ?_⟩⟩
  refine ⟨fun _ => by decide, fun g1 => ⟨fun _ => by decide, fun k1 => ?_⟩⟩
  refine ⟨fun _ => by decide, fun g5 => ⟨fun _ => by decide, fun k5 => ?_⟩⟩
  refine ⟨fun _ => by decide, fun g2 => ⟨fun _ => by decide, fun k2 => ?_⟩⟩
  refine ⟨fun _ => by decide, fun g6 => ⟨fun _ => by decide, fun k6 => ?_⟩⟩
  refine ⟨fun _ => by decide, fun g3 => ⟨fun _ => by decide, fun k3 => ?_⟩⟩
  refine ⟨fun _ => by decide, fun g7 => ⟨fun _ => by decide, fun k7 => ?_⟩⟩
  have n1 : minZ (0 - a1) 2147483647 = -a1 := by unfold minZ; rw [if_neg (by omega)]; omega
  have n2 : minZ (0 - a2) 2147483647 = -a2 := by unfold minZ; rw [if_neg (by omega)]; omega
  have n3 : minZ (0 - a3) 2147483647 = -a3 := by unfold minZ; rw [if_neg (by omega)]; omega
  have n5 : minZ (0 - a5) 2147483647 = -a5 := by unfold minZ; rw [if_neg (by omega)]; omega
  have n6 : minZ (0 - a6) 2147483647 = -a6 := by unfold minZ; rw [if_neg (by omega)]; omega
  have n7 : minZ (0 - a7) 2147483647 = -a7 := by unfold minZ; rw [if_neg (by omega)]; omega
  simp only [n1, n2, n3, n5, n6, n7, mulqZ_neg_neg]
  simp only [mulqZ_comm a4 a0, mulqZ_comm a5 a1, mulqZ_comm a6 a2, mulqZ_comm a7 a3, mulqZ_comm a6 a3, mulqZ_comm a7 a2, mulqZ_comm a5 a3, mulqZ_comm a7 a1, mulqZ_comm a5 a2, mulqZ_comm a6 a1]
  intro y16 e16 _ y17 e17 _ y18 e18 _
  have f16 : y16 = a1 := by omega
  have f17 : y17 = a2 := by omega
  have f18 : y18 = a3 := by omega
  rw [f16, f17, f18]
  refine ⟨fun hc => by simp [iteZ, bool01] at hc, fun _ => ?_⟩
  intro y20 e20 _ y21 e21 _ y22 e22 _ y23 e23 _ y24 e24 _ y25 e25 _
  have h2225 : y22 = y25 := by rw [e22, e25, e21, e24, e20, e23]
  rw [h2225]
  refine ⟨fun hc => by simp [bool01] at hc, fun _ => ?_⟩
  clear e20 e21 e22 e23 e24 e25 h2225
  have m04 := mulqZ_half (a := a0) (b := a4) (by omega) (by omega) (by omega) (by omega)
  have m05 := mulqZ_half (a := a0) (b := a5) (by omega) (by omega) (by omega) (by omega)
  have m06 := mulqZ_half (a := a0) (b := a6) (by omega) (by omega) (by omega) (by omega)
  have m07 := mulqZ_half (a := a0) (b := a7) (by omega) (by omega) (by omega) (by omega)
  have m14 := mulqZ_half (a := a1) (b := a4) (by omega) (by omega) (by omega) (by omega)
  have m15 := mulqZ_half (a := a1) (b := a5) (by omega) (by omega) (by omega) (by omega)
  have m16 := mulqZ_half (a := a1) (b := a6) (by omega) (by omega) (by omega) (by omega)
  have m17 := mulqZ_half (a := a1) (b := a7) (by omega) (by omega) (by omega) (by omega)
  have m24 := mulqZ_half (a := a2) (b := a4) (by omega) (by omega) (by omega) (by omega)
  have m25 := mulqZ_half (a := a2) (b := a5) (by omega) (by omega) (by omega) (by omega)
  have m26 := mulqZ_half (a := a2) (b := a6) (by omega) (by omega) (by omega) (by omega)
  have m27 := mulqZ_half (a := a2) (b := a7) (by omega) (by omega) (by omega) (by omega)
  have m34 := mulqZ_half (a := a3) (b := a4) (by omega) (by omega) (by omega) (by omega)
  have m35 := mulqZ_half (a := a3) (b := a5) (by omega) (by omega) (by omega) (by omega)
  have m36 := mulqZ_half (a := a3) (b := a6) (by omega) (by omega) (by omega) (by omega)
  have m37 := mulqZ_half (a := a3) (b := a7) (by omega) (by omega) (by omega) (by omega)
  have r1 := mulqZ_neg_r (a := a4) (b := a1) (by omega) (by omega) (by omega) (by omega)
  rw [mulqZ_comm a4 a1] at r1
  have r2 := mulqZ_neg_r (a := a4) (b := a2) (by omega) (by omega) (by omega) (by omega)
  rw [mulqZ_comm a4 a2] at r2
  have r3 := mulqZ_neg_r (a := a4) (b := a3) (by omega) (by omega) (by omega) (by omega)
  rw [mulqZ_comm a4 a3] at r3
  have s5 := mulqZ_neg_l (a := a5) (b := a0) (by omega) (by omega) (by omega) (by omega)
  rw [mulqZ_comm a5 a0] at s5
  have s6 := mulqZ_neg_l (a := a6) (b := a0) (by omega) (by omega) (by omega) (by omega)
  rw [mulqZ_comm a6 a0] at s6
  have s7 := mulqZ_neg_l (a := a7) (b := a0) (by omega) (by omega) (by omega) (by omega)
  rw [mulqZ_comm a7 a0] at s7
  intro y27 e27 _ y28 e28 _ y29 e29 _ y30 e30 _ y31 e31 _ y32 e32 _ y33 e33 _ y34 e34 _ y35 e35 _ y36 e36 _ y37 e37 _ y38 e38 _ y39 e39 _ y40 e40 _ y41 e41 _ y42 e42 _ y43 e43 _ y44 e44 _ y45 e45 _ y46 e46 _ y47 e47 _ y48 e48 _ y49 e49 _ y50 e50 _
  generalize mulqZ a0 a4 = p04 at *
  generalize mulqZ a0 a5 = p05 at *
  generalize mulqZ a0 a6 = p06 at *
  generalize mulqZ a0 a7 = p07 at *
  generalize mulqZ a1 a4 = p14 at *
  generalize mulqZ a1 a5 = p15 at *
  generalize mulqZ a1 a6 = p16 at *
  generalize mulqZ a1 a7 = p17 at *
  generalize mulqZ a2 a4 = p24 at *
  generalize mulqZ a2 a5 = p25 at *
  generalize mulqZ a2 a6 = p26 at *
  generalize mulqZ a2 a7 = p27 at *
  generalize mulqZ a3 a4 = p34 at *
  generalize mulqZ a3 a5 = p35 at *
  generalize mulqZ a3 a6 = p36 at *
  generalize mulqZ a3 a7 = p37 at *
  generalize mulqZ a4 (-a1) = t1 at *
  generalize mulqZ a4 (-a2) = t2 at *
  generalize mulqZ a4 (-a3) = t3 at *
  generalize mulqZ (-a5) a0 = w5 at *
  generalize mulqZ (-a6) a0 = w6 at *
  generalize mulqZ (-a7) a0 = w7 at *
  clear n1 n2 n3 n5 n6 n7 e16 e17 e18 f16 f17 f18 l0 u0 g0 k0 l1 u1 g1 k1 l2 u2 g2 k2 l3 u3 g3 k3 l4 u4 g4 k4 l5 u5 g5 k5 l6 u6 g6 k6 l7 u7 g7 k7
  rw [sat32_id (by omega) (by omega)] at e27
  rw [sat32_id (by omega) (by omega)] at e28
  rw [sat32_id (by omega) (by omega)] at e29
  rw [sat32_id (by omega) (by omega)] at e30
  rw [sat32_id (by omega) (by omega)] at e31
  rw [sat32_id (by omega) (by omega)] at e32
  rw [sat32_id (by omega) (by omega)] at e33
  rw [sat32_id (by omega) (by omega)] at e34
  rw [sat32_id (by omega) (by omega)] at e35
  rw [sat32_id (by omega) (by omega)] at e36
  rw [sat32_id (by omega) (by omega)] at e37
  rw [sat32_id (by omega) (by omega)] at e38
  rw [sat32_id (by omega) (by omega)] at e39
  rw [sat32_id (by omega) (by omega)] at e40
  rw [sat32_id (by omega) (by omega)] at e41
  rw [sat32_id (by omega) (by omega)] at e42
  rw [sat32_id (by omega) (by omega)] at e43
  rw [sat32_id (by omega) (by omega)] at e44
  rw [sat32_id (by omega) (by omega)] at e45
  rw [sat32_id (by omega) (by omega)] at e46
  rw [sat32_id (by omega) (by omega)] at e47
  rw [sat32_id (by omega) (by omega)] at e48
  rw [sat32_id (by omega) (by omega)] at e49
  rw [sat32_id (by omega) (by omega)] at e50
  have w1 : ∀ x : Int, -2147483648 ≤ x → x ≤ 2147483647 → IntKind.wrap .i32 x = x := fun x h1 h2 => wrap_i32 h1 h2
  have q1 : minZ (0 - y32) 2147483647 = -y32 := by unfold minZ; rw [if_neg (by omega)]; omega
  have q2 : minZ (0 - y35) 2147483647 = -y35 := by unfold minZ; rw [if_neg (by omega)]; omega
  have q3 : minZ (0 - y38) 2147483647 = -y38 := by unfold minZ; rw [if_neg (by omega)]; omega
  rw [q1, q2, q3]
  rw [w1 (y29 - y41) (by omega) (by omega), w1 (y41 - y29) (by omega) (by omega), w1 (-y32 - y44) (by omega) (by omega), w1 (y44 - -y32) (by omega) (by omega), w1 (-y35 - y47) (by omega) (by omega), w1 (y47 - -y35) (by omega) (by omega), w1 (-y38 - y50) (by omega) (by omega), w1 (y50 - -y38) (by omega) (by omega)]
  refine ⟨fun _ => by omega, fun _ => ⟨fun _ => by omega, fun _ => ?_⟩⟩
  intro y53 e53 _
  refine ⟨fun _ => by omega, fun _ => ?_⟩
  intro y55 e55 _
  refine ⟨fun _ => by omega, fun _ => ?_⟩
  intro y57 e57 _
  refine ⟨fun _ => by omega, fun _ => ?_⟩
  intro y59 e59 _
  refine ⟨fun _ => by omega, fun _ => ?_⟩
  intro y61 e61 _
  refine ⟨fun _ => by omega, fun _ => ?_⟩
  intro y63 e63 _
  exact ⟨fun _ => by omega, fun _ => by decide⟩

theorem walk (a0 a1 a2 a3 a4 a5 a6 a7 : Int) (w0 : (Lit.int .i32 a0).wf = true) (w1 : (Lit.int .i32 a1).wf = true) (w2 : (Lit.int .i32 a2).wf = true) (w3 : (Lit.int .i32 a3).wf = true) (w4 : (Lit.int .i32 a4).wf = true) (w5 : (Lit.int .i32 a5).wf = true) (w6 : (Lit.int .i32 a6).wf = true) (w7 : (Lit.int .i32 a7).wf = true) (w : World) :
    Calls Try.prog 14 #[.agg #[.int .i32 a0, .int .i32 a1, .int .i32 a2, .int .i32 a3], .agg #[.int .i32 a4, .int .i32 a5, .int .i32 a6, .int .i32 a7]] w fun e w' => e = .returned (.bool true) ∧ Below w.heap.size w w' :=
  truthP_of (runOf_ok smAc_ok 2 [(-2147483648, 2147483647), (-2147483648, 2147483647), (-2147483648, 2147483647), (-2147483648, 2147483647), (-2147483648, 2147483647), (-2147483648, 2147483647), (-2147483648, 2147483647), (-2147483648, 2147483647)]) (envOf_ok (bnd_cons (wf_bd w0) (bnd_cons (wf_bd w1) (bnd_cons (wf_bd w2) (bnd_cons (wf_bd w3) (bnd_cons (wf_bd w4) (bnd_cons (wf_bd w5) (bnd_cons (wf_bd w6) (bnd_cons (wf_bd w7) (bnd_nil _)))))))))) (f := 14) (args := [.agg [.int .i32 (.v 0), .int .i32 (.v 1), .int .i32 (.v 2), .int .i32 (.v 3)], .agg [.int .i32 (.v 4), .int .i32 (.v 5), .int .i32 (.v 6), .int .i32 (.v 7)]]) (t := tree) (by kernel_rfl) (by kernel_rfl)
    (by rw [plain]; exact holds a0 a1 a2 a3 a4 a5 a6 a7 (wf_bd w0).1 (wf_bd w0).2 (wf_bd w1).1 (wf_bd w1).2 (wf_bd w2).1 (wf_bd w2).2 (wf_bd w3).1 (wf_bd w3).2 (wf_bd w4).1 (wf_bd w4).2 (wf_bd w5).1 (wf_bd w5).2 (wf_bd w6).1 (wf_bd w6).2 (wf_bd w7).1 (wf_bd w7).2) rfl w

/-! ### the row's step -/
set_option maxRecDepth 100000 in
theorem lifted (os : Os) (started : os.Started) (H : Type) (enc : TypeId × Value → H) :
    ReturnsInHanded {} Try.checked os 14 .any (Rows.quatTurnsSpec.pre6 enc Try.prog Try.f14 Rows.quatTurnsRow.domain false) (Rows.quatTurnsSpec.post enc Try.prog Try.f14 false true false false) := by
  refine returnsInHanded_of_change (C := Try.checked) own started (by kernel_rfl) Try.func14
    (ChangeSpec.witness6 (enc := enc) (C := Try.checked) false ⟨#[], #[.agg #[.int .i32 0, .int .i32 0, .int .i32 0, .int .i32 0], .agg #[.int .i32 0, .int .i32 0, .int .i32 0, .int .i32 0]], []⟩ 8 (by kernel_rfl) (by kernel_rfl) (by kernel_rfl) (by kernel_rfl)) ?_
  intro W base args ds gs before hval0 hW hcnd _
  have hval : ∀ (j : Nat) t v, Try.f14.params[j]? = some t → args[j]? = some v → Value.okWide Try.prog W .any base t v := hval0
  have hW' := hW
  obtain ⟨p, q, hA0, hV, rfl, hfz, hnd⟩ := hW
  have hA : DataW.TrodAll enc Try.prog W 0 (fun _ => true) true Try.f14.params.toList args.toList ds p := hA0
  rw [Try.params14] at hA hval
  obtain ⟨v0, vs0, d0, ds0, p0, q0, hargs, rfl, rfl, h0, r0⟩ := trodAll_cons hA
  obtain ⟨v1, vs1, d1, ds1, p1, q1, rfl, rfl, rfl, h1, r1⟩ := trodAll_cons r0
  obtain ⟨rfl, rfl, rfl⟩ := trodAll_nil r1
  obtain rfl : args = #[v0, v1] := by cases args; simp_all
  obtain ⟨rfl, rfl⟩ := trodVars_none hV
  obtain ⟨xs0, hx0, rfl, rfl, rfl, hw0⟩ := open_arrI (n := 4) Try.underlying46 Try.underlying21 (by kernel_rfl) (by kernel_rfl) (hval 0 46 v0 rfl rfl) h0
  obtain ⟨a0, a1, a2, a3, rfl⟩ := list4 hx0
  have w0 := hw0 a0 (by simp)
  have w1 := hw0 a1 (by simp)
  have w2 := hw0 a2 (by simp)
  have w3 := hw0 a3 (by simp)
  obtain ⟨xs1, hx1, rfl, rfl, rfl, hw1⟩ := open_arrI (n := 4) Try.underlying46 Try.underlying21 (by kernel_rfl) (by kernel_rfl) (hval 1 46 v1 rfl rfl) h1
  obtain ⟨a4, a5, a6, a7, rfl⟩ := list4 hx1
  have w4 := hw1 a4 (by simp)
  have w5 := hw1 a5 (by simp)
  have w6 := hw1 a6 (by simp)
  have w7 := hw1 a7 (by simp)
  clear hA0 hval0
  simp only [List.append_nil] at hW'
  refine (walk a0 a1 a2 a3 a4 a5 a6 a7 w0 w1 w2 w3 w4 w5 w6 w7 W).mono fun e W' ⟨he, hg⟩ => ?_
  subst he
  exact ⟨_, rfl, post_below (pa := []) (pv := []) hW' hg (fun _ _ _ => (trodAll_cons_mk (shut_bool Try.underlying4 _) trodAll_mk0)) (fun sp _ => (trodAll_cons_mk (shut_arrI (n := 4) (xs := [a0, a1, a2, a3]) Try.underlying46 Try.underlying21 (by kernel_rfl) (by kernel_rfl) rfl hw0) (trodAll_cons_mk (shut_arrI (n := 4) (xs := [a4, a5, a6, a7]) Try.underlying46 Try.underlying21 (by kernel_rfl) (by kernel_rfl) rfl hw1) trodAll_mk0))) (fun _ _ => rfl) rfl
    (ok_one (by kernel_rfl) rfl (okWide_bool_mk Try.underlying4 _))⟩

theorem over : Rows.quatTurnsRow.holds Try.pinned (OpenSpec.ofChange Rows.quatTurnsSpec) :=
  OpenClaim.holds_of_wide 14 Try.f14 rfl rfl rfl rfl rfl rfl rfl ⟨rfl, rfl, rfl, rfl, rfl⟩ rfl rfl rfl rfl rfl (by kernel_rfl) Try.func14 (by kernel_rfl)
    (of_decide_eq_true (by kernel_rfl)) (by unfold Func.isWrapper; first | (rw [if_pos (by decide +kernel)]; kernel_rfl) | (rw [if_neg (by decide +kernel)]; exact ⟨rfl, rfl⟩))
    (fun os started H enc _ => lifted os started H enc)

/-- the statement -/
theorem proved : Rows.QuatTurnsSaid :=
  over
#print axioms proved
end Go.Proofs.Ytjooaieolphomaa.quatTurns
