/-
  The law QuatUnits answers true at every input: the law's function is run by the engine (a program's symbolic run, proved sound), and the tree of its answers, as a plain statement, is shown to hold. No condition.
-/
import Derived.Test.YtjooaieolphomaaRows
import Derived.Test.YtjooaieolphomaaTmAc
import Derived.Test.YtjooaieolphomaaEngT
import Derived.Test.YtjooaieolphomaaPlH
import Derived.WalkKit
import Derived.ProofKit
import Derived.OpenShut
namespace Go.Proofs.Ytjooaieolphomaa.quatUnits
open Go.ChangeShapes Go.WideShapes Go.ChangeAt Go.RowKit
open Go.Eng
set_option linter.unusedVariables false
set_option linter.unusedSimpArgs false

theorem own : ownKnob Try.prog.godebug = none := by kernel_rfl

set_option maxRecDepth 100000 in
def tree : T E :=
(.new 1000 (.b .min .i64 (.b .max .i64 (.b .padd .i64 (.f 1 (.v 0) (.v 0) (.c 0)) (.f 1 (.v 1) (.v 1) (.c 0))) (.c (-2147483648))) (.c 2147483647))
  (.new 1001 (.b .min .i64 (.b .max .i64 (.b .padd .i64 (.cl 1000 (-2147483648) 2147483647) (.f 1 (.v 2) (.v 2) (.c 0))) (.c (-2147483648))) (.c 2147483647))
  (.new 1002 (.b .min .i64 (.b .max .i64 (.b .padd .i64 (.cl 1001 (-2147483648) 2147483647) (.f 1 (.v 3) (.v 3) (.c 0))) (.c (-2147483648))) (.c 2147483647))
  (.br (.b .lt .i64 (.cl 1002 (-2147483648) 2147483647) (.c 536870912))
  (.leaf (.c 1))
  (.br (.b .lt .i64 (.c 2146435072) (.cl 1002 (-2147483648) 2147483647))
  (.leaf (.c 1))
  (.new 1005 (.b .psub .i64 (.c 32) (.f 0 (.w .u32 (.cl 1002 (-2147483648) 2147483647)) (.c 0) (.c 0)))
  (.new 1006 (.b .shr .u32 (.b .shl .u32 (.w .u32 (.cl 1002 (-2147483648) 2147483647)) (.b .and .i32 (.b .and .i32 (.cl 1005 0 32) (.c 30)) (.c 31))) (.c 2))
  (.new 1007 (.b .min .i64 (.b .psub .i64 (.c 1184766729) (.f 1 (.c 715827883) (.cl 1006 0 1073741823) (.c 0))) (.c 2147483647))
  (.new 1008 (.w .i32 (.b .shl .u32 (.w .u32 (.f 1 (.cl 1006 0 1073741823) (.f 1 (.cl 1007 (-962716918) 2147483647) (.cl 1007 (-962716918) 2147483647) (.c 0)) (.c 0))) (.c 2)))
  (.new 1009 (.f 1 (.cl 1007 (-962716918) 2147483647) (.b .min .i64 (.b .psub .i64 (.c 1073741824) (.cl 1008 (-2147483648) 2147483647)) (.c 2147483647)) (.c 0))
  (.new 1010 (.b .min .i64 (.b .padd .i64 (.cl 1007 (-962716918) 2147483647) (.b .shr .i32 (.cl 1009 (-2147483648) 2147483647) (.c 1))) (.c 2147483647))
  (.new 1011 (.w .i32 (.b .shl .u32 (.w .u32 (.f 1 (.cl 1006 0 1073741823) (.f 1 (.cl 1010 (-2036458742) 2147483647) (.cl 1010 (-2036458742) 2147483647) (.c 0)) (.c 0))) (.c 2)))
  (.new 1012 (.f 1 (.cl 1010 (-2036458742) 2147483647) (.b .min .i64 (.b .psub .i64 (.c 1073741824) (.cl 1011 (-2147483648) 2147483647)) (.c 2147483647)) (.c 0))
  (.new 1013 (.b .min .i64 (.b .max .i64 (.b .padd .i64 (.cl 1010 (-2036458742) 2147483647) (.b .shr .i32 (.cl 1012 (-2147483648) 2147483647) (.c 1))) (.c (-2147483648))) (.c 2147483647))
  (.new 1014 (.w .i32 (.b .shl .u32 (.w .u32 (.f 1 (.cl 1006 0 1073741823) (.f 1 (.cl 1013 (-2147483648) 2147483647) (.cl 1013 (-2147483648) 2147483647) (.c 0)) (.c 0))) (.c 2)))
  (.new 1015 (.f 1 (.cl 1013 (-2147483648) 2147483647) (.b .min .i64 (.b .psub .i64 (.c 1073741824) (.cl 1014 (-2147483648) 2147483647)) (.c 2147483647)) (.c 0))
  (.new 1016 (.b .min .i64 (.b .max .i64 (.b .padd .i64 (.cl 1013 (-2147483648) 2147483647) (.b .shr .i32 (.cl 1015 (-2147483648) 2147483647) (.c 1))) (.c (-2147483648))) (.c 2147483647))
  (.new 1017 (.w .i32 (.b .shl .u32 (.w .u32 (.f 1 (.cl 1006 0 1073741823) (.f 1 (.cl 1016 (-2147483648) 2147483647) (.cl 1016 (-2147483648) 2147483647) (.c 0)) (.c 0))) (.c 2)))
  (.new 1018 (.f 1 (.cl 1016 (-2147483648) 2147483647) (.b .min .i64 (.b .psub .i64 (.c 1073741824) (.cl 1017 (-2147483648) 2147483647)) (.c 2147483647)) (.c 0))
  (.new 1019 (.b .min .i64 (.b .max .i64 (.b .padd .i64 (.cl 1016 (-2147483648) 2147483647) (.b .shr .i32 (.cl 1018 (-2147483648) 2147483647) (.c 1))) (.c (-2147483648))) (.c 2147483647))
  (.new 1020 (.w .i32 (.b .shl .u32 (.w .u32 (.f 1 (.v 0) (.cl 1019 (-2147483648) 2147483647) (.c 0))) (.b .and .i32 (.b .shr .u32 (.b .and .i32 (.cl 1005 0 32) (.c 30)) (.c 1)) (.c 31))))
  (.new 1021 (.w .i32 (.b .shl .u32 (.w .u32 (.f 1 (.v 1) (.cl 1019 (-2147483648) 2147483647) (.c 0))) (.b .and .i32 (.b .shr .u32 (.b .and .i32 (.cl 1005 0 32) (.c 30)) (.c 1)) (.c 31))))
  (.new 1022 (.w .i32 (.b .shl .u32 (.w .u32 (.f 1 (.v 2) (.cl 1019 (-2147483648) 2147483647) (.c 0))) (.b .and .i32 (.b .shr .u32 (.b .and .i32 (.cl 1005 0 32) (.c 30)) (.c 1)) (.c 31))))
  (.new 1023 (.w .i32 (.b .shl .u32 (.w .u32 (.f 1 (.v 3) (.cl 1019 (-2147483648) 2147483647) (.c 0))) (.b .and .i32 (.b .shr .u32 (.b .and .i32 (.cl 1005 0 32) (.c 30)) (.c 1)) (.c 31))))
  (.br (.b .lt .i64 (.cl 1020 (-2147483648) 2147483647) (.c (-1342177280)))
  (.leaf (.c 0))
  (.br (.b .lt .i64 (.c 1342177280) (.cl 1020 (-2147483648) 2147483647))
  (.leaf (.c 0))
  (.br (.b .lt .i64 (.cl 1021 (-2147483648) 2147483647) (.c (-1342177280)))
  (.leaf (.c 0))
  (.br (.b .lt .i64 (.c 1342177280) (.cl 1021 (-2147483648) 2147483647))
  (.leaf (.c 0))
  (.new 1028 (.w .i64 (.b .padd .i64 (.b .pmul .i64 (.cl 1020 (-2147483648) 2147483647) (.cl 1020 (-2147483648) 2147483647)) (.b .pmul .i64 (.cl 1021 (-2147483648) 2147483647) (.cl 1021 (-2147483648) 2147483647))))
  (.br (.b .lt .i64 (.cl 1022 (-2147483648) 2147483647) (.c (-1342177280)))
  (.leaf (.c 0))
  (.br (.b .lt .i64 (.c 1342177280) (.cl 1022 (-2147483648) 2147483647))
  (.leaf (.c 0))
  (.new 1031 (.w .i64 (.b .padd .i64 (.cl 1028 (-9223372036854775808) 9223372036854775807) (.b .pmul .i64 (.cl 1022 (-2147483648) 2147483647) (.cl 1022 (-2147483648) 2147483647))))
  (.br (.b .lt .i64 (.cl 1023 (-2147483648) 2147483647) (.c (-1342177280)))
  (.leaf (.c 0))
  (.br (.b .lt .i64 (.c 1342177280) (.cl 1023 (-2147483648) 2147483647))
  (.leaf (.c 0))
  (.new 1034 (.w .i64 (.b .padd .i64 (.cl 1031 (-9223372036854775808) 9223372036854775807) (.b .pmul .i64 (.cl 1023 (-2147483648) 2147483647) (.cl 1023 (-2147483648) 2147483647))))
  (.br (.b .lt .i64 (.w .i64 (.b .psub .i64 (.cl 1034 (-9223372036854775808) 9223372036854775807) (.c 1152921504606846976))) (.c 68719476736))
  (.br (.nt (.b .lt .i64 (.c (-68719476736)) (.w .i64 (.b .psub .i64 (.cl 1034 (-9223372036854775808) 9223372036854775807) (.c 1152921504606846976)))))
  (.leaf (.c 0))
  (.new 1037 (.w .i64 (.b .psub .i64 (.b .pmul .i64 (.cl 1021 (-2147483648) 2147483647) (.v 0)) (.b .pmul .i64 (.cl 1020 (-2147483648) 2147483647) (.v 1))))
  (.br (.b .le .i64 (.c 8589934592) (.cl 1037 (-9223372036854775808) 9223372036854775807))
  (.leaf (.c 0))
  (.br (.b .le .i64 (.cl 1037 (-9223372036854775808) 9223372036854775807) (.c (-8589934592)))
  (.leaf (.c 0))
  (.new 1040 (.w .i64 (.b .psub .i64 (.b .pmul .i64 (.cl 1022 (-2147483648) 2147483647) (.v 0)) (.b .pmul .i64 (.cl 1020 (-2147483648) 2147483647) (.v 2))))
  (.br (.b .le .i64 (.c 8589934592) (.cl 1040 (-9223372036854775808) 9223372036854775807))
  (.leaf (.c 0))
  (.br (.b .le .i64 (.cl 1040 (-9223372036854775808) 9223372036854775807) (.c (-8589934592)))
  (.leaf (.c 0))
  (.new 1043 (.w .i64 (.b .psub .i64 (.b .pmul .i64 (.cl 1022 (-2147483648) 2147483647) (.v 1)) (.b .pmul .i64 (.cl 1021 (-2147483648) 2147483647) (.v 2))))
  (.br (.b .le .i64 (.c 8589934592) (.cl 1043 (-9223372036854775808) 9223372036854775807))
  (.leaf (.c 0))
  (.br (.b .le .i64 (.cl 1043 (-9223372036854775808) 9223372036854775807) (.c (-8589934592)))
  (.leaf (.c 0))
  (.new 1046 (.w .i64 (.b .psub .i64 (.b .pmul .i64 (.cl 1023 (-2147483648) 2147483647) (.v 0)) (.b .pmul .i64 (.cl 1020 (-2147483648) 2147483647) (.v 3))))
  (.br (.b .le .i64 (.c 8589934592) (.cl 1046 (-9223372036854775808) 9223372036854775807))
  (.leaf (.c 0))
  (.br (.b .le .i64 (.cl 1046 (-9223372036854775808) 9223372036854775807) (.c (-8589934592)))
  (.leaf (.c 0))
  (.new 1049 (.w .i64 (.b .psub .i64 (.b .pmul .i64 (.cl 1023 (-2147483648) 2147483647) (.v 1)) (.b .pmul .i64 (.cl 1021 (-2147483648) 2147483647) (.v 3))))
  (.br (.b .le .i64 (.c 8589934592) (.cl 1049 (-9223372036854775808) 9223372036854775807))
  (.leaf (.c 0))
  (.br (.b .le .i64 (.cl 1049 (-9223372036854775808) 9223372036854775807) (.c (-8589934592)))
  (.leaf (.c 0))
  (.new 1052 (.w .i64 (.b .psub .i64 (.b .pmul .i64 (.cl 1023 (-2147483648) 2147483647) (.v 2)) (.b .pmul .i64 (.cl 1022 (-2147483648) 2147483647) (.v 3))))
  (.br (.b .le .i64 (.c 8589934592) (.cl 1052 (-9223372036854775808) 9223372036854775807))
  (.leaf (.c 0))
  (.br (.b .le .i64 (.cl 1052 (-9223372036854775808) 9223372036854775807) (.c (-8589934592)))
  (.leaf (.c 0))
  (.leaf (.c 1)))))))))))))))))))))
  (.leaf (.c 0))))))))))))))))))))))))))))))))))))))

def P (a0 a1 a2 a3 : Int) : Prop :=
 ∀ y1000 : Int, y1000 = (sat32 ((mulqZ a0 a0) + (mulqZ a1 a1))) → (-2147483648 ≤ y1000 ∧ y1000 ≤ 2147483647) →
 ∀ y1001 : Int, y1001 = (sat32 (y1000 + (mulqZ a2 a2))) → (-2147483648 ≤ y1001 ∧ y1001 ≤ 2147483647) →
 ∀ y1002 : Int, y1002 = (sat32 (y1001 + (mulqZ a3 a3))) → (-2147483648 ≤ y1002 ∧ y1002 ≤ 2147483647) →
 (((bool01 (decide (y1002 < 536870912))) ≠ 0 →
  (1 : Int) ≠ 0) ∧ ((bool01 (decide (y1002 < 536870912))) = 0 →
  (((bool01 (decide (2146435072 < y1002))) ≠ 0 →
   (1 : Int) ≠ 0) ∧ ((bool01 (decide (2146435072 < y1002))) = 0 →
   ∀ y1005 : Int, y1005 = (32 - (blen (IntKind.wrap .u32 y1002))) → (0 ≤ y1005 ∧ y1005 ≤ 32) →
   ∀ y1006 : Int, y1006 = (shrZ .u32 (shlZ .u32 (IntKind.wrap .u32 y1002) (band .i32 (band .i32 y1005 30) 31)) 2) → (0 ≤ y1006 ∧ y1006 ≤ 1073741823) →
   ∀ y1007 : Int, y1007 = (minZ (1184766729 - (mulqZ 715827883 y1006)) 2147483647) → (-962716918 ≤ y1007 ∧ y1007 ≤ 2147483647) →
   ∀ y1008 : Int, y1008 = (IntKind.wrap .i32 (shlZ .u32 (IntKind.wrap .u32 (mulqZ y1006 (mulqZ y1007 y1007))) 2)) → (-2147483648 ≤ y1008 ∧ y1008 ≤ 2147483647) →
   ∀ y1009 : Int, y1009 = (mulqZ y1007 (minZ (1073741824 - y1008) 2147483647)) → (-2147483648 ≤ y1009 ∧ y1009 ≤ 2147483647) →
   ∀ y1010 : Int, y1010 = (minZ (y1007 + (shrZ .i32 y1009 1)) 2147483647) → (-2036458742 ≤ y1010 ∧ y1010 ≤ 2147483647) →
   ∀ y1011 : Int, y1011 = (IntKind.wrap .i32 (shlZ .u32 (IntKind.wrap .u32 (mulqZ y1006 (mulqZ y1010 y1010))) 2)) → (-2147483648 ≤ y1011 ∧ y1011 ≤ 2147483647) →
   ∀ y1012 : Int, y1012 = (mulqZ y1010 (minZ (1073741824 - y1011) 2147483647)) → (-2147483648 ≤ y1012 ∧ y1012 ≤ 2147483647) →
   ∀ y1013 : Int, y1013 = (sat32 (y1010 + (shrZ .i32 y1012 1))) → (-2147483648 ≤ y1013 ∧ y1013 ≤ 2147483647) →
   ∀ y1014 : Int, y1014 = (IntKind.wrap .i32 (shlZ .u32 (IntKind.wrap .u32 (mulqZ y1006 (mulqZ y1013 y1013))) 2)) → (-2147483648 ≤ y1014 ∧ y1014 ≤ 2147483647) →
   ∀ y1015 : Int, y1015 = (mulqZ y1013 (minZ (1073741824 - y1014) 2147483647)) → (-2147483648 ≤ y1015 ∧ y1015 ≤ 2147483647) →
   ∀ y1016 : Int, y1016 = (sat32 (y1013 + (shrZ .i32 y1015 1))) → (-2147483648 ≤ y1016 ∧ y1016 ≤ 2147483647) →
   ∀ y1017 : Int, y1017 = (IntKind.wrap .i32 (shlZ .u32 (IntKind.wrap .u32 (mulqZ y1006 (mulqZ y1016 y1016))) 2)) → (-2147483648 ≤ y1017 ∧ y1017 ≤ 2147483647) →
   ∀ y1018 : Int, y1018 = (mulqZ y1016 (minZ (1073741824 - y1017) 2147483647)) → (-2147483648 ≤ y1018 ∧ y1018 ≤ 2147483647) →
   ∀ y1019 : Int, y1019 = (sat32 (y1016 + (shrZ .i32 y1018 1))) → (-2147483648 ≤ y1019 ∧ y1019 ≤ 2147483647) →
   ∀ y1020 : Int, y1020 = (IntKind.wrap .i32 (shlZ .u32 (IntKind.wrap .u32 (mulqZ a0 y1019)) (band .i32 (shrZ .u32 (band .i32 y1005 30) 1) 31))) → (-2147483648 ≤ y1020 ∧ y1020 ≤ 2147483647) →
   ∀ y1021 : Int, y1021 = (IntKind.wrap .i32 (shlZ .u32 (IntKind.wrap .u32 (mulqZ a1 y1019)) (band .i32 (shrZ .u32 (band .i32 y1005 30) 1) 31))) → (-2147483648 ≤ y1021 ∧ y1021 ≤ 2147483647) →
   ∀ y1022 : Int, y1022 = (IntKind.wrap .i32 (shlZ .u32 (IntKind.wrap .u32 (mulqZ a2 y1019)) (band .i32 (shrZ .u32 (band .i32 y1005 30) 1) 31))) → (-2147483648 ≤ y1022 ∧ y1022 ≤ 2147483647) →
   ∀ y1023 : Int, y1023 = (IntKind.wrap .i32 (shlZ .u32 (IntKind.wrap .u32 (mulqZ a3 y1019)) (band .i32 (shrZ .u32 (band .i32 y1005 30) 1) 31))) → (-2147483648 ≤ y1023 ∧ y1023 ≤ 2147483647) →
   (((bool01 (decide (y1020 < (-1342177280)))) ≠ 0 →
    (0 : Int) ≠ 0) ∧ ((bool01 (decide (y1020 < (-1342177280)))) = 0 →
    (((bool01 (decide (1342177280 < y1020))) ≠ 0 →
     (0 : Int) ≠ 0) ∧ ((bool01 (decide (1342177280 < y1020))) = 0 →
     (((bool01 (decide (y1021 < (-1342177280)))) ≠ 0 →
      (0 : Int) ≠ 0) ∧ ((bool01 (decide (y1021 < (-1342177280)))) = 0 →
      (((bool01 (decide (1342177280 < y1021))) ≠ 0 →
       (0 : Int) ≠ 0) ∧ ((bool01 (decide (1342177280 < y1021))) = 0 →
       ∀ y1028 : Int, y1028 = (IntKind.wrap .i64 ((y1020 * y1020) + (y1021 * y1021))) → (-9223372036854775808 ≤ y1028 ∧ y1028 ≤ 9223372036854775807) →
       (((bool01 (decide (y1022 < (-1342177280)))) ≠ 0 →
        (0 : Int) ≠ 0) ∧ ((bool01 (decide (y1022 < (-1342177280)))) = 0 →
        (((bool01 (decide (1342177280 < y1022))) ≠ 0 →
         (0 : Int) ≠ 0) ∧ ((bool01 (decide (1342177280 < y1022))) = 0 →
         ∀ y1031 : Int, y1031 = (IntKind.wrap .i64 (y1028 + (y1022 * y1022))) → (-9223372036854775808 ≤ y1031 ∧ y1031 ≤ 9223372036854775807) →
         (((bool01 (decide (y1023 < (-1342177280)))) ≠ 0 →
          (0 : Int) ≠ 0) ∧ ((bool01 (decide (y1023 < (-1342177280)))) = 0 →
          (((bool01 (decide (1342177280 < y1023))) ≠ 0 →
           (0 : Int) ≠ 0) ∧ ((bool01 (decide (1342177280 < y1023))) = 0 →
           ∀ y1034 : Int, y1034 = (IntKind.wrap .i64 (y1031 + (y1023 * y1023))) → (-9223372036854775808 ≤ y1034 ∧ y1034 ≤ 9223372036854775807) →
           (((bool01 (decide ((IntKind.wrap .i64 (y1034 - 1152921504606846976)) < 68719476736))) ≠ 0 →
            (((bool01 ((bool01 (decide ((-68719476736) < (IntKind.wrap .i64 (y1034 - 1152921504606846976))))) == 0)) ≠ 0 →
             (0 : Int) ≠ 0) ∧ ((bool01 ((bool01 (decide ((-68719476736) < (IntKind.wrap .i64 (y1034 - 1152921504606846976))))) == 0)) = 0 →
             ∀ y1037 : Int, y1037 = (IntKind.wrap .i64 ((y1021 * a0) - (y1020 * a1))) → (-9223372036854775808 ≤ y1037 ∧ y1037 ≤ 9223372036854775807) →
             (((bool01 (decide (8589934592 ≤ y1037))) ≠ 0 →
              (0 : Int) ≠ 0) ∧ ((bool01 (decide (8589934592 ≤ y1037))) = 0 →
              (((bool01 (decide (y1037 ≤ (-8589934592)))) ≠ 0 →
               (0 : Int) ≠ 0) ∧ ((bool01 (decide (y1037 ≤ (-8589934592)))) = 0 →
               ∀ y1040 : Int, y1040 = (IntKind.wrap .i64 ((y1022 * a0) - (y1020 * a2))) → (-9223372036854775808 ≤ y1040 ∧ y1040 ≤ 9223372036854775807) →
               (((bool01 (decide (8589934592 ≤ y1040))) ≠ 0 →
                (0 : Int) ≠ 0) ∧ ((bool01 (decide (8589934592 ≤ y1040))) = 0 →
                (((bool01 (decide (y1040 ≤ (-8589934592)))) ≠ 0 →
                 (0 : Int) ≠ 0) ∧ ((bool01 (decide (y1040 ≤ (-8589934592)))) = 0 →
                 ∀ y1043 : Int, y1043 = (IntKind.wrap .i64 ((y1022 * a1) - (y1021 * a2))) → (-9223372036854775808 ≤ y1043 ∧ y1043 ≤ 9223372036854775807) →
                 (((bool01 (decide (8589934592 ≤ y1043))) ≠ 0 →
                  (0 : Int) ≠ 0) ∧ ((bool01 (decide (8589934592 ≤ y1043))) = 0 →
                  (((bool01 (decide (y1043 ≤ (-8589934592)))) ≠ 0 →
                   (0 : Int) ≠ 0) ∧ ((bool01 (decide (y1043 ≤ (-8589934592)))) = 0 →
                   ∀ y1046 : Int, y1046 = (IntKind.wrap .i64 ((y1023 * a0) - (y1020 * a3))) → (-9223372036854775808 ≤ y1046 ∧ y1046 ≤ 9223372036854775807) →
                   (((bool01 (decide (8589934592 ≤ y1046))) ≠ 0 →
                    (0 : Int) ≠ 0) ∧ ((bool01 (decide (8589934592 ≤ y1046))) = 0 →
                    (((bool01 (decide (y1046 ≤ (-8589934592)))) ≠ 0 →
                     (0 : Int) ≠ 0) ∧ ((bool01 (decide (y1046 ≤ (-8589934592)))) = 0 →
                     ∀ y1049 : Int, y1049 = (IntKind.wrap .i64 ((y1023 * a1) - (y1021 * a3))) → (-9223372036854775808 ≤ y1049 ∧ y1049 ≤ 9223372036854775807) →
                     (((bool01 (decide (8589934592 ≤ y1049))) ≠ 0 →
                      (0 : Int) ≠ 0) ∧ ((bool01 (decide (8589934592 ≤ y1049))) = 0 →
                      (((bool01 (decide (y1049 ≤ (-8589934592)))) ≠ 0 →
                       (0 : Int) ≠ 0) ∧ ((bool01 (decide (y1049 ≤ (-8589934592)))) = 0 →
                       ∀ y1052 : Int, y1052 = (IntKind.wrap .i64 ((y1023 * a2) - (y1022 * a3))) → (-9223372036854775808 ≤ y1052 ∧ y1052 ≤ 9223372036854775807) →
                       (((bool01 (decide (8589934592 ≤ y1052))) ≠ 0 →
                        (0 : Int) ≠ 0) ∧ ((bool01 (decide (8589934592 ≤ y1052))) = 0 →
                        (((bool01 (decide (y1052 ≤ (-8589934592)))) ≠ 0 →
                         (0 : Int) ≠ 0) ∧ ((bool01 (decide (y1052 ≤ (-8589934592)))) = 0 →
                         (1 : Int) ≠ 0))))))))))))))))))))))))))) ∧ ((bool01 (decide ((IntKind.wrap .i64 (y1034 - 1152921504606846976)) < 68719476736))) = 0 →
            (0 : Int) ≠ 0))))))))))))))))))))))

theorem plain (a0 a1 a2 a3 : Int) : T.holdsP (cxOf 2 [(-2147483648, 2147483647), (-2147483648, 2147483647), (-2147483648, 2147483647), (-2147483648, 2147483647)]) (envOf [a0, a1, a2, a3]) tree = P a0 a1 a2 a3 := by kernel_rfl

set_option maxHeartbeats 1000000 in
theorem holds (a0 a1 a2 a3 : Int) (l0 : -2147483648 ≤ a0) (u0 : a0 ≤ 2147483647) (l1 : -2147483648 ≤ a1) (u1 : a1 ≤ 2147483647) (l2 : -2147483648 ≤ a2) (u2 : a2 ≤ 2147483647) (l3 : -2147483648 ≤ a3) (u3 : a3 ≤ 2147483647) : P a0 a1 a2 a3 := by
  unfold P
  simp only [b01_ne, b01_eq, b01_beq_ne, b01_beq_eq]
  intro y0 e0 _ y1 e1 _ n en _
  refine ⟨fun _ => by decide, fun g1 => ⟨fun _ => by decide, fun g2 => ?_⟩⟩
  obtain ⟨p1, p2⟩ := norm_near e0 e1 en (by omega)
  intro y5 e5 _ y6 e6 _ y7 e7 b7 y8 e8 _ y9 e9 b9 y10 e10 _ y11 e11 _ y12 e12 _ y13 e13 _ y14 e14 _ y15 e15 _ y16 e16 _ y17 e17 _ y18 e18 _ z ez _
  have hz := steps e7 b7.1 e8 e9 b9 e10 e11 e12 e13 e14 e15 e16 e17 e18 ez
  obtain ⟨h, hh, q1, q2, q3, q4, q5⟩ := level (x := n) (by omega) (by omega)
  rw [← e5] at q1
  obtain ⟨X, hX⟩ : ∃ X, X = n * 2 ^ (2 * h) := ⟨_, rfl⟩
  rw [q1, q2, q3, ← hX] at e6
  rw [← hX] at q4 q5
  have e6' : y6 = X / 4 := e6.trans (shr_eq (k := .u32) (n := 2) (by decide) X)
  obtain ⟨z0, z1, z2, v1, v2⟩ := root_near q4 q5 e6' hz
  obtain ⟨Q, hQ⟩ : ∃ Q : Int, Q = 2 ^ h := ⟨_, rfl⟩
  have hXQ : X = n * (Q * Q) := by rw [hX, ← pow_sq, ← hQ]
  have r0 := sq_nonneg' a0
  have r1 := sq_nonneg' a1
  have r2 := sq_nonneg' a2
  have r3 := sq_nonneg' a3
  obtain ⟨_, _, s0, f0, c0, d0, B0, B0'⟩ := part_near (a := a0) hh hQ hX q5 (by omega) v1 v2 p2 (by omega)
  obtain ⟨_, _, s1, f1, c1, d1, B1, B1'⟩ := part_near (a := a1) hh hQ hX q5 (by omega) v1 v2 p2 (by omega)
  obtain ⟨_, _, s2, f2, c2, d2, B2, B2'⟩ := part_near (a := a2) hh hQ hX q5 (by omega) v1 v2 p2 (by omega)
  obtain ⟨_, _, s3, f3, c3, d3, B3, B3'⟩ := part_near (a := a3) hh hQ hX q5 (by omega) v1 v2 p2 (by omega)
  have hsh : band .i32 (shrZ .u32 (band .i32 y5 30) 1) 31 = h := by
    rw [q1, half_eq _ (by decide), show 2 * (h : Int) / 2 = h by omega]
    exact band31' ⟨h, by omega⟩
  rw [hsh, f0, f1, f2, f3]
  obtain ⟨n1, n2⟩ := unit_norm hXQ (by omega) v1 v2 p1 p2 (sq_near B0 B0' c0 d0) (sq_near B1 B1' c1 d1) (sq_near B2 B2' c2 d2) (sq_near B3 B3' c3 d3)
  have x10 := cross_near (a := a1) (b := a0) (s := s1) (t := s0) (z := z) (Q := Q) (N := n) (by omega) (by omega) (by omega) c1 d1 c0 d0
  have x20 := cross_near (a := a2) (b := a0) (s := s2) (t := s0) (z := z) (Q := Q) (N := n) (by omega) (by omega) (by omega) c2 d2 c0 d0
  have x21 := cross_near (a := a2) (b := a1) (s := s2) (t := s1) (z := z) (Q := Q) (N := n) (by omega) (by omega) (by omega) c2 d2 c1 d1
  have x30 := cross_near (a := a3) (b := a0) (s := s3) (t := s0) (z := z) (Q := Q) (N := n) (by omega) (by omega) (by omega) c3 d3 c0 d0
  have x31 := cross_near (a := a3) (b := a1) (s := s3) (t := s1) (z := z) (Q := Q) (N := n) (by omega) (by omega) (by omega) c3 d3 c1 d1
  have x32 := cross_near (a := a3) (b := a2) (s := s3) (t := s2) (z := z) (Q := Q) (N := n) (by omega) (by omega) (by omega) c3 d3 c2 d2
  have k0 : -1342177280 ≤ s0 ∧ s0 ≤ 1342177280 := by omega
  have k1 : -1342177280 ≤ s1 ∧ s1 ≤ 1342177280 := by omega
  have k2 : -1342177280 ≤ s2 ∧ s2 ≤ 1342177280 := by omega
  have k3 : -1342177280 ≤ s3 ∧ s3 ≤ 1342177280 := by omega
  have t0 := sq_nonneg' s0
  have t1 := sq_nonneg' s1
  have t2 := sq_nonneg' s2
  have t3 := sq_nonneg' s3
  have w : ∀ x : Int, -9223372036854775808 ≤ x → x ≤ 9223372036854775807 → IntKind.wrap .i64 x = x := fun x h1 h2 => wrap_in _ _ (by simp [klo]; omega) (by simp [khi]; omega)
  clear e0 e1 en e5 e6 e7 e8 e9 e10 e11 e12 e13 e14 e15 e16 e17 e18 ez hz q1 q2 q3 q4 q5 hX e6' v1 v2 hQ hXQ f0 f1 f2 f3 c0 c1 c2 c3 d0 d1 d2 d3 B0 B0' B1 B1' B2 B2' B3 B3' hsh p1 p2 r0 r1 r2 r3
  intro y20 e20 _ y21 e21 _ y22 e22 _ y23 e23 _
  subst e20; subst e21; subst e22; subst e23
  refine ⟨fun _ => by omega, fun _ => ⟨fun _ => by omega, fun _ => ⟨fun _ => by omega, fun _ => ⟨fun _ => by omega, fun _ => ?_⟩⟩⟩⟩
  intro y28 e28 _
  refine ⟨fun _ => by omega, fun _ => ⟨fun _ => by omega, fun _ => ?_⟩⟩
  intro y31 e31 _
  refine ⟨fun _ => by omega, fun _ => ⟨fun _ => by omega, fun _ => ?_⟩⟩
  intro y34 e34 _
  rw [w _ (by omega) (by omega)] at e28
  rw [e28, w _ (by omega) (by omega)] at e31
  rw [e31, w _ (by omega) (by omega)] at e34
  have e35 : IntKind.wrap .i64 (y34 - 1152921504606846976) = y34 - 1152921504606846976 := w _ (by omega) (by omega)
  rw [e35]
  refine ⟨fun _ => ⟨fun hc => ?_, fun _ => ?_⟩, fun _ => by omega⟩
  · exact absurd (show (-68719476736 : Int) < y34 - 1152921504606846976 by omega) hc
  rw [w _ (by omega) (by omega), w _ (by omega) (by omega), w _ (by omega) (by omega), w _ (by omega) (by omega), w _ (by omega) (by omega), w _ (by omega) (by omega)]
  intro y37 e37 _
  refine ⟨fun _ => by omega, fun _ => ⟨fun _ => by omega, fun _ => ?_⟩⟩
  intro y40 e40 _
  refine ⟨fun _ => by omega, fun _ => ⟨fun _ => by omega, fun _ => ?_⟩⟩
  intro y43 e43 _
  refine ⟨fun _ => by omega, fun _ => ⟨fun _ => by omega, fun _ => ?_⟩⟩
  intro y46 e46 _
  refine ⟨fun _ => by omega, fun _ => ⟨fun _ => by omega, fun _ => ?_⟩⟩
  intro y49 e49 _
  refine ⟨fun _ => by omega, fun _ => ⟨fun _ => by omega, fun _ => ?_⟩⟩
  intro y52 e52 _
  exact ⟨fun _ => by omega, fun _ => ⟨fun _ => by omega, fun _ => by decide⟩⟩

theorem walk (a0 a1 a2 a3 : Int) (w0 : (Lit.int .i32 a0).wf = true) (w1 : (Lit.int .i32 a1).wf = true) (w2 : (Lit.int .i32 a2).wf = true) (w3 : (Lit.int .i32 a3).wf = true) (w : World) :
    Calls Try.prog 13 #[.agg #[.int .i32 a0, .int .i32 a1, .int .i32 a2, .int .i32 a3]] w fun e w' => e = .returned (.bool true) ∧ Below w.heap.size w w' :=
  truthP_of (runOf_ok smAc_ok 2 [(-2147483648, 2147483647), (-2147483648, 2147483647), (-2147483648, 2147483647), (-2147483648, 2147483647)]) (envOf_ok (bnd_cons (wf_bd w0) (bnd_cons (wf_bd w1) (bnd_cons (wf_bd w2) (bnd_cons (wf_bd w3) (bnd_nil _)))))) (f := 13) (args := [.agg [.int .i32 (.v 0), .int .i32 (.v 1), .int .i32 (.v 2), .int .i32 (.v 3)]]) (t := tree) (by kernel_rfl) (by kernel_rfl)
    (by rw [plain]; exact holds a0 a1 a2 a3 (wf_bd w0).1 (wf_bd w0).2 (wf_bd w1).1 (wf_bd w1).2 (wf_bd w2).1 (wf_bd w2).2 (wf_bd w3).1 (wf_bd w3).2) rfl w

/-! ### the row's step -/
set_option maxRecDepth 100000 in
theorem lifted (os : Os) (started : os.Started) (H : Type) (enc : TypeId × Value → H) :
    ReturnsInHanded {} Try.checked os 13 .any (Rows.quatUnitsSpec.pre6 enc Try.prog Try.f13 Rows.quatUnitsRow.domain false) (Rows.quatUnitsSpec.post enc Try.prog Try.f13 false true false false) := by
  refine returnsInHanded_of_change (C := Try.checked) own started (by kernel_rfl) Try.func13
    (ChangeSpec.witness6 (enc := enc) (C := Try.checked) false ⟨#[], #[.agg #[.int .i32 0, .int .i32 0, .int .i32 0, .int .i32 0]], []⟩ 8 (by kernel_rfl) (by kernel_rfl) (by kernel_rfl) (by kernel_rfl)) ?_
  intro W base args ds gs before hval0 hW hcnd _
  have hval : ∀ (j : Nat) t v, Try.f13.params[j]? = some t → args[j]? = some v → Value.okWide Try.prog W .any base t v := hval0
  have hW' := hW
  obtain ⟨p, q, hA0, hV, rfl, hfz, hnd⟩ := hW
  have hA : DataW.TrodAll enc Try.prog W 0 (fun _ => true) true Try.f13.params.toList args.toList ds p := hA0
  rw [Try.params13] at hA hval
  obtain ⟨v0, vs0, d0, ds0, p0, q0, hargs, rfl, rfl, h0, r0⟩ := trodAll_cons hA
  obtain ⟨rfl, rfl, rfl⟩ := trodAll_nil r0
  obtain rfl : args = #[v0] := by cases args; simp_all
  obtain ⟨rfl, rfl⟩ := trodVars_none hV
  obtain ⟨xs0, hx0, rfl, rfl, rfl, hw0⟩ := open_arrI (n := 4) Try.underlying46 Try.underlying21 (by kernel_rfl) (by kernel_rfl) (hval 0 46 v0 rfl rfl) h0
  obtain ⟨a0, a1, a2, a3, rfl⟩ := list4 hx0
  have w0 := hw0 a0 (by simp)
  have w1 := hw0 a1 (by simp)
  have w2 := hw0 a2 (by simp)
  have w3 := hw0 a3 (by simp)
  clear hA0 hval0
  simp only [List.append_nil] at hW'
  refine (walk a0 a1 a2 a3 w0 w1 w2 w3 W).mono fun e W' ⟨he, hg⟩ => ?_
  subst he
  exact ⟨_, rfl, post_below (pa := []) (pv := []) hW' hg (fun _ _ _ => (trodAll_cons_mk (shut_bool Try.underlying4 _) trodAll_mk0)) (fun sp _ => (trodAll_cons_mk (shut_arrI (n := 4) (xs := [a0, a1, a2, a3]) Try.underlying46 Try.underlying21 (by kernel_rfl) (by kernel_rfl) rfl hw0) trodAll_mk0)) (fun _ _ => rfl) rfl
    (ok_one (by kernel_rfl) rfl (okWide_bool_mk Try.underlying4 _))⟩

theorem over : Rows.quatUnitsRow.holds Try.pinned (OpenSpec.ofChange Rows.quatUnitsSpec) :=
  OpenClaim.holds_of_wide 13 Try.f13 rfl rfl rfl rfl rfl rfl rfl ⟨rfl, rfl, rfl, rfl, rfl⟩ rfl rfl rfl rfl rfl (by kernel_rfl) Try.func13 (by kernel_rfl)
    (of_decide_eq_true (by kernel_rfl)) (by unfold Func.isWrapper; first | (rw [if_pos (by decide +kernel)]; kernel_rfl) | (rw [if_neg (by decide +kernel)]; exact ⟨rfl, rfl⟩))
    (fun os started H enc _ => lifted os started H enc)

/-- the statement -/
theorem proved : Rows.QuatUnitsSaid :=
  over
#print axioms proved
end Go.Proofs.Ytjooaieolphomaa.quatUnits
