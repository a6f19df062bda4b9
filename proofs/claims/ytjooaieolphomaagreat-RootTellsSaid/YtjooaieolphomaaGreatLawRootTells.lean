/-
  The law RootTells answers true at every input: the law's function is run by the engine (a program's symbolic run, proved sound), and the tree of its answers, as a plain statement, is shown to hold. No condition.
-/
import Derived.Test.YtjooaieolphomaaGreatRows
import Derived.Test.YtjooaieolphomaaGreatTmKa
import Derived.Test.YtjooaieolphomaaGreatEngT
import Derived.Test.YtjooaieolphomaaGreatPlA
import Derived.Test.YtjooaieolphomaaGreatPlR
import Derived.Test.YtjooaieolphomaaGreatPlS
import Derived.Test.YtjooaieolphomaaGreatPlU
import Derived.Test.YtjooaieolphomaaGreatPlV
import Derived.WalkKit
import Derived.ProofKit
import Derived.OpenShut
namespace Go.Proofs.YtjooaieolphomaaGreat.rootTells
open Go.ChangeShapes Go.WideShapes Go.ChangeAt Go.RowKit
open Go.Eng
set_option linter.unusedVariables false
set_option linter.unusedSimpArgs false

theorem own : ownKnob Tryz.prog.godebug = none := by kernel_rfl

set_option maxRecDepth 100000
def tree : T E :=
(.new 1000 (.b .psub .i64 (.c 32) (.f 0 (.w .u32 (.v 0)) (.c 0) (.c 0)))
  (.new 1001 (.b .shl .u32 (.w .u32 (.v 0)) (.b .and .i32 (.b .and .i32 (.cl 1000 0 32) (.c 30)) (.c 31)))
  (.br (.b .le .i64 (.c 32) (.cl 1000 0 32))
  (.new 1003 (.b .psub .i64 (.b .psub .i64 (.cl 1000 0 32) (.c 32)) (.b .rem .i64 (.b .psub .i64 (.cl 1000 0 32) (.c 32)) (.c 2)))
  (.new 1004 (.w .i32 (.b .shl .u32 (.w .u32 (.v 0)) (.b .and .i32 (.cl 1003 (-33) 1) (.c 31))))
  (.new 1005 (.b .shr .u32 (.b .shl .u32 (.w .u32 (.v 0)) (.b .and .i32 (.b .and .i32 (.cl 1000 0 32) (.c 30)) (.c 31))) (.c 2))
  (.new 1006 (.b .min .i64 (.b .psub .i64 (.c 1184766729) (.f 1 (.c 715827883) (.cl 1005 0 1073741823) (.c 0))) (.c 2147483647))
  (.new 1007 (.w .i32 (.b .shl .u32 (.w .u32 (.f 1 (.cl 1005 0 1073741823) (.f 1 (.cl 1006 (-962716918) 2147483647) (.cl 1006 (-962716918) 2147483647) (.c 0)) (.c 0))) (.c 2)))
  (.new 1008 (.f 1 (.cl 1006 (-962716918) 2147483647) (.b .min .i64 (.b .psub .i64 (.c 1073741824) (.cl 1007 (-2147483648) 2147483647)) (.c 2147483647)) (.c 0))
  (.new 1009 (.b .min .i64 (.b .padd .i64 (.cl 1006 (-962716918) 2147483647) (.b .shr .i32 (.cl 1008 (-2147483648) 2147483647) (.c 1))) (.c 2147483647))
  (.new 1010 (.w .i32 (.b .shl .u32 (.w .u32 (.f 1 (.cl 1005 0 1073741823) (.f 1 (.cl 1009 (-2036458742) 2147483647) (.cl 1009 (-2036458742) 2147483647) (.c 0)) (.c 0))) (.c 2)))
  (.new 1011 (.f 1 (.cl 1009 (-2036458742) 2147483647) (.b .min .i64 (.b .psub .i64 (.c 1073741824) (.cl 1010 (-2147483648) 2147483647)) (.c 2147483647)) (.c 0))
  (.new 1012 (.b .min .i64 (.b .max .i64 (.b .padd .i64 (.cl 1009 (-2036458742) 2147483647) (.b .shr .i32 (.cl 1011 (-2147483648) 2147483647) (.c 1))) (.c (-2147483648))) (.c 2147483647))
  (.new 1013 (.w .i32 (.b .shl .u32 (.w .u32 (.f 1 (.cl 1005 0 1073741823) (.f 1 (.cl 1012 (-2147483648) 2147483647) (.cl 1012 (-2147483648) 2147483647) (.c 0)) (.c 0))) (.c 2)))
  (.new 1014 (.f 1 (.cl 1012 (-2147483648) 2147483647) (.b .min .i64 (.b .psub .i64 (.c 1073741824) (.cl 1013 (-2147483648) 2147483647)) (.c 2147483647)) (.c 0))
  (.new 1015 (.b .min .i64 (.b .max .i64 (.b .padd .i64 (.cl 1012 (-2147483648) 2147483647) (.b .shr .i32 (.cl 1014 (-2147483648) 2147483647) (.c 1))) (.c (-2147483648))) (.c 2147483647))
  (.new 1016 (.w .i32 (.b .shl .u32 (.w .u32 (.f 1 (.cl 1005 0 1073741823) (.f 1 (.cl 1015 (-2147483648) 2147483647) (.cl 1015 (-2147483648) 2147483647) (.c 0)) (.c 0))) (.c 2)))
  (.new 1017 (.f 1 (.cl 1015 (-2147483648) 2147483647) (.b .min .i64 (.b .psub .i64 (.c 1073741824) (.cl 1016 (-2147483648) 2147483647)) (.c 2147483647)) (.c 0))
  (.new 1018 (.b .min .i64 (.b .max .i64 (.b .padd .i64 (.cl 1015 (-2147483648) 2147483647) (.b .shr .i32 (.cl 1017 (-2147483648) 2147483647) (.c 1))) (.c (-2147483648))) (.c 2147483647))
  (.new 1019 (.f 1 (.c 715827883) (.b .shr .u32 (.w .u32 (.cl 1004 (-2147483648) 2147483647)) (.c 2)) (.c 0))
  (.new 1020 (.f 1 (.b .min .i64 (.b .psub .i64 (.c 1184766729) (.cl 1019 (-2147483648) 2147483647)) (.c 2147483647)) (.b .min .i64 (.b .psub .i64 (.c 1184766729) (.cl 1019 (-2147483648) 2147483647)) (.c 2147483647)) (.c 0))
  (.new 1021 (.f 1 (.b .shr .u32 (.w .u32 (.cl 1004 (-2147483648) 2147483647)) (.c 2)) (.cl 1020 (-2147483648) 2147483647) (.c 0))
  (.new 1022 (.w .i32 (.b .shl .u32 (.w .u32 (.cl 1021 (-2147483648) 2147483647)) (.c 2)))
  (.new 1023 (.f 1 (.b .min .i64 (.b .psub .i64 (.c 1184766729) (.cl 1019 (-2147483648) 2147483647)) (.c 2147483647)) (.b .min .i64 (.b .psub .i64 (.c 1073741824) (.cl 1022 (-2147483648) 2147483647)) (.c 2147483647)) (.c 0))
  (.new 1024 (.b .min .i64 (.b .padd .i64 (.b .min .i64 (.b .psub .i64 (.c 1184766729) (.cl 1019 (-2147483648) 2147483647)) (.c 2147483647)) (.b .shr .i32 (.cl 1023 (-2147483648) 2147483647) (.c 1))) (.c 2147483647))
  (.new 1025 (.f 1 (.b .shr .u32 (.w .u32 (.cl 1004 (-2147483648) 2147483647)) (.c 2)) (.f 1 (.cl 1024 (-2036458742) 2147483647) (.cl 1024 (-2036458742) 2147483647) (.c 0)) (.c 0))
  (.new 1026 (.w .i32 (.b .shl .u32 (.w .u32 (.cl 1025 (-2147483648) 2147483647)) (.c 2)))
  (.new 1027 (.f 1 (.cl 1024 (-2036458742) 2147483647) (.b .min .i64 (.b .psub .i64 (.c 1073741824) (.cl 1026 (-2147483648) 2147483647)) (.c 2147483647)) (.c 0))
  (.new 1028 (.b .min .i64 (.b .max .i64 (.b .padd .i64 (.cl 1024 (-2036458742) 2147483647) (.b .shr .i32 (.cl 1027 (-2147483648) 2147483647) (.c 1))) (.c (-2147483648))) (.c 2147483647))
  (.new 1029 (.f 1 (.b .shr .u32 (.w .u32 (.cl 1004 (-2147483648) 2147483647)) (.c 2)) (.f 1 (.cl 1028 (-2147483648) 2147483647) (.cl 1028 (-2147483648) 2147483647) (.c 0)) (.c 0))
  (.new 1030 (.w .i32 (.b .shl .u32 (.w .u32 (.cl 1029 (-2147483648) 2147483647)) (.c 2)))
  (.new 1031 (.f 1 (.cl 1028 (-2147483648) 2147483647) (.b .min .i64 (.b .psub .i64 (.c 1073741824) (.cl 1030 (-2147483648) 2147483647)) (.c 2147483647)) (.c 0))
  (.new 1032 (.b .min .i64 (.b .max .i64 (.b .padd .i64 (.cl 1028 (-2147483648) 2147483647) (.b .shr .i32 (.cl 1031 (-2147483648) 2147483647) (.c 1))) (.c (-2147483648))) (.c 2147483647))
  (.new 1033 (.f 1 (.b .shr .u32 (.w .u32 (.cl 1004 (-2147483648) 2147483647)) (.c 2)) (.f 1 (.cl 1032 (-2147483648) 2147483647) (.cl 1032 (-2147483648) 2147483647) (.c 0)) (.c 0))
  (.new 1034 (.w .i32 (.b .shl .u32 (.w .u32 (.cl 1033 (-2147483648) 2147483647)) (.c 2)))
  (.new 1035 (.f 1 (.cl 1032 (-2147483648) 2147483647) (.b .min .i64 (.b .psub .i64 (.c 1073741824) (.cl 1034 (-2147483648) 2147483647)) (.c 2147483647)) (.c 0))
  (.new 1036 (.b .min .i64 (.b .max .i64 (.b .padd .i64 (.cl 1032 (-2147483648) 2147483647) (.b .shr .i32 (.cl 1035 (-2147483648) 2147483647) (.c 1))) (.c (-2147483648))) (.c 2147483647))
  (.br (.b .eq .i64 (.b .shr .u32 (.cl 1001 0 4294967295) (.c 2)) (.b .shr .u32 (.w .u32 (.cl 1004 (-2147483648) 2147483647)) (.c 2)))
  (.br (.b .eq .i64 (.b .shr .i32 (.b .and .i32 (.cl 1000 0 32) (.c 30)) (.c 1)) (.b .quo .i32 (.cl 1003 (-33) 1) (.c 2)))
  (.br (.b .eq .i64 (.cl 1018 (-2147483648) 2147483647) (.cl 1036 (-2147483648) 2147483647))
  (.br (.b .eq .i64 (.b .shr .u32 (.b .and .i32 (.cl 1000 0 32) (.c 30)) (.c 1)) (.b .quo .i32 (.cl 1003 (-33) 1) (.c 2)))
  (.new 1041 (.w .i32 (.b .shl .u32 (.w .u32 (.f 1 (.v 1) (.v 0) (.c 0))) (.b .and .i32 (.v 2) (.c 31))))
  (.new 1042 (.w .i32 (.b .shl .u32 (.w .u32 (.f 1 (.v 0) (.cl 1018 (-2147483648) 2147483647) (.c 0))) (.b .and .i32 (.b .shr .u32 (.b .and .i32 (.cl 1000 0 32) (.c 30)) (.c 1)) (.c 31))))
  (.new 1043 (.w .i32 (.b .shl .u32 (.w .u32 (.f 1 (.v 0) (.cl 1036 (-2147483648) 2147483647) (.c 0))) (.b .and .i32 (.b .quo .i32 (.cl 1003 (-33) 1) (.c 2)) (.c 31))))
  (.br (.b .eq .i64 (.cl 1042 (-2147483648) 2147483647) (.cl 1043 (-2147483648) 2147483647))
  (.leaf (.c 1))
  (.leaf (.c 0))))))
  (.leaf (.c 0)))
  (.leaf (.c 0)))
  (.leaf (.c 0)))
  (.leaf (.c 0)))))))))))))))))))))))))))))))))))))
  (.new 1003 (.w .i32 (.b .shl .u32 (.w .u32 (.v 0)) (.b .and .i32 (.b .psub .i64 (.cl 1000 0 32) (.b .rem .i64 (.cl 1000 0 32) (.c 2))) (.c 31))))
  (.new 1004 (.b .quo .i32 (.b .psub .i64 (.cl 1000 0 32) (.b .rem .i64 (.cl 1000 0 32) (.c 2))) (.c 2))
  (.new 1005 (.b .shr .u32 (.b .shl .u32 (.w .u32 (.v 0)) (.b .and .i32 (.b .and .i32 (.cl 1000 0 32) (.c 30)) (.c 31))) (.c 2))
  (.new 1006 (.b .min .i64 (.b .psub .i64 (.c 1184766729) (.f 1 (.c 715827883) (.cl 1005 0 1073741823) (.c 0))) (.c 2147483647))
  (.new 1007 (.w .i32 (.b .shl .u32 (.w .u32 (.f 1 (.cl 1005 0 1073741823) (.f 1 (.cl 1006 (-962716918) 2147483647) (.cl 1006 (-962716918) 2147483647) (.c 0)) (.c 0))) (.c 2)))
  (.new 1008 (.f 1 (.cl 1006 (-962716918) 2147483647) (.b .min .i64 (.b .psub .i64 (.c 1073741824) (.cl 1007 (-2147483648) 2147483647)) (.c 2147483647)) (.c 0))
  (.new 1009 (.b .min .i64 (.b .padd .i64 (.cl 1006 (-962716918) 2147483647) (.b .shr .i32 (.cl 1008 (-2147483648) 2147483647) (.c 1))) (.c 2147483647))
  (.new 1010 (.w .i32 (.b .shl .u32 (.w .u32 (.f 1 (.cl 1005 0 1073741823) (.f 1 (.cl 1009 (-2036458742) 2147483647) (.cl 1009 (-2036458742) 2147483647) (.c 0)) (.c 0))) (.c 2)))
  (.new 1011 (.f 1 (.cl 1009 (-2036458742) 2147483647) (.b .min .i64 (.b .psub .i64 (.c 1073741824) (.cl 1010 (-2147483648) 2147483647)) (.c 2147483647)) (.c 0))
  (.new 1012 (.b .min .i64 (.b .max .i64 (.b .padd .i64 (.cl 1009 (-2036458742) 2147483647) (.b .shr .i32 (.cl 1011 (-2147483648) 2147483647) (.c 1))) (.c (-2147483648))) (.c 2147483647))
  (.new 1013 (.w .i32 (.b .shl .u32 (.w .u32 (.f 1 (.cl 1005 0 1073741823) (.f 1 (.cl 1012 (-2147483648) 2147483647) (.cl 1012 (-2147483648) 2147483647) (.c 0)) (.c 0))) (.c 2)))
  (.new 1014 (.f 1 (.cl 1012 (-2147483648) 2147483647) (.b .min .i64 (.b .psub .i64 (.c 1073741824) (.cl 1013 (-2147483648) 2147483647)) (.c 2147483647)) (.c 0))
  (.new 1015 (.b .min .i64 (.b .max .i64 (.b .padd .i64 (.cl 1012 (-2147483648) 2147483647) (.b .shr .i32 (.cl 1014 (-2147483648) 2147483647) (.c 1))) (.c (-2147483648))) (.c 2147483647))
  (.new 1016 (.w .i32 (.b .shl .u32 (.w .u32 (.f 1 (.cl 1005 0 1073741823) (.f 1 (.cl 1015 (-2147483648) 2147483647) (.cl 1015 (-2147483648) 2147483647) (.c 0)) (.c 0))) (.c 2)))
  (.new 1017 (.f 1 (.cl 1015 (-2147483648) 2147483647) (.b .min .i64 (.b .psub .i64 (.c 1073741824) (.cl 1016 (-2147483648) 2147483647)) (.c 2147483647)) (.c 0))
  (.new 1018 (.b .min .i64 (.b .max .i64 (.b .padd .i64 (.cl 1015 (-2147483648) 2147483647) (.b .shr .i32 (.cl 1017 (-2147483648) 2147483647) (.c 1))) (.c (-2147483648))) (.c 2147483647))
  (.new 1019 (.f 1 (.c 715827883) (.b .shr .u32 (.w .u32 (.cl 1003 (-2147483648) 2147483647)) (.c 2)) (.c 0))
  (.new 1020 (.f 1 (.b .min .i64 (.b .psub .i64 (.c 1184766729) (.cl 1019 (-2147483648) 2147483647)) (.c 2147483647)) (.b .min .i64 (.b .psub .i64 (.c 1184766729) (.cl 1019 (-2147483648) 2147483647)) (.c 2147483647)) (.c 0))
  (.new 1021 (.f 1 (.b .shr .u32 (.w .u32 (.cl 1003 (-2147483648) 2147483647)) (.c 2)) (.cl 1020 (-2147483648) 2147483647) (.c 0))
  (.new 1022 (.w .i32 (.b .shl .u32 (.w .u32 (.cl 1021 (-2147483648) 2147483647)) (.c 2)))
  (.new 1023 (.f 1 (.b .min .i64 (.b .psub .i64 (.c 1184766729) (.cl 1019 (-2147483648) 2147483647)) (.c 2147483647)) (.b .min .i64 (.b .psub .i64 (.c 1073741824) (.cl 1022 (-2147483648) 2147483647)) (.c 2147483647)) (.c 0))
  (.new 1024 (.b .min .i64 (.b .padd .i64 (.b .min .i64 (.b .psub .i64 (.c 1184766729) (.cl 1019 (-2147483648) 2147483647)) (.c 2147483647)) (.b .shr .i32 (.cl 1023 (-2147483648) 2147483647) (.c 1))) (.c 2147483647))
  (.new 1025 (.f 1 (.b .shr .u32 (.w .u32 (.cl 1003 (-2147483648) 2147483647)) (.c 2)) (.f 1 (.cl 1024 (-2036458742) 2147483647) (.cl 1024 (-2036458742) 2147483647) (.c 0)) (.c 0))
  (.new 1026 (.w .i32 (.b .shl .u32 (.w .u32 (.cl 1025 (-2147483648) 2147483647)) (.c 2)))
  (.new 1027 (.f 1 (.cl 1024 (-2036458742) 2147483647) (.b .min .i64 (.b .psub .i64 (.c 1073741824) (.cl 1026 (-2147483648) 2147483647)) (.c 2147483647)) (.c 0))
  (.new 1028 (.b .min .i64 (.b .max .i64 (.b .padd .i64 (.cl 1024 (-2036458742) 2147483647) (.b .shr .i32 (.cl 1027 (-2147483648) 2147483647) (.c 1))) (.c (-2147483648))) (.c 2147483647))
  (.new 1029 (.f 1 (.b .shr .u32 (.w .u32 (.cl 1003 (-2147483648) 2147483647)) (.c 2)) (.f 1 (.cl 1028 (-2147483648) 2147483647) (.cl 1028 (-2147483648) 2147483647) (.c 0)) (.c 0))
  (.new 1030 (.w .i32 (.b .shl .u32 (.w .u32 (.cl 1029 (-2147483648) 2147483647)) (.c 2)))
  (.new 1031 (.f 1 (.cl 1028 (-2147483648) 2147483647) (.b .min .i64 (.b .psub .i64 (.c 1073741824) (.cl 1030 (-2147483648) 2147483647)) (.c 2147483647)) (.c 0))
  (.new 1032 (.b .min .i64 (.b .max .i64 (.b .padd .i64 (.cl 1028 (-2147483648) 2147483647) (.b .shr .i32 (.cl 1031 (-2147483648) 2147483647) (.c 1))) (.c (-2147483648))) (.c 2147483647))
  (.new 1033 (.f 1 (.b .shr .u32 (.w .u32 (.cl 1003 (-2147483648) 2147483647)) (.c 2)) (.f 1 (.cl 1032 (-2147483648) 2147483647) (.cl 1032 (-2147483648) 2147483647) (.c 0)) (.c 0))
  (.new 1034 (.w .i32 (.b .shl .u32 (.w .u32 (.cl 1033 (-2147483648) 2147483647)) (.c 2)))
  (.new 1035 (.f 1 (.cl 1032 (-2147483648) 2147483647) (.b .min .i64 (.b .psub .i64 (.c 1073741824) (.cl 1034 (-2147483648) 2147483647)) (.c 2147483647)) (.c 0))
  (.new 1036 (.b .min .i64 (.b .max .i64 (.b .padd .i64 (.cl 1032 (-2147483648) 2147483647) (.b .shr .i32 (.cl 1035 (-2147483648) 2147483647) (.c 1))) (.c (-2147483648))) (.c 2147483647))
  (.br (.b .eq .i64 (.b .shr .u32 (.cl 1001 0 4294967295) (.c 2)) (.b .shr .u32 (.w .u32 (.cl 1003 (-2147483648) 2147483647)) (.c 2)))
  (.br (.b .eq .i64 (.b .shr .i32 (.b .and .i32 (.cl 1000 0 32) (.c 30)) (.c 1)) (.cl 1004 (-2147483648) 2147483647))
  (.br (.b .eq .i64 (.cl 1018 (-2147483648) 2147483647) (.cl 1036 (-2147483648) 2147483647))
  (.br (.b .eq .i64 (.b .shr .u32 (.b .and .i32 (.cl 1000 0 32) (.c 30)) (.c 1)) (.cl 1004 (-2147483648) 2147483647))
  (.new 1041 (.w .i32 (.b .shl .u32 (.w .u32 (.f 1 (.v 1) (.v 0) (.c 0))) (.b .and .i32 (.v 2) (.c 31))))
  (.new 1042 (.w .i32 (.b .shl .u32 (.w .u32 (.f 1 (.v 0) (.cl 1018 (-2147483648) 2147483647) (.c 0))) (.b .and .i32 (.b .shr .u32 (.b .and .i32 (.cl 1000 0 32) (.c 30)) (.c 1)) (.c 31))))
  (.new 1043 (.w .i32 (.b .shl .u32 (.w .u32 (.f 1 (.v 0) (.cl 1036 (-2147483648) 2147483647) (.c 0))) (.b .and .i32 (.cl 1004 (-2147483648) 2147483647) (.c 31))))
  (.br (.b .eq .i64 (.cl 1042 (-2147483648) 2147483647) (.cl 1043 (-2147483648) 2147483647))
  (.leaf (.c 1))
  (.leaf (.c 0))))))
  (.leaf (.c 0)))
  (.leaf (.c 0)))
  (.leaf (.c 0)))
  (.leaf (.c 0))))))))))))))))))))))))))))))))))))))))

def P (a0 a1 a2 : Int) : Prop :=
 ∀ y1000 : Int, y1000 = (32 - (blen (IntKind.wrap .u32 a0))) → (0 ≤ y1000 ∧ y1000 ≤ 32) →
 ∀ y1001 : Int, y1001 = (shlZ .u32 (IntKind.wrap .u32 a0) (band .i32 (band .i32 y1000 30) 31)) → (0 ≤ y1001 ∧ y1001 ≤ 4294967295) →
 (((bool01 (decide (32 ≤ y1000))) ≠ 0 →
  ∀ y1003 : Int, y1003 = ((y1000 - 32) - (BO.ev .rem .i64 (y1000 - 32) 2)) → (-33 ≤ y1003 ∧ y1003 ≤ 1) →
  ∀ y1004 : Int, y1004 = (IntKind.wrap .i32 (shlZ .u32 (IntKind.wrap .u32 a0) (band .i32 y1003 31))) → (-2147483648 ≤ y1004 ∧ y1004 ≤ 2147483647) →
  ∀ y1005 : Int, y1005 = (shrZ .u32 (shlZ .u32 (IntKind.wrap .u32 a0) (band .i32 (band .i32 y1000 30) 31)) 2) → (0 ≤ y1005 ∧ y1005 ≤ 1073741823) →
  ∀ y1006 : Int, y1006 = (minZ (1184766729 - (mulqZ 715827883 y1005)) 2147483647) → (-962716918 ≤ y1006 ∧ y1006 ≤ 2147483647) →
  ∀ y1007 : Int, y1007 = (IntKind.wrap .i32 (shlZ .u32 (IntKind.wrap .u32 (mulqZ y1005 (mulqZ y1006 y1006))) 2)) → (-2147483648 ≤ y1007 ∧ y1007 ≤ 2147483647) →
  ∀ y1008 : Int, y1008 = (mulqZ y1006 (minZ (1073741824 - y1007) 2147483647)) → (-2147483648 ≤ y1008 ∧ y1008 ≤ 2147483647) →
  ∀ y1009 : Int, y1009 = (minZ (y1006 + (shrZ .i32 y1008 1)) 2147483647) → (-2036458742 ≤ y1009 ∧ y1009 ≤ 2147483647) →
  ∀ y1010 : Int, y1010 = (IntKind.wrap .i32 (shlZ .u32 (IntKind.wrap .u32 (mulqZ y1005 (mulqZ y1009 y1009))) 2)) → (-2147483648 ≤ y1010 ∧ y1010 ≤ 2147483647) →
  ∀ y1011 : Int, y1011 = (mulqZ y1009 (minZ (1073741824 - y1010) 2147483647)) → (-2147483648 ≤ y1011 ∧ y1011 ≤ 2147483647) →
  ∀ y1012 : Int, y1012 = (sat32 (y1009 + (shrZ .i32 y1011 1))) → (-2147483648 ≤ y1012 ∧ y1012 ≤ 2147483647) →
  ∀ y1013 : Int, y1013 = (IntKind.wrap .i32 (shlZ .u32 (IntKind.wrap .u32 (mulqZ y1005 (mulqZ y1012 y1012))) 2)) → (-2147483648 ≤ y1013 ∧ y1013 ≤ 2147483647) →
  ∀ y1014 : Int, y1014 = (mulqZ y1012 (minZ (1073741824 - y1013) 2147483647)) → (-2147483648 ≤ y1014 ∧ y1014 ≤ 2147483647) →
  ∀ y1015 : Int, y1015 = (sat32 (y1012 + (shrZ .i32 y1014 1))) → (-2147483648 ≤ y1015 ∧ y1015 ≤ 2147483647) →
  ∀ y1016 : Int, y1016 = (IntKind.wrap .i32 (shlZ .u32 (IntKind.wrap .u32 (mulqZ y1005 (mulqZ y1015 y1015))) 2)) → (-2147483648 ≤ y1016 ∧ y1016 ≤ 2147483647) →
  ∀ y1017 : Int, y1017 = (mulqZ y1015 (minZ (1073741824 - y1016) 2147483647)) → (-2147483648 ≤ y1017 ∧ y1017 ≤ 2147483647) →
  ∀ y1018 : Int, y1018 = (sat32 (y1015 + (shrZ .i32 y1017 1))) → (-2147483648 ≤ y1018 ∧ y1018 ≤ 2147483647) →
  ∀ y1019 : Int, y1019 = (mulqZ 715827883 (shrZ .u32 (IntKind.wrap .u32 y1004) 2)) → (-2147483648 ≤ y1019 ∧ y1019 ≤ 2147483647) →
  ∀ y1020 : Int, y1020 = (mulqZ (minZ (1184766729 - y1019) 2147483647) (minZ (1184766729 - y1019) 2147483647)) → (-2147483648 ≤ y1020 ∧ y1020 ≤ 2147483647) →
  ∀ y1021 : Int, y1021 = (mulqZ (shrZ .u32 (IntKind.wrap .u32 y1004) 2) y1020) → (-2147483648 ≤ y1021 ∧ y1021 ≤ 2147483647) →
  ∀ y1022 : Int, y1022 = (IntKind.wrap .i32 (shlZ .u32 (IntKind.wrap .u32 y1021) 2)) → (-2147483648 ≤ y1022 ∧ y1022 ≤ 2147483647) →
  ∀ y1023 : Int, y1023 = (mulqZ (minZ (1184766729 - y1019) 2147483647) (minZ (1073741824 - y1022) 2147483647)) → (-2147483648 ≤ y1023 ∧ y1023 ≤ 2147483647) →
  ∀ y1024 : Int, y1024 = (minZ ((minZ (1184766729 - y1019) 2147483647) + (shrZ .i32 y1023 1)) 2147483647) → (-2036458742 ≤ y1024 ∧ y1024 ≤ 2147483647) →
  ∀ y1025 : Int, y1025 = (mulqZ (shrZ .u32 (IntKind.wrap .u32 y1004) 2) (mulqZ y1024 y1024)) → (-2147483648 ≤ y1025 ∧ y1025 ≤ 2147483647) →
  ∀ y1026 : Int, y1026 = (IntKind.wrap .i32 (shlZ .u32 (IntKind.wrap .u32 y1025) 2)) → (-2147483648 ≤ y1026 ∧ y1026 ≤ 2147483647) →
  ∀ y1027 : Int, y1027 = (mulqZ y1024 (minZ (1073741824 - y1026) 2147483647)) → (-2147483648 ≤ y1027 ∧ y1027 ≤ 2147483647) →
  ∀ y1028 : Int, y1028 = (sat32 (y1024 + (shrZ .i32 y1027 1))) → (-2147483648 ≤ y1028 ∧ y1028 ≤ 2147483647) →
  ∀ y1029 : Int, y1029 = (mulqZ (shrZ .u32 (IntKind.wrap .u32 y1004) 2) (mulqZ y1028 y1028)) → (-2147483648 ≤ y1029 ∧ y1029 ≤ 2147483647) →
  ∀ y1030 : Int, y1030 = (IntKind.wrap .i32 (shlZ .u32 (IntKind.wrap .u32 y1029) 2)) → (-2147483648 ≤ y1030 ∧ y1030 ≤ 2147483647) →
  ∀ y1031 : Int, y1031 = (mulqZ y1028 (minZ (1073741824 - y1030) 2147483647)) → (-2147483648 ≤ y1031 ∧ y1031 ≤ 2147483647) →
  ∀ y1032 : Int, y1032 = (sat32 (y1028 + (shrZ .i32 y1031 1))) → (-2147483648 ≤ y1032 ∧ y1032 ≤ 2147483647) →
  ∀ y1033 : Int, y1033 = (mulqZ (shrZ .u32 (IntKind.wrap .u32 y1004) 2) (mulqZ y1032 y1032)) → (-2147483648 ≤ y1033 ∧ y1033 ≤ 2147483647) →
  ∀ y1034 : Int, y1034 = (IntKind.wrap .i32 (shlZ .u32 (IntKind.wrap .u32 y1033) 2)) → (-2147483648 ≤ y1034 ∧ y1034 ≤ 2147483647) →
  ∀ y1035 : Int, y1035 = (mulqZ y1032 (minZ (1073741824 - y1034) 2147483647)) → (-2147483648 ≤ y1035 ∧ y1035 ≤ 2147483647) →
  ∀ y1036 : Int, y1036 = (sat32 (y1032 + (shrZ .i32 y1035 1))) → (-2147483648 ≤ y1036 ∧ y1036 ≤ 2147483647) →
  (((bool01 ((shrZ .u32 y1001 2) == (shrZ .u32 (IntKind.wrap .u32 y1004) 2))) ≠ 0 →
   (((bool01 ((shrZ .i32 (band .i32 y1000 30) 1) == (BO.ev .quo .i32 y1003 2))) ≠ 0 →
    (((bool01 (y1018 == y1036)) ≠ 0 →
     (((bool01 ((shrZ .u32 (band .i32 y1000 30) 1) == (BO.ev .quo .i32 y1003 2))) ≠ 0 →
      ∀ y1041 : Int, y1041 = (IntKind.wrap .i32 (shlZ .u32 (IntKind.wrap .u32 (mulqZ a1 a0)) (band .i32 a2 31))) → (-2147483648 ≤ y1041 ∧ y1041 ≤ 2147483647) →
      ∀ y1042 : Int, y1042 = (IntKind.wrap .i32 (shlZ .u32 (IntKind.wrap .u32 (mulqZ a0 y1018)) (band .i32 (shrZ .u32 (band .i32 y1000 30) 1) 31))) → (-2147483648 ≤ y1042 ∧ y1042 ≤ 2147483647) →
      ∀ y1043 : Int, y1043 = (IntKind.wrap .i32 (shlZ .u32 (IntKind.wrap .u32 (mulqZ a0 y1036)) (band .i32 (BO.ev .quo .i32 y1003 2) 31))) → (-2147483648 ≤ y1043 ∧ y1043 ≤ 2147483647) →
      (((bool01 (y1042 == y1043)) ≠ 0 →
       (1 : Int) ≠ 0) ∧ ((bool01 (y1042 == y1043)) = 0 →
       (0 : Int) ≠ 0))) ∧ ((bool01 ((shrZ .u32 (band .i32 y1000 30) 1) == (BO.ev .quo .i32 y1003 2))) = 0 →
      (0 : Int) ≠ 0))) ∧ ((bool01 (y1018 == y1036)) = 0 →
     (0 : Int) ≠ 0))) ∧ ((bool01 ((shrZ .i32 (band .i32 y1000 30) 1) == (BO.ev .quo .i32 y1003 2))) = 0 →
    (0 : Int) ≠ 0))) ∧ ((bool01 ((shrZ .u32 y1001 2) == (shrZ .u32 (IntKind.wrap .u32 y1004) 2))) = 0 →
   (0 : Int) ≠ 0))) ∧ ((bool01 (decide (32 ≤ y1000))) = 0 →
  ∀ y1003 : Int, y1003 = (IntKind.wrap .i32 (shlZ .u32 (IntKind.wrap .u32 a0) (band .i32 (y1000 - (BO.ev .rem .i64 y1000 2)) 31))) → (-2147483648 ≤ y1003 ∧ y1003 ≤ 2147483647) →
  ∀ y1004 : Int, y1004 = (BO.ev .quo .i32 (y1000 - (BO.ev .rem .i64 y1000 2)) 2) → (-2147483648 ≤ y1004 ∧ y1004 ≤ 2147483647) →
  ∀ y1005 : Int, y1005 = (shrZ .u32 (shlZ .u32 (IntKind.wrap .u32 a0) (band .i32 (band .i32 y1000 30) 31)) 2) → (0 ≤ y1005 ∧ y1005 ≤ 1073741823) →
  ∀ y1006 : Int, y1006 = (minZ (1184766729 - (mulqZ 715827883 y1005)) 2147483647) → (-962716918 ≤ y1006 ∧ y1006 ≤ 2147483647) →
  ∀ y1007 : Int, y1007 = (IntKind.wrap .i32 (shlZ .u32 (IntKind.wrap .u32 (mulqZ y1005 (mulqZ y1006 y1006))) 2)) → (-2147483648 ≤ y1007 ∧ y1007 ≤ 2147483647) →
  ∀ y1008 : Int, y1008 = (mulqZ y1006 (minZ (1073741824 - y1007) 2147483647)) → (-2147483648 ≤ y1008 ∧ y1008 ≤ 2147483647) →
  ∀ y1009 : Int, y1009 = (minZ (y1006 + (shrZ .i32 y1008 1)) 2147483647) → (-2036458742 ≤ y1009 ∧ y1009 ≤ 2147483647) →
  ∀ y1010 : Int, y1010 = (IntKind.wrap .i32 (shlZ .u32 (IntKind.wrap .u32 (mulqZ y1005 (mulqZ y1009 y1009))) 2)) → (-2147483648 ≤ y1010 ∧ y1010 ≤ 2147483647) →
  ∀ y1011 : Int, y1011 = (mulqZ y1009 (minZ (1073741824 - y1010) 2147483647)) → (-2147483648 ≤ y1011 ∧ y1011 ≤ 2147483647) →
  ∀ y1012 : Int, y1012 = (sat32 (y1009 + (shrZ .i32 y1011 1))) → (-2147483648 ≤ y1012 ∧ y1012 ≤ 2147483647) →
  ∀ y1013 : Int, y1013 = (IntKind.wrap .i32 (shlZ .u32 (IntKind.wrap .u32 (mulqZ y1005 (mulqZ y1012 y1012))) 2)) → (-2147483648 ≤ y1013 ∧ y1013 ≤ 2147483647) →
  ∀ y1014 : Int, y1014 = (mulqZ y1012 (minZ (1073741824 - y1013) 2147483647)) → (-2147483648 ≤ y1014 ∧ y1014 ≤ 2147483647) →
  ∀ y1015 : Int, y1015 = (sat32 (y1012 + (shrZ .i32 y1014 1))) → (-2147483648 ≤ y1015 ∧ y1015 ≤ 2147483647) →
  ∀ y1016 : Int, y1016 = (IntKind.wrap .i32 (shlZ .u32 (IntKind.wrap .u32 (mulqZ y1005 (mulqZ y1015 y1015))) 2)) → (-2147483648 ≤ y1016 ∧ y1016 ≤ 2147483647) →
  ∀ y1017 : Int, y1017 = (mulqZ y1015 (minZ (1073741824 - y1016) 2147483647)) → (-2147483648 ≤ y1017 ∧ y1017 ≤ 2147483647) →
  ∀ y1018 : Int, y1018 = (sat32 (y1015 + (shrZ .i32 y1017 1))) → (-2147483648 ≤ y1018 ∧ y1018 ≤ 2147483647) →
  ∀ y1019 : Int, y1019 = (mulqZ 715827883 (shrZ .u32 (IntKind.wrap .u32 y1003) 2)) → (-2147483648 ≤ y1019 ∧ y1019 ≤ 2147483647) →
  ∀ y1020 : Int, y1020 = (mulqZ (minZ (1184766729 - y1019) 2147483647) (minZ (1184766729 - y1019) 2147483647)) → (-2147483648 ≤ y1020 ∧ y1020 ≤ 2147483647) →
  ∀ y1021 : Int, y1021 = (mulqZ (shrZ .u32 (IntKind.wrap .u32 y1003) 2) y1020) → (-2147483648 ≤ y1021 ∧ y1021 ≤ 2147483647) →
  ∀ y1022 : Int, y1022 = (IntKind.wrap .i32 (shlZ .u32 (IntKind.wrap .u32 y1021) 2)) → (-2147483648 ≤ y1022 ∧ y1022 ≤ 2147483647) →
  ∀ y1023 : Int, y1023 = (mulqZ (minZ (1184766729 - y1019) 2147483647) (minZ (1073741824 - y1022) 2147483647)) → (-2147483648 ≤ y1023 ∧ y1023 ≤ 2147483647) →
  ∀ y1024 : Int, y1024 = (minZ ((minZ (1184766729 - y1019) 2147483647) + (shrZ .i32 y1023 1)) 2147483647) → (-2036458742 ≤ y1024 ∧ y1024 ≤ 2147483647) →
  ∀ y1025 : Int, y1025 = (mulqZ (shrZ .u32 (IntKind.wrap .u32 y1003) 2) (mulqZ y1024 y1024)) → (-2147483648 ≤ y1025 ∧ y1025 ≤ 2147483647) →
  ∀ y1026 : Int, y1026 = (IntKind.wrap .i32 (shlZ .u32 (IntKind.wrap .u32 y1025) 2)) → (-2147483648 ≤ y1026 ∧ y1026 ≤ 2147483647) →
  ∀ y1027 : Int, y1027 = (mulqZ y1024 (minZ (1073741824 - y1026) 2147483647)) → (-2147483648 ≤ y1027 ∧ y1027 ≤ 2147483647) →
  ∀ y1028 : Int, y1028 = (sat32 (y1024 + (shrZ .i32 y1027 1))) → (-2147483648 ≤ y1028 ∧ y1028 ≤ 2147483647) →
  ∀ y1029 : Int, y1029 = (mulqZ (shrZ .u32 (IntKind.wrap .u32 y1003) 2) (mulqZ y1028 y1028)) → (-2147483648 ≤ y1029 ∧ y1029 ≤ 2147483647) →
  ∀ y1030 : Int, y1030 = (IntKind.wrap .i32 (shlZ .u32 (IntKind.wrap .u32 y1029) 2)) → (-2147483648 ≤ y1030 ∧ y1030 ≤ 2147483647) →
  ∀ y1031 : Int, y1031 = (mulqZ y1028 (minZ (1073741824 - y1030) 2147483647)) → (-2147483648 ≤ y1031 ∧ y1031 ≤ 2147483647) →
  ∀ y1032 : Int, y1032 = (sat32 (y1028 + (shrZ .i32 y1031 1))) → (-2147483648 ≤ y1032 ∧ y1032 ≤ 2147483647) →
  ∀ y1033 : Int, y1033 = (mulqZ (shrZ .u32 (IntKind.wrap .u32 y1003) 2) (mulqZ y1032 y1032)) → (-2147483648 ≤ y1033 ∧ y1033 ≤ 2147483647) →
  ∀ y1034 : Int, y1034 = (IntKind.wrap .i32 (shlZ .u32 (IntKind.wrap .u32 y1033) 2)) → (-2147483648 ≤ y1034 ∧ y1034 ≤ 2147483647) →
  ∀ y1035 : Int, y1035 = (mulqZ y1032 (minZ (1073741824 - y1034) 2147483647)) → (-2147483648 ≤ y1035 ∧ y1035 ≤ 2147483647) →
  ∀ y1036 : Int, y1036 = (sat32 (y1032 + (shrZ .i32 y1035 1))) → (-2147483648 ≤ y1036 ∧ y1036 ≤ 2147483647) →
  (((bool01 ((shrZ .u32 y1001 2) == (shrZ .u32 (IntKind.wrap .u32 y1003) 2))) ≠ 0 →
   (((bool01 ((shrZ .i32 (band .i32 y1000 30) 1) == y1004)) ≠ 0 →
    (((bool01 (y1018 == y1036)) ≠ 0 →
     (((bool01 ((shrZ .u32 (band .i32 y1000 30) 1) == y1004)) ≠ 0 →
      ∀ y1041 : Int, y1041 = (IntKind.wrap .i32 (shlZ .u32 (IntKind.wrap .u32 (mulqZ a1 a0)) (band .i32 a2 31))) → (-2147483648 ≤ y1041 ∧ y1041 ≤ 2147483647) →
      ∀ y1042 : Int, y1042 = (IntKind.wrap .i32 (shlZ .u32 (IntKind.wrap .u32 (mulqZ a0 y1018)) (band .i32 (shrZ .u32 (band .i32 y1000 30) 1) 31))) → (-2147483648 ≤ y1042 ∧ y1042 ≤ 2147483647) →
      ∀ y1043 : Int, y1043 = (IntKind.wrap .i32 (shlZ .u32 (IntKind.wrap .u32 (mulqZ a0 y1036)) (band .i32 y1004 31))) → (-2147483648 ≤ y1043 ∧ y1043 ≤ 2147483647) →
      (((bool01 (y1042 == y1043)) ≠ 0 →
       (1 : Int) ≠ 0) ∧ ((bool01 (y1042 == y1043)) = 0 →
       (0 : Int) ≠ 0))) ∧ ((bool01 ((shrZ .u32 (band .i32 y1000 30) 1) == y1004)) = 0 →
      (0 : Int) ≠ 0))) ∧ ((bool01 (y1018 == y1036)) = 0 →
     (0 : Int) ≠ 0))) ∧ ((bool01 ((shrZ .i32 (band .i32 y1000 30) 1) == y1004)) = 0 →
    (0 : Int) ≠ 0))) ∧ ((bool01 ((shrZ .u32 y1001 2) == (shrZ .u32 (IntKind.wrap .u32 y1003) 2))) = 0 →
   (0 : Int) ≠ 0))))

theorem plain (a0 a1 a2 : Int) : T.holdsP (cxOf 2 [(-2147483648, 2147483647), (-2147483648, 2147483647), (-2147483648, 2147483647)]) (envOf [a0, a1, a2]) tree = P a0 a1 a2 := by kernel_rfl

theorem uw (m : Int) : IntKind.wrap .u32 (IntKind.wrap .i32 (IntKind.wrap .u32 m)) = IntKind.wrap .u32 m := by
  rw [wrap_wrap .u32 .i32 _ (by decide), wrap_wrap .u32 .u32 _ (by decide)]
theorem ev1 : ∀ n : Fin 32, ((n.val : Int) - (BO.ev .rem .i64 (n.val : Int) 2)) = band .i32 (n.val : Int) 30 := by decide
theorem ev2 : ∀ n : Fin 33, band .i32 (band .i32 (n.val : Int) 30) 31 = band .i32 (n.val : Int) 30 := by decide
theorem ev3 : ∀ n : Fin 33, BO.ev .quo .i32 (band .i32 (n.val : Int) 30) 2 = shrZ .i32 (band .i32 (n.val : Int) 30) 1 := by decide
theorem ev4 : ∀ n : Fin 33, shrZ .u32 (band .i32 (n.val : Int) 30) 1 = shrZ .i32 (band .i32 (n.val : Int) 30) 1 := by decide
theorem fin_of {y : Int} {k : Nat} (h0 : 0 ≤ y) (h1 : y < k) : ∃ n : Fin k, y = (n.val : Int) := ⟨⟨y.toNat, by omega⟩, by simp; omega⟩
theorem shl0 (x s : Int) : IntKind.wrap .u32 (IntKind.wrap .i32 (shlZ .u32 x s)) = shlZ .u32 x s := by
  show IntKind.wrap .u32 (IntKind.wrap .i32 (IntKind.wrap .u32 _)) = IntKind.wrap .u32 _
  rw [uw]
theorem holds (a0 a1 a2 : Int) (l0 : -2147483648 ≤ a0) (u0 : a0 ≤ 2147483647) (l1 : -2147483648 ≤ a1) (u1 : a1 ≤ 2147483647) (l2 : -2147483648 ≤ a2) (u2 : a2 ≤ 2147483647) : P a0 a1 a2 := by
  unfold P
  intro y1000 e1000 ⟨b0, b1⟩ y1001 e1001 _
  obtain ⟨n, hn⟩ := fin_of (k := 33) b0 (by omega)
  have v2 := ev2 n; have v3 := ev3 n; have v4 := ev4 n; rw [← hn] at v2 v3 v4
  refine ⟨fun g => ?_, fun g => ?_⟩
  · have q : y1000 = 32 := by simp [bool01] at g; omega
    intro y1003 e1003 _ y1004 e1004 _ y1005 e1005 _ y1006 e1006 _ y1007 e1007 _ y1008 e1008 _ y1009 e1009 _ y1010 e1010 _ y1011 e1011 _ y1012 e1012 _ y1013 e1013 _ y1014 e1014 _ y1015 e1015 _ y1016 e1016 _ y1017 e1017 _ y1018 e1018 _ y1019 e1019 _ y1020 e1020 _ y1021 e1021 _ y1022 e1022 _ y1023 e1023 _ y1024 e1024 _ y1025 e1025 _ y1026 e1026 _ y1027 e1027 _ y1028 e1028 _ y1029 e1029 _ y1030 e1030 _ y1031 e1031 _ y1032 e1032 _ y1033 e1033 _ y1034 e1034 _ y1035 e1035 _ y1036 e1036 _
    have w3 : y1003 = band .i32 y1000 30 := by rw [e1003, q]; decide
    have w4 : BO.ev .quo .i32 y1003 2 = shrZ .i32 (band .i32 y1000 30) 1 := by rw [w3, v3]
    have k : shrZ .u32 (IntKind.wrap .u32 y1004) 2 = y1005 := by rw [e1004, shl0, w3, e1005, v2]
    have q19 : minZ (1184766729 - y1019) 2147483647 = y1006 := by rw [e1019, k, ← e1006]
    have q22 : y1022 = y1007 := by rw [e1022, e1021, e1020, k, q19, e1007]
    have q23 : y1023 = y1008 := by rw [e1023, q19, q22, e1008]
    have q24 : y1024 = y1009 := by rw [e1024, q19, q23, e1009]
    have q26 : y1026 = y1010 := by rw [e1026, e1025, k, q24, e1010]
    have q27 : y1027 = y1011 := by rw [e1027, q24, q26, e1011]
    have q28 : y1028 = y1012 := by rw [e1028, q24, q27, e1012]
    have q30 : y1030 = y1013 := by rw [e1030, e1029, k, q28, e1013]
    have q31 : y1031 = y1014 := by rw [e1031, q28, q30, e1014]
    have q32 : y1032 = y1015 := by rw [e1032, q28, q31, e1015]
    have q34 : y1034 = y1016 := by rw [e1034, e1033, k, q32, e1016]
    have q35 : y1035 = y1017 := by rw [e1035, q32, q34, e1017]
    have q36 : y1036 = y1018 := by rw [e1036, q32, q35, e1018]
    rw [w4, v4, k, q36, e1001, ← e1005]
    simp [bool01]
  · have q : y1000 < 32 := by simp [bool01] at g; omega
    obtain ⟨m, hm⟩ := fin_of (k := 32) b0 q
    have v1 := ev1 m; rw [← hm] at v1
    intro y1003 e1003 _ y1004 e1004 _ y1005 e1005 _ y1006 e1006 _ y1007 e1007 _ y1008 e1008 _ y1009 e1009 _ y1010 e1010 _ y1011 e1011 _ y1012 e1012 _ y1013 e1013 _ y1014 e1014 _ y1015 e1015 _ y1016 e1016 _ y1017 e1017 _ y1018 e1018 _ y1019 e1019 _ y1020 e1020 _ y1021 e1021 _ y1022 e1022 _ y1023 e1023 _ y1024 e1024 _ y1025 e1025 _ y1026 e1026 _ y1027 e1027 _ y1028 e1028 _ y1029 e1029 _ y1030 e1030 _ y1031 e1031 _ y1032 e1032 _ y1033 e1033 _ y1034 e1034 _ y1035 e1035 _ y1036 e1036 _
    have w4 : y1004 = shrZ .i32 (band .i32 y1000 30) 1 := by rw [e1004, v1, v3]
    have k : shrZ .u32 (IntKind.wrap .u32 y1003) 2 = y1005 := by rw [e1003, shl0, v1, e1005, v2]
    have q19 : minZ (1184766729 - y1019) 2147483647 = y1006 := by rw [e1019, k, ← e1006]
    have q22 : y1022 = y1007 := by rw [e1022, e1021, e1020, k, q19, e1007]
    have q23 : y1023 = y1008 := by rw [e1023, q19, q22, e1008]
    have q24 : y1024 = y1009 := by rw [e1024, q19, q23, e1009]
    have q26 : y1026 = y1010 := by rw [e1026, e1025, k, q24, e1010]
    have q27 : y1027 = y1011 := by rw [e1027, q24, q26, e1011]
    have q28 : y1028 = y1012 := by rw [e1028, q24, q27, e1012]
    have q30 : y1030 = y1013 := by rw [e1030, e1029, k, q28, e1013]
    have q31 : y1031 = y1014 := by rw [e1031, q28, q30, e1014]
    have q32 : y1032 = y1015 := by rw [e1032, q28, q31, e1015]
    have q34 : y1034 = y1016 := by rw [e1034, e1033, k, q32, e1016]
    have q35 : y1035 = y1017 := by rw [e1035, q32, q34, e1017]
    have q36 : y1036 = y1018 := by rw [e1036, q32, q35, e1018]
    rw [w4, v4, k, q36, e1001, ← e1005]
    simp [bool01]

theorem walk (a0 a1 a2 : Int) (w0 : (Lit.int .i32 a0).wf = true) (w1 : (Lit.int .i32 a1).wf = true) (w2 : (Lit.int .i32 a2).wf = true) (w : World) :
    Calls Tryz.prog 3 #[.int .i32 a0, .int .i32 a1, .int .i32 a2] w fun e w' => e = .returned (.bool true) ∧ Below w.heap.size w w' :=
  truthP_of (runOf_ok smKa_ok 2 [(-2147483648, 2147483647), (-2147483648, 2147483647), (-2147483648, 2147483647)]) (envOf_ok (bnd_cons (wf_bd w0) (bnd_cons (wf_bd w1) (bnd_cons (wf_bd w2) (bnd_nil _))))) (f := 3) (args := [.int .i32 (.v 0), .int .i32 (.v 1), .int .i32 (.v 2)]) (t := tree) (by kernel_rfl) (by kernel_rfl)
    (by rw [plain]; exact holds a0 a1 a2 (wf_bd w0).1 (wf_bd w0).2 (wf_bd w1).1 (wf_bd w1).2 (wf_bd w2).1 (wf_bd w2).2) rfl w

/-! ### the row's step -/
set_option maxRecDepth 100000
theorem lifted (os : Os) (started : os.Started) (H : Type) (enc : TypeId × Value → H) :
    ReturnsInHanded {} Tryz.checked os 3 .any (Rows.rootTellsSpec.pre6 enc Tryz.prog Tryz.f3 Rows.rootTellsRow.domain false) (Rows.rootTellsSpec.post enc Tryz.prog Tryz.f3 false true false false) := by
  refine returnsInHanded_of_change (C := Tryz.checked) own started (by kernel_rfl) Tryz.func3
    (ChangeSpec.witness6 (enc := enc) (C := Tryz.checked) false ⟨#[], #[.int .i32 0, .int .i32 0, .int .i32 0], []⟩ 8 (by kernel_rfl) (by kernel_rfl) (by kernel_rfl) (by kernel_rfl)) ?_
  intro W base args ds gs before hval0 hW hcnd _
  have hval : ∀ (j : Nat) t v, Tryz.f3.params[j]? = some t → args[j]? = some v → Value.okWide Tryz.prog W .any base t v := hval0
  have hW' := hW
  obtain ⟨p, q, hA0, hV, rfl, hfz, hnd⟩ := hW
  have hA : DataW.TrodAll enc Tryz.prog W 0 (fun _ => true) true Tryz.f3.params.toList args.toList ds p := hA0
  rw [Tryz.params3] at hA hval
  obtain ⟨v0, vs0, d0, ds0, p0, q0, hargs, rfl, rfl, h0, r0⟩ := trodAll_cons hA
  obtain ⟨v1, vs1, d1, ds1, p1, q1, rfl, rfl, rfl, h1, r1⟩ := trodAll_cons r0
  obtain ⟨v2, vs2, d2, ds2, p2, q2, rfl, rfl, rfl, h2, r2⟩ := trodAll_cons r1
  obtain ⟨rfl, rfl, rfl⟩ := trodAll_nil r2
  obtain rfl : args = #[v0, v1, v2] := by cases args; simp_all
  obtain ⟨rfl, rfl⟩ := trodVars_none hV
  obtain ⟨a0, rfl, rfl, rfl, w0⟩ := open_int Tryz.underlying21 (hval 0 21 v0 rfl rfl) h0
  obtain ⟨a1, rfl, rfl, rfl, w1⟩ := open_int Tryz.underlying21 (hval 1 21 v1 rfl rfl) h1
  obtain ⟨a2, rfl, rfl, rfl, w2⟩ := open_int Tryz.underlying21 (hval 2 21 v2 rfl rfl) h2
  clear hA0 hval0
  simp only [List.append_nil] at hW'
  refine (walk a0 a1 a2 w0 w1 w2 W).mono fun e W' ⟨he, hg⟩ => ?_
  subst he
  exact ⟨_, rfl, post_below (pa := []) (pv := []) hW' hg (fun _ _ _ => (trodAll_cons_mk (shut_bool Tryz.underlying4 _) trodAll_mk0)) (fun sp _ => (trodAll_cons_mk (shut_int Tryz.underlying21 w0) (trodAll_cons_mk (shut_int Tryz.underlying21 w1) (trodAll_cons_mk (shut_int Tryz.underlying21 w2) trodAll_mk0)))) (fun _ _ => rfl) rfl
    (ok_one (by kernel_rfl) rfl (okWide_bool_mk Tryz.underlying4 _))⟩

theorem over : Rows.rootTellsRow.holds Tryz.pinned (OpenSpec.ofChange Rows.rootTellsSpec) :=
  OpenClaim.holds_of_wide 3 Tryz.f3 rfl rfl rfl rfl rfl rfl rfl ⟨rfl, rfl, rfl, rfl, rfl⟩ rfl rfl rfl rfl rfl (by kernel_rfl) Tryz.func3 (by kernel_rfl)
    (of_decide_eq_true (by kernel_rfl)) (by unfold Func.isWrapper; first | (rw [if_pos (by decide +kernel)]; kernel_rfl) | (rw [if_neg (by decide +kernel)]; exact ⟨rfl, rfl⟩))
    (fun os started H enc _ => lifted os started H enc)

/-- the statement -/
theorem proved : Rows.RootTellsSaid :=
  over
#print axioms proved
end Go.Proofs.YtjooaieolphomaaGreat.rootTells
