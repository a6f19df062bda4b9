/-
  The law TurnTrue answers true at every input: the program's angle, and its sine and cosine, are told by whole numbers' functions (the engine's runs), and how near these are to the true ones is shown in rational numbers. No condition.
-/
import Derived.Test.YtjooaieolphomaaLawAng
import Derived.OpenShut
namespace Go.Proofs.Ytjooaieolphomaa.turnTrue
open Go.ChangeShapes Go.WideShapes Go.ChangeAt Go.RowKit
open Go.Eng Go.Proofs.Ytjooaieolphomaa.lawAng
open Go.Tr (wavY wavX wC wS wcs wss wsq vst fold Rt PiZ farI amt true_ok round_ok back_ok vec_range wsq_ok wcs_ok wss_ok wS_ok wC_ok WZ bd_W tdiv_abs lo up wst_bd b0Z)
set_option linter.unusedVariables false
set_option linter.unusedSimpArgs false
theorem own : ownKnob Try.prog.godebug = none := by kernel_rfl
set_option maxRecDepth 100000
def tree : Eng.T E :=
(.br (.b .lt .i64 (.v 0) (.c 0))
  (.leaf (.c 1))
  (.br (.b .lt .i64 (.v 1) (.c 1))
  (.leaf (.c 1))
  (.br (.b .lt .i64 (.v 1) (.v 0))
  (.leaf (.c 1))
  (.br (.b .lt .i64 (.f 4 (.v 0) (.v 1) (.c 0)) (.c (-536870912)))
  (.leaf (.c 0))
  (.br (.b .lt .i64 (.c 536870912) (.f 4 (.v 0) (.v 1) (.c 0)))
  (.leaf (.c 0))
  (.new 1005 (.w .i64 (.b .pmul .i64 (.b .pmul .i64 (.c 2) (.f 4 (.v 0) (.v 1) (.c 0))) (.b .pmul .i64 (.c 2) (.f 4 (.v 0) (.v 1) (.c 0)))))
  (.new 1006 (.w .i64 (.b .pmul .i64 (.c 1073741824) (.b .quo .i64 (.cl 1005 (-9223372036854775808) 9223372036854775807) (.c 1073741824))))
  (.new 1007 (.b .quo .i64 (.b .quo .i64 (.b .quo .i64 (.cl 1006 (-9223372036854775808) 9223372036854775807) (.c 1073741824)) (.c 1)) (.c 2))
  (.new 1008 (.w .i64 (.b .pmul .i64 (.b .pmul .i64 (.c 2) (.f 4 (.v 0) (.v 1) (.c 0))) (.b .quo .i64 (.cl 1005 (-9223372036854775808) 9223372036854775807) (.c 1073741824))))
  (.new 1009 (.b .quo .i64 (.b .quo .i64 (.b .quo .i64 (.cl 1008 (-9223372036854775808) 9223372036854775807) (.c 1073741824)) (.c 2)) (.c 3))
  (.new 1010 (.w .i64 (.b .padd .i64 (.c 1073741824) (.w .i64 (.b .psub .i64 (.c 0) (.cl 1007 (-9223372036854775808) 9223372036854775807)))))
  (.new 1011 (.w .i64 (.b .padd .i64 (.b .pmul .i64 (.c 2) (.f 4 (.v 0) (.v 1) (.c 0))) (.w .i64 (.b .psub .i64 (.c 0) (.cl 1009 (-9223372036854775808) 9223372036854775807)))))
  (.new 1012 (.w .i64 (.b .pmul .i64 (.w .i64 (.b .psub .i64 (.c 0) (.cl 1007 (-9223372036854775808) 9223372036854775807))) (.b .quo .i64 (.cl 1005 (-9223372036854775808) 9223372036854775807) (.c 1073741824))))
  (.new 1013 (.b .quo .i64 (.b .quo .i64 (.b .quo .i64 (.cl 1012 (-9223372036854775808) 9223372036854775807) (.c 1073741824)) (.c 3)) (.c 4))
  (.new 1014 (.w .i64 (.b .pmul .i64 (.w .i64 (.b .psub .i64 (.c 0) (.cl 1009 (-9223372036854775808) 9223372036854775807))) (.b .quo .i64 (.cl 1005 (-9223372036854775808) 9223372036854775807) (.c 1073741824))))
  (.new 1015 (.b .quo .i64 (.b .quo .i64 (.b .quo .i64 (.cl 1014 (-9223372036854775808) 9223372036854775807) (.c 1073741824)) (.c 4)) (.c 5))
  (.new 1016 (.w .i64 (.b .padd .i64 (.cl 1010 (-9223372036854775808) 9223372036854775807) (.w .i64 (.b .psub .i64 (.c 0) (.cl 1013 (-9223372036854775808) 9223372036854775807)))))
  (.new 1017 (.w .i64 (.b .padd .i64 (.cl 1011 (-9223372036854775808) 9223372036854775807) (.w .i64 (.b .psub .i64 (.c 0) (.cl 1015 (-9223372036854775808) 9223372036854775807)))))
  (.new 1018 (.w .i64 (.b .pmul .i64 (.w .i64 (.b .psub .i64 (.c 0) (.cl 1013 (-9223372036854775808) 9223372036854775807))) (.b .quo .i64 (.cl 1005 (-9223372036854775808) 9223372036854775807) (.c 1073741824))))
  (.new 1019 (.b .quo .i64 (.b .quo .i64 (.b .quo .i64 (.cl 1018 (-9223372036854775808) 9223372036854775807) (.c 1073741824)) (.c 5)) (.c 6))
  (.new 1020 (.w .i64 (.b .pmul .i64 (.w .i64 (.b .psub .i64 (.c 0) (.cl 1015 (-9223372036854775808) 9223372036854775807))) (.b .quo .i64 (.cl 1005 (-9223372036854775808) 9223372036854775807) (.c 1073741824))))
  (.new 1021 (.b .quo .i64 (.b .quo .i64 (.b .quo .i64 (.cl 1020 (-9223372036854775808) 9223372036854775807) (.c 1073741824)) (.c 6)) (.c 7))
  (.new 1022 (.w .i64 (.b .padd .i64 (.cl 1016 (-9223372036854775808) 9223372036854775807) (.w .i64 (.b .psub .i64 (.c 0) (.cl 1019 (-9223372036854775808) 9223372036854775807)))))
  (.new 1023 (.w .i64 (.b .padd .i64 (.cl 1017 (-9223372036854775808) 9223372036854775807) (.w .i64 (.b .psub .i64 (.c 0) (.cl 1021 (-9223372036854775808) 9223372036854775807)))))
  (.new 1024 (.w .i64 (.b .pmul .i64 (.w .i64 (.b .psub .i64 (.c 0) (.cl 1019 (-9223372036854775808) 9223372036854775807))) (.b .quo .i64 (.cl 1005 (-9223372036854775808) 9223372036854775807) (.c 1073741824))))
  (.new 1025 (.b .quo .i64 (.b .quo .i64 (.b .quo .i64 (.cl 1024 (-9223372036854775808) 9223372036854775807) (.c 1073741824)) (.c 7)) (.c 8))
  (.new 1026 (.w .i64 (.b .pmul .i64 (.w .i64 (.b .psub .i64 (.c 0) (.cl 1021 (-9223372036854775808) 9223372036854775807))) (.b .quo .i64 (.cl 1005 (-9223372036854775808) 9223372036854775807) (.c 1073741824))))
  (.new 1027 (.b .quo .i64 (.b .quo .i64 (.b .quo .i64 (.cl 1026 (-9223372036854775808) 9223372036854775807) (.c 1073741824)) (.c 8)) (.c 9))
  (.new 1028 (.w .i64 (.b .padd .i64 (.cl 1022 (-9223372036854775808) 9223372036854775807) (.w .i64 (.b .psub .i64 (.c 0) (.cl 1025 (-9223372036854775808) 9223372036854775807)))))
  (.new 1029 (.w .i64 (.b .padd .i64 (.cl 1023 (-9223372036854775808) 9223372036854775807) (.w .i64 (.b .psub .i64 (.c 0) (.cl 1027 (-9223372036854775808) 9223372036854775807)))))
  (.new 1030 (.w .i64 (.b .pmul .i64 (.w .i64 (.b .psub .i64 (.c 0) (.cl 1025 (-9223372036854775808) 9223372036854775807))) (.b .quo .i64 (.cl 1005 (-9223372036854775808) 9223372036854775807) (.c 1073741824))))
  (.new 1031 (.b .quo .i64 (.b .quo .i64 (.b .quo .i64 (.cl 1030 (-9223372036854775808) 9223372036854775807) (.c 1073741824)) (.c 9)) (.c 10))
  (.new 1032 (.w .i64 (.b .pmul .i64 (.w .i64 (.b .psub .i64 (.c 0) (.cl 1027 (-9223372036854775808) 9223372036854775807))) (.b .quo .i64 (.cl 1005 (-9223372036854775808) 9223372036854775807) (.c 1073741824))))
  (.new 1033 (.b .quo .i64 (.b .quo .i64 (.b .quo .i64 (.cl 1032 (-9223372036854775808) 9223372036854775807) (.c 1073741824)) (.c 10)) (.c 11))
  (.new 1034 (.w .i64 (.b .padd .i64 (.cl 1028 (-9223372036854775808) 9223372036854775807) (.w .i64 (.b .psub .i64 (.c 0) (.cl 1031 (-9223372036854775808) 9223372036854775807)))))
  (.new 1035 (.w .i64 (.b .padd .i64 (.cl 1029 (-9223372036854775808) 9223372036854775807) (.w .i64 (.b .psub .i64 (.c 0) (.cl 1033 (-9223372036854775808) 9223372036854775807)))))
  (.new 1036 (.w .i64 (.b .psub .i64 (.w .i64 (.b .pmul .i64 (.v 1) (.cl 1035 (-9223372036854775808) 9223372036854775807))) (.w .i64 (.b .pmul .i64 (.v 0) (.cl 1034 (-9223372036854775808) 9223372036854775807)))))
  (.br (.b .lt .i64 (.cl 1036 (-9223372036854775808) 9223372036854775807) (.c 0))
  (.br (.b .le .i64 (.w .i64 (.b .psub .i64 (.c 0) (.cl 1036 (-9223372036854775808) 9223372036854775807))) (.b .pmul .i64 (.c 4096) (.b .padd .i64 (.v 1) (.v 0))))
  (.leaf (.c 1))
  (.leaf (.c 0)))
  (.br (.b .le .i64 (.cl 1036 (-9223372036854775808) 9223372036854775807) (.b .pmul .i64 (.c 4096) (.b .padd .i64 (.v 1) (.v 0))))
  (.leaf (.c 1))
  (.leaf (.c 0)))))))))))))))))))))))))))))))))))))))))
def P (a0 a1 : Int) : Prop :=
 (((bool01 (decide (a0 < 0))) ≠ 0 →
  (1 : Int) ≠ 0) ∧ ((bool01 (decide (a0 < 0))) = 0 →
  (((bool01 (decide (a1 < 1))) ≠ 0 →
   (1 : Int) ≠ 0) ∧ ((bool01 (decide (a1 < 1))) = 0 →
   (((bool01 (decide (a1 < a0))) ≠ 0 →
    (1 : Int) ≠ 0) ∧ ((bool01 (decide (a1 < a0))) = 0 →
    (((bool01 (decide ((F' 4 a0 a1 0) < (-536870912)))) ≠ 0 →
     (0 : Int) ≠ 0) ∧ ((bool01 (decide ((F' 4 a0 a1 0) < (-536870912)))) = 0 →
     (((bool01 (decide (536870912 < (F' 4 a0 a1 0)))) ≠ 0 →
      (0 : Int) ≠ 0) ∧ ((bool01 (decide (536870912 < (F' 4 a0 a1 0)))) = 0 →
      ∀ y1005 : Int, y1005 = (IntKind.wrap .i64 ((2 * (F' 4 a0 a1 0)) * (2 * (F' 4 a0 a1 0)))) → (-9223372036854775808 ≤ y1005 ∧ y1005 ≤ 9223372036854775807) →
      ∀ y1006 : Int, y1006 = (IntKind.wrap .i64 (1073741824 * (BO.ev .quo .i64 y1005 1073741824))) → (-9223372036854775808 ≤ y1006 ∧ y1006 ≤ 9223372036854775807) →
      ∀ y1007 : Int, y1007 = (BO.ev .quo .i64 (BO.ev .quo .i64 (BO.ev .quo .i64 y1006 1073741824) 1) 2) → (-9223372036854775808 ≤ y1007 ∧ y1007 ≤ 9223372036854775807) →
      ∀ y1008 : Int, y1008 = (IntKind.wrap .i64 ((2 * (F' 4 a0 a1 0)) * (BO.ev .quo .i64 y1005 1073741824))) → (-9223372036854775808 ≤ y1008 ∧ y1008 ≤ 9223372036854775807) →
      ∀ y1009 : Int, y1009 = (BO.ev .quo .i64 (BO.ev .quo .i64 (BO.ev .quo .i64 y1008 1073741824) 2) 3) → (-9223372036854775808 ≤ y1009 ∧ y1009 ≤ 9223372036854775807) →
      ∀ y1010 : Int, y1010 = (IntKind.wrap .i64 (1073741824 + (IntKind.wrap .i64 (0 - y1007)))) → (-9223372036854775808 ≤ y1010 ∧ y1010 ≤ 9223372036854775807) →
      ∀ y1011 : Int, y1011 = (IntKind.wrap .i64 ((2 * (F' 4 a0 a1 0)) + (IntKind.wrap .i64 (0 - y1009)))) → (-9223372036854775808 ≤ y1011 ∧ y1011 ≤ 9223372036854775807) →
      ∀ y1012 : Int, y1012 = (IntKind.wrap .i64 ((IntKind.wrap .i64 (0 - y1007)) * (BO.ev .quo .i64 y1005 1073741824))) → (-9223372036854775808 ≤ y1012 ∧ y1012 ≤ 9223372036854775807) →
      ∀ y1013 : Int, y1013 = (BO.ev .quo .i64 (BO.ev .quo .i64 (BO.ev .quo .i64 y1012 1073741824) 3) 4) → (-9223372036854775808 ≤ y1013 ∧ y1013 ≤ 9223372036854775807) →
      ∀ y1014 : Int, y1014 = (IntKind.wrap .i64 ((IntKind.wrap .i64 (0 - y1009)) * (BO.ev .quo .i64 y1005 1073741824))) → (-9223372036854775808 ≤ y1014 ∧ y1014 ≤ 9223372036854775807) →
      ∀ y1015 : Int, y1015 = (BO.ev .quo .i64 (BO.ev .quo .i64 (BO.ev .quo .i64 y1014 1073741824) 4) 5) → (-9223372036854775808 ≤ y1015 ∧ y1015 ≤ 9223372036854775807) →
      ∀ y1016 : Int, y1016 = (IntKind.wrap .i64 (y1010 + (IntKind.wrap .i64 (0 - y1013)))) → (-9223372036854775808 ≤ y1016 ∧ y1016 ≤ 9223372036854775807) →
      ∀ y1017 : Int, y1017 = (IntKind.wrap .i64 (y1011 + (IntKind.wrap .i64 (0 - y1015)))) → (-9223372036854775808 ≤ y1017 ∧ y1017 ≤ 9223372036854775807) →
      ∀ y1018 : Int, y1018 = (IntKind.wrap .i64 ((IntKind.wrap .i64 (0 - y1013)) * (BO.ev .quo .i64 y1005 1073741824))) → (-9223372036854775808 ≤ y1018 ∧ y1018 ≤ 9223372036854775807) →
      ∀ y1019 : Int, y1019 = (BO.ev .quo .i64 (BO.ev .quo .i64 (BO.ev .quo .i64 y1018 1073741824) 5) 6) → (-9223372036854775808 ≤ y1019 ∧ y1019 ≤ 9223372036854775807) →
      ∀ y1020 : Int, y1020 = (IntKind.wrap .i64 ((IntKind.wrap .i64 (0 - y1015)) * (BO.ev .quo .i64 y1005 1073741824))) → (-9223372036854775808 ≤ y1020 ∧ y1020 ≤ 9223372036854775807) →
      ∀ y1021 : Int, y1021 = (BO.ev .quo .i64 (BO.ev .quo .i64 (BO.ev .quo .i64 y1020 1073741824) 6) 7) → (-9223372036854775808 ≤ y1021 ∧ y1021 ≤ 9223372036854775807) →
      ∀ y1022 : Int, y1022 = (IntKind.wrap .i64 (y1016 + (IntKind.wrap .i64 (0 - y1019)))) → (-9223372036854775808 ≤ y1022 ∧ y1022 ≤ 9223372036854775807) →
      ∀ y1023 : Int, y1023 = (IntKind.wrap .i64 (y1017 + (IntKind.wrap .i64 (0 - y1021)))) → (-9223372036854775808 ≤ y1023 ∧ y1023 ≤ 9223372036854775807) →
      ∀ y1024 : Int, y1024 = (IntKind.wrap .i64 ((IntKind.wrap .i64 (0 - y1019)) * (BO.ev .quo .i64 y1005 1073741824))) → (-9223372036854775808 ≤ y1024 ∧ y1024 ≤ 9223372036854775807) →
      ∀ y1025 : Int, y1025 = (BO.ev .quo .i64 (BO.ev .quo .i64 (BO.ev .quo .i64 y1024 1073741824) 7) 8) → (-9223372036854775808 ≤ y1025 ∧ y1025 ≤ 9223372036854775807) →
      ∀ y1026 : Int, y1026 = (IntKind.wrap .i64 ((IntKind.wrap .i64 (0 - y1021)) * (BO.ev .quo .i64 y1005 1073741824))) → (-9223372036854775808 ≤ y1026 ∧ y1026 ≤ 9223372036854775807) →
      ∀ y1027 : Int, y1027 = (BO.ev .quo .i64 (BO.ev .quo .i64 (BO.ev .quo .i64 y1026 1073741824) 8) 9) → (-9223372036854775808 ≤ y1027 ∧ y1027 ≤ 9223372036854775807) →
      ∀ y1028 : Int, y1028 = (IntKind.wrap .i64 (y1022 + (IntKind.wrap .i64 (0 - y1025)))) → (-9223372036854775808 ≤ y1028 ∧ y1028 ≤ 9223372036854775807) →
      ∀ y1029 : Int, y1029 = (IntKind.wrap .i64 (y1023 + (IntKind.wrap .i64 (0 - y1027)))) → (-9223372036854775808 ≤ y1029 ∧ y1029 ≤ 9223372036854775807) →
      ∀ y1030 : Int, y1030 = (IntKind.wrap .i64 ((IntKind.wrap .i64 (0 - y1025)) * (BO.ev .quo .i64 y1005 1073741824))) → (-9223372036854775808 ≤ y1030 ∧ y1030 ≤ 9223372036854775807) →
      ∀ y1031 : Int, y1031 = (BO.ev .quo .i64 (BO.ev .quo .i64 (BO.ev .quo .i64 y1030 1073741824) 9) 10) → (-9223372036854775808 ≤ y1031 ∧ y1031 ≤ 9223372036854775807) →
      ∀ y1032 : Int, y1032 = (IntKind.wrap .i64 ((IntKind.wrap .i64 (0 - y1027)) * (BO.ev .quo .i64 y1005 1073741824))) → (-9223372036854775808 ≤ y1032 ∧ y1032 ≤ 9223372036854775807) →
      ∀ y1033 : Int, y1033 = (BO.ev .quo .i64 (BO.ev .quo .i64 (BO.ev .quo .i64 y1032 1073741824) 10) 11) → (-9223372036854775808 ≤ y1033 ∧ y1033 ≤ 9223372036854775807) →
      ∀ y1034 : Int, y1034 = (IntKind.wrap .i64 (y1028 + (IntKind.wrap .i64 (0 - y1031)))) → (-9223372036854775808 ≤ y1034 ∧ y1034 ≤ 9223372036854775807) →
      ∀ y1035 : Int, y1035 = (IntKind.wrap .i64 (y1029 + (IntKind.wrap .i64 (0 - y1033)))) → (-9223372036854775808 ≤ y1035 ∧ y1035 ≤ 9223372036854775807) →
      ∀ y1036 : Int, y1036 = (IntKind.wrap .i64 ((IntKind.wrap .i64 (a1 * y1035)) - (IntKind.wrap .i64 (a0 * y1034)))) → (-9223372036854775808 ≤ y1036 ∧ y1036 ≤ 9223372036854775807) →
      (((bool01 (decide (y1036 < 0))) ≠ 0 →
       (((bool01 (decide ((IntKind.wrap .i64 (0 - y1036)) ≤ (4096 * (a1 + a0))))) ≠ 0 →
        (1 : Int) ≠ 0) ∧ ((bool01 (decide ((IntKind.wrap .i64 (0 - y1036)) ≤ (4096 * (a1 + a0))))) = 0 →
        (0 : Int) ≠ 0))) ∧ ((bool01 (decide (y1036 < 0))) = 0 →
       (((bool01 (decide (y1036 ≤ (4096 * (a1 + a0))))) ≠ 0 →
        (1 : Int) ≠ 0) ∧ ((bool01 (decide (y1036 ≤ (4096 * (a1 + a0))))) = 0 →
        (0 : Int) ≠ 0))))))))))))))

theorem plain (a0 a1 : Int) : T.holdsP (cxL [(-2147483648, 2147483647), (-2147483648, 2147483647)]) (envL [a0, a1]) tree = P a0 a1 := by kernel_rfl
theorem tr {p : Prop} [Decidable p] : bool01 (decide p) ≠ 0 ↔ p := by by_cases h : p <;> simp [bool01, h]
theorem fa {p : Prop} [Decidable p] : bool01 (decide p) = 0 ↔ ¬p := by by_cases h : p <;> simp [bool01, h]
theorem w64 {x : Int} (l : -9223372036854775808 ≤ x) (u : x ≤ 9223372036854775807) : IntKind.wrap .i64 x = x := wrap_i64 l u
theorem quo64 {n d B : Int} (hd : 1 ≤ d) (h1 : -B ≤ n) (h2 : n ≤ B) (hB : B ≤ 9223372036854775807) : BO.ev .quo .i64 n d = n.tdiv d := by
  have := tdiv_abs n d B hd h1 h2
  exact w64 (by omega) (by omega)
theorem stepQ {c q d1 d2 y z : Int} (hc1 : -1073741824 ≤ c) (hc2 : c ≤ 1073741824) (hq1 : 0 ≤ q) (hq2 : q ≤ 1073741824) (hd1 : 1 ≤ d1) (hd2 : 1 ≤ d2)
    (ey : y = IntKind.wrap .i64 (c * q)) (ez : z = BO.ev .quo .i64 (BO.ev .quo .i64 (BO.ev .quo .i64 y 1073741824) d1) d2) :
    IntKind.wrap .i64 (0 - z) = 0 - (((c * q).tdiv 1073741824).tdiv d1).tdiv d2 := by
  have hcq : -1152921504606846976 ≤ c * q ∧ c * q ≤ 1152921504606846976 := by
    have a1 : c * q ≤ 1073741824 * q := Int.mul_le_mul_of_nonneg_right hc2 hq1
    have a2 : -1073741824 * q ≤ c * q := Int.mul_le_mul_of_nonneg_right hc1 hq1
    omega
  have e1 : y = c * q := by rw [ey]; exact w64 (by omega) (by omega)
  rw [e1] at ez
  have b1 := tdiv_abs (c * q) 1073741824 1152921504606846976 (by omega) (by omega) (by omega)
  have b2 := tdiv_abs _ d1 1152921504606846976 hd1 b1.1 b1.2
  have b3 := tdiv_abs _ d2 1152921504606846976 hd2 b2.1 b2.2
  rw [quo64 (n := c * q) (B := 1152921504606846976) (by omega) hcq.1 hcq.2 (by omega), quo64 hd1 b1.1 b1.2 (by omega), quo64 hd2 b2.1 b2.2 (by omega)] at ez
  rw [ez]
  exact w64 (by omega) (by omega)
theorem wcs_s {a d1 d2 : Int} (k : Nat) (h1 : 2 * ((k : Int) + 1) - 1 = d1) (h2 : 2 * ((k : Int) + 1) = d2) : wcs a (k + 1) = 0 - (((wcs a k * wsq a).tdiv 1073741824).tdiv d1).tdiv d2 := by
  subst h1; subst h2; rfl
theorem wss_s {a d1 d2 : Int} (k : Nat) (h1 : 2 * ((k : Int) + 1) = d1) (h2 : 2 * ((k : Int) + 1) + 1 = d2) : wss a (k + 1) = 0 - (((wss a k * wsq a).tdiv 1073741824).tdiv d1).tdiv d2 := by
  subst h1; subst h2; rfl
theorem wSC_bd {a : Int} (h1 : -536870912 ≤ a) (h2 : a ≤ 536870912) : -1073741864 ≤ wS a ∧ wS a ≤ 1073741864 ∧ -1073741864 ≤ wC a ∧ wC a ≤ 1073741864 := by
  have hS := wS_ok (a := a) (by omega) (by omega)
  have hC := wC_ok (a := a) (by omega) (by omega)
  have us := (bd_W a).im
  have uc := (bd_W a).re
  generalize (WZ a).im = s at *
  generalize (WZ a).re = c at *
  refine ⟨(lo (-1073741864) (r := -1073741864) (by decide +kernel)).2 (by grind), (up 1073741864 (r := 1073741864) (by decide +kernel)).2 (by grind), (lo (-1073741864) (r := -1073741864) (by decide +kernel)).2 (by grind), (up 1073741864 (r := 1073741864) (by decide +kernel)).2 (by grind)⟩
set_option maxHeartbeats 1000000 in
theorem holds (a0 a1 : Int) (l0 : -2147483648 ≤ a0) (u0 : a0 ≤ 2147483647) (l1 : -2147483648 ≤ a1) (u1 : a1 ≤ 2147483647) : P a0 a1 := by
  unfold P
  refine ⟨fun _ => by decide, fun h0 => ⟨fun _ => by decide, fun h1 => ⟨fun _ => by decide, fun h2 => ?_⟩⟩⟩
  rw [fa] at h0 h1 h2
  have hF : F' 4 a0 a1 0 = angZ a0 a1 := angF a0 a1 (by omega) (by omega) (by omega) (by omega) (by omega) 0
  have hg : gZ a0 a1 = a1 := by unfold gZ amt; repeat' split
                                all_goals omega
  have hl : lZ a0 a1 = a0 := by unfold lZ amt; repeat' split
                                all_goals omega
  have hV := z_ok (y := a0) (x := a1) (by omega) (by omega) (by omega) (by omega) (by omega)
  have hp : (1 : Int) ≤ 2 ^ lvl a1 := Int.pow_pos (n := 2) (by decide)
  have ht := true_ok (y := a0) (x := a1) (x0 := x0Z a0 a1) (y0 := y0Z a0 a1) hp (by omega) (by omega) (by unfold x0Z; rw [hg]) (by unfold y0Z; rw [hg, hl]) hV.h1 hV.h2
  have hA : angZ a0 a1 = (vst (x0Z a0 a1) (y0Z a0 a1) 28).2.2 := by
    unfold angZ fold amt
    simp only [if_neg (show ¬ a0 < 0 by omega), if_neg (show ¬ a1 < 0 by omega), if_neg (show ¬ a1 < a0 by omega)]
  rw [hF, hA]
  generalize (vst (x0Z a0 a1) (y0Z a0 a1) 28).2.2 = a at *
  obtain ⟨t1, t2, t3, t4⟩ := ht
  refine ⟨fun h => absurd (tr.1 h) (by omega), fun _ => ⟨fun h => absurd (tr.1 h) (by omega), fun _ => ?_⟩⟩
  clear hF hA hV hg hl hp
  obtain ⟨q1, q2, _⟩ := wsq_ok (a := a) (by omega) (by omega)
  have cb := fun k => (wcs_ok (a := a) (by omega) (by omega) k).1
  have sb := fun k => (wss_ok (a := a) (by omega) (by omega) k).1
  obtain ⟨S1, S2, C1, C2⟩ := wSC_bd t1 t2
  have hsq : 0 ≤ 2 * a * (2 * a) ∧ 2 * a * (2 * a) ≤ 1152921504606846976 := by
    have p := Int.mul_nonneg (a := 1073741824 - 2 * a) (b := 1073741824 + 2 * a) (by omega) (by omega)
    have e : (1073741824 - 2 * a) * (1073741824 + 2 * a) = 1152921504606846976 - 2 * a * (2 * a) := by grind
    have p2 : 0 ≤ 2 * a * (2 * a) := by
      rcases Int.le_total 0 (2 * a) with h | h
      · exact Int.mul_nonneg h h
      · have := Int.mul_nonneg (a := -(2 * a)) (b := -(2 * a)) (by omega) (by omega)
        rwa [Int.neg_mul_neg] at this
    omega
  intro y1005 e1005 b1005 y1006 e1006 b1006 y1007 e1007 b1007 y1008 e1008 b1008 y1009 e1009 b1009 y1010 e1010 b1010 y1011 e1011 b1011
  clear b1005 b1006 b1007 b1008 b1009 b1010 b1011
  have hq : BO.ev .quo .i64 y1005 1073741824 = wsq a := by
    rw [e1005, w64 (by omega) (by omega)]
    exact quo64 (B := 1152921504606846976) (by omega) (by omega) hsq.2 (by omega)
  rw [hq] at e1006 e1008
  rw [hq]
  have s1 : IntKind.wrap .i64 (0 - y1007) = wcs a 1 := (stepQ (cb 0).1 (cb 0).2 q1 q2 (by omega) (by omega) e1006 e1007).trans (wcs_s 0 rfl rfl).symm
  have r1 : IntKind.wrap .i64 (0 - y1009) = wss a 1 := (stepQ (sb 0).1 (sb 0).2 q1 q2 (by omega) (by omega) e1008 e1009).trans (wss_s 0 rfl rfl).symm
  rw [s1] at e1010
  rw [r1] at e1011
  rw [s1, r1]
  clear e1006 e1007 e1008 e1009
  intro y1012 e1012 b1012 y1013 e1013 b1013 y1014 e1014 b1014 y1015 e1015 b1015 y1016 e1016 b1016 y1017 e1017 b1017
  clear b1012 b1013 b1014 b1015 b1016 b1017
  have s2 : IntKind.wrap .i64 (0 - y1013) = wcs a 2 := (stepQ (cb 1).1 (cb 1).2 q1 q2 (by omega) (by omega) e1012 e1013).trans (wcs_s 1 rfl rfl).symm
  have r2 : IntKind.wrap .i64 (0 - y1015) = wss a 2 := (stepQ (sb 1).1 (sb 1).2 q1 q2 (by omega) (by omega) e1014 e1015).trans (wss_s 1 rfl rfl).symm
  rw [s2] at e1016
  rw [r2] at e1017
  rw [s2, r2]
  clear e1012 e1013 e1014 e1015
  intro y1018 e1018 b1018 y1019 e1019 b1019 y1020 e1020 b1020 y1021 e1021 b1021 y1022 e1022 b1022 y1023 e1023 b1023
  clear b1018 b1019 b1020 b1021 b1022 b1023
  have s3 : IntKind.wrap .i64 (0 - y1019) = wcs a 3 := (stepQ (cb 2).1 (cb 2).2 q1 q2 (by omega) (by omega) e1018 e1019).trans (wcs_s 2 rfl rfl).symm
  have r3 : IntKind.wrap .i64 (0 - y1021) = wss a 3 := (stepQ (sb 2).1 (sb 2).2 q1 q2 (by omega) (by omega) e1020 e1021).trans (wss_s 2 rfl rfl).symm
  rw [s3] at e1022
  rw [r3] at e1023
  rw [s3, r3]
  clear e1018 e1019 e1020 e1021
  intro y1024 e1024 b1024 y1025 e1025 b1025 y1026 e1026 b1026 y1027 e1027 b1027 y1028 e1028 b1028 y1029 e1029 b1029
  clear b1024 b1025 b1026 b1027 b1028 b1029
  have s4 : IntKind.wrap .i64 (0 - y1025) = wcs a 4 := (stepQ (cb 3).1 (cb 3).2 q1 q2 (by omega) (by omega) e1024 e1025).trans (wcs_s 3 rfl rfl).symm
  have r4 : IntKind.wrap .i64 (0 - y1027) = wss a 4 := (stepQ (sb 3).1 (sb 3).2 q1 q2 (by omega) (by omega) e1026 e1027).trans (wss_s 3 rfl rfl).symm
  rw [s4] at e1028
  rw [r4] at e1029
  rw [s4, r4]
  clear e1024 e1025 e1026 e1027
  intro y1030 e1030 b1030 y1031 e1031 b1031 y1032 e1032 b1032 y1033 e1033 b1033 y1034 e1034 b1034 y1035 e1035 b1035
  clear b1030 b1031 b1032 b1033 b1034 b1035
  have s5 : IntKind.wrap .i64 (0 - y1031) = wcs a 5 := (stepQ (cb 4).1 (cb 4).2 q1 q2 (by omega) (by omega) e1030 e1031).trans (wcs_s 4 rfl rfl).symm
  have r5 : IntKind.wrap .i64 (0 - y1033) = wss a 5 := (stepQ (sb 4).1 (sb 4).2 q1 q2 (by omega) (by omega) e1032 e1033).trans (wss_s 4 rfl rfl).symm
  rw [s5] at e1034
  rw [r5] at e1035
  clear e1030 e1031 e1032 e1033
  have z0 : wcs a 0 = 1073741824 := rfl
  have z1 : wss a 0 = 2 * a := rfl
  have f1 := cb 1
  have f2 := cb 2
  have f3 := cb 3
  have f4 := cb 4
  have f5 := cb 5
  have g1 := sb 1
  have g2 := sb 2
  have g3 := sb 3
  have g4 := sb 4
  have g5 := sb 5
  have hC : y1034 = wC a := by
    unfold wC
    rw [w64 (by omega) (by omega)] at e1010
    rw [e1010, w64 (by omega) (by omega)] at e1016
    rw [e1016, w64 (by omega) (by omega)] at e1022
    rw [e1022, w64 (by omega) (by omega)] at e1028
    rw [e1028, w64 (by omega) (by omega)] at e1034
    rw [e1034, z0]
  have hS : y1035 = wS a := by
    unfold wS
    rw [w64 (by omega) (by omega)] at e1011
    rw [e1011, w64 (by omega) (by omega)] at e1017
    rw [e1017, w64 (by omega) (by omega)] at e1023
    rw [e1023, w64 (by omega) (by omega)] at e1029
    rw [e1029, w64 (by omega) (by omega)] at e1035
    rw [e1035, z1]
  intro y1036 e1036 b1036
  have bx : -2305843095329178624 ≤ a1 * wS a ∧ a1 * wS a ≤ 2305843095329178624 := by
    have m1 : a1 * wS a ≤ a1 * 1073741864 := Int.mul_le_mul_of_nonneg_left S2 (by omega)
    have m2 : a1 * (-1073741864) ≤ a1 * wS a := Int.mul_le_mul_of_nonneg_left S1 (by omega)
    omega
  have by' : -2305843095329178624 ≤ a0 * wC a ∧ a0 * wC a ≤ 2305843095329178624 := by
    have m1 : a0 * wC a ≤ a0 * 1073741864 := Int.mul_le_mul_of_nonneg_left C2 (by omega)
    have m2 : a0 * (-1073741864) ≤ a0 * wC a := Int.mul_le_mul_of_nonneg_left C1 (by omega)
    omega
  have e : y1036 = a1 * wS a - a0 * wC a := by
    rw [e1036, hC, hS, w64 (x := a1 * wS a) (by omega) (by omega), w64 (x := a0 * wC a) (by omega) (by omega), w64 (by omega) (by omega)]
  rw [← e] at t3 t4
  refine ⟨fun _ => ⟨fun _ => by decide, fun h => absurd h ?_⟩, fun _ => ⟨fun _ => by decide, fun h => absurd h ?_⟩⟩
  · rw [w64 (by omega) (by omega)]
    exact tr.2 (by omega)
  · exact tr.2 (by omega)

theorem ran : T.beq (projB (runL [(-2147483648, 2147483647), (-2147483648, 2147483647)] 10 [.int .i32 (.v 0), .int .i32 (.v 1)] ⟨[], []⟩)) tree = true := by kernel_rfl
theorem fineT : (Nat.ble (cxL [(-2147483648, 2147483647), (-2147483648, 2147483647)]).Γ.length 1000 && T.fine 1000 tree && SV.vbL 1000 [.int .i32 (.v 0), .int .i32 (.v 1)]) = true := by kernel_rfl
theorem tidyT : T.tidy (cxL [(-2147483648, 2147483647), (-2147483648, 2147483647)]) [] tree = true := by kernel_rfl
theorem walk (a0 a1 : Int) (w0 : (Lit.int .i32 a0).wf = true) (w1 : (Lit.int .i32 a1).wf = true) (w : World) :
    Calls Try.prog 10 #[.int .i32 a0, .int .i32 a1] w fun e w' => e = .returned (.bool true) ∧ Below w.heap.size w w' :=
  truthP_of (runL_ok [(-2147483648, 2147483647), (-2147483648, 2147483647)]) (ρ := envL [a0, a1]) (envL_ok (bnd_cons (wf_bd w0) (bnd_cons (wf_bd w1) (bnd_nil _)))) (f := 10) (args := [.int .i32 (.v 0), .int .i32 (.v 1)]) (t := tree) ran (by rw [fineT, tidyT]; rfl)
    (by rw [plain]; exact holds a0 a1 (wf_bd w0).1 (wf_bd w0).2 (wf_bd w1).1 (wf_bd w1).2) rfl w

/-! ### the row's step -/
set_option maxRecDepth 100000
theorem lifted (os : Os) (started : os.Started) (H : Type) (enc : TypeId × Value → H) :
    ReturnsInHanded {} Try.checked os 10 .any (Rows.turnTrueSpec.pre6 enc Try.prog Try.f10 Rows.turnTrueRow.domain false) (Rows.turnTrueSpec.post enc Try.prog Try.f10 false true false false) := by
  refine returnsInHanded_of_change (C := Try.checked) own started (by kernel_rfl) Try.func10
    (ChangeSpec.witness6 (enc := enc) (C := Try.checked) false ⟨#[], #[.int .i32 0, .int .i32 0], []⟩ 8 (by kernel_rfl) (by kernel_rfl) (by kernel_rfl) (by kernel_rfl)) ?_
  intro W base args ds gs before hval0 hW hcnd _
  have hval : ∀ (j : Nat) t v, Try.f10.params[j]? = some t → args[j]? = some v → Value.okWide Try.prog W .any base t v := hval0
  have hW' := hW
  obtain ⟨p, q, hA0, hV, rfl, hfz, hnd⟩ := hW
  have hA : DataW.TrodAll enc Try.prog W 0 (fun _ => true) true Try.f10.params.toList args.toList ds p := hA0
  rw [Try.params10] at hA hval
  obtain ⟨v0, vs0, d0, ds0, p0, q0, hargs, rfl, rfl, h0, r0⟩ := trodAll_cons hA
  obtain ⟨v1, vs1, d1, ds1, p1, q1, rfl, rfl, rfl, h1, r1⟩ := trodAll_cons r0
  obtain ⟨rfl, rfl, rfl⟩ := trodAll_nil r1
  obtain rfl : args = #[v0, v1] := by cases args; simp_all
  obtain ⟨rfl, rfl⟩ := trodVars_none hV
  obtain ⟨a0, rfl, rfl, rfl, w0⟩ := open_int Try.underlying21 (hval 0 21 v0 rfl rfl) h0
  obtain ⟨a1, rfl, rfl, rfl, w1⟩ := open_int Try.underlying21 (hval 1 21 v1 rfl rfl) h1
  clear hA0 hval0
  simp only [List.append_nil] at hW'
  refine (walk a0 a1 w0 w1 W).mono fun e W' ⟨he, hg⟩ => ?_
  subst he
  exact ⟨_, rfl, post_below (pa := []) (pv := []) hW' hg (fun _ _ _ => (trodAll_cons_mk (shut_bool Try.underlying4 _) trodAll_mk0)) (fun sp _ => (trodAll_cons_mk (shut_int Try.underlying21 w0) (trodAll_cons_mk (shut_int Try.underlying21 w1) trodAll_mk0))) (fun _ _ => rfl) rfl
    (ok_one (by kernel_rfl) rfl (okWide_bool_mk Try.underlying4 _))⟩

theorem over : Rows.turnTrueRow.holds Try.pinned (OpenSpec.ofChange Rows.turnTrueSpec) :=
  OpenClaim.holds_of_wide 10 Try.f10 rfl rfl rfl rfl rfl rfl rfl ⟨rfl, rfl, rfl, rfl, rfl⟩ rfl rfl rfl rfl rfl (by kernel_rfl) Try.func10 (by kernel_rfl)
    (of_decide_eq_true (by kernel_rfl)) (by unfold Func.isWrapper; first | (rw [if_pos (by decide +kernel)]; kernel_rfl) | (rw [if_neg (by decide +kernel)]; exact ⟨rfl, rfl⟩))
    (fun os started H enc _ => lifted os started H enc)

/-- the statement -/
theorem proved : Rows.TurnTrueSaid :=
  over
#print axioms proved
end Go.Proofs.Ytjooaieolphomaa.turnTrue
