/-
  The law QuatOnes answers true at every input: the law's function is run by the engine (a program's symbolic run, proved sound), and the tree of its answers, as a plain statement, is shown to hold. No condition.
-/
import Derived.Test.YtjooaieolphomaaRows
import Derived.Test.YtjooaieolphomaaTmAc
import Derived.Test.YtjooaieolphomaaEngT
import Derived.WalkKit
import Derived.ProofKit
import Derived.OpenShut
namespace Go.Proofs.Ytjooaieolphomaa.quatOnes
open Go.ChangeShapes Go.WideShapes Go.ChangeAt Go.RowKit
open Go.Eng
set_option linter.unusedVariables false
set_option linter.unusedSimpArgs false

theorem own : ownKnob Try.prog.godebug = none := by kernel_rfl

set_option maxRecDepth 100000 in
def tree : T E :=
(.new 1000 (.b .min .i64 (.b .max .i64 (.b .psub .i64 (.f 1 (.c 1073741824) (.v 0) (.c 0)) (.f 1 (.c 0) (.v 1) (.c 0))) (.c (-2147483648))) (.c 2147483647))
  (.new 1001 (.b .min .i64 (.b .max .i64 (.b .psub .i64 (.cl 1000 (-2147483648) 2147483647) (.f 1 (.c 0) (.v 2) (.c 0))) (.c (-2147483648))) (.c 2147483647))
  (.new 1002 (.b .min .i64 (.b .max .i64 (.b .psub .i64 (.cl 1001 (-2147483648) 2147483647) (.f 1 (.c 0) (.v 3) (.c 0))) (.c (-2147483648))) (.c 2147483647))
  (.new 1003 (.b .min .i64 (.b .max .i64 (.b .padd .i64 (.f 1 (.c 1073741824) (.v 1) (.c 0)) (.f 1 (.c 0) (.v 0) (.c 0))) (.c (-2147483648))) (.c 2147483647))
  (.new 1004 (.b .min .i64 (.b .max .i64 (.b .padd .i64 (.cl 1003 (-2147483648) 2147483647) (.f 1 (.c 0) (.v 3) (.c 0))) (.c (-2147483648))) (.c 2147483647))
  (.new 1005 (.b .min .i64 (.b .max .i64 (.b .psub .i64 (.cl 1004 (-2147483648) 2147483647) (.f 1 (.c 0) (.v 2) (.c 0))) (.c (-2147483648))) (.c 2147483647))
  (.new 1006 (.b .min .i64 (.b .max .i64 (.b .psub .i64 (.f 1 (.c 1073741824) (.v 2) (.c 0)) (.f 1 (.c 0) (.v 3) (.c 0))) (.c (-2147483648))) (.c 2147483647))
  (.new 1007 (.b .min .i64 (.b .max .i64 (.b .padd .i64 (.cl 1006 (-2147483648) 2147483647) (.f 1 (.c 0) (.v 0) (.c 0))) (.c (-2147483648))) (.c 2147483647))
  (.new 1008 (.b .min .i64 (.b .max .i64 (.b .padd .i64 (.cl 1007 (-2147483648) 2147483647) (.f 1 (.c 0) (.v 1) (.c 0))) (.c (-2147483648))) (.c 2147483647))
  (.new 1009 (.b .min .i64 (.b .max .i64 (.b .padd .i64 (.f 1 (.c 1073741824) (.v 3) (.c 0)) (.f 1 (.c 0) (.v 2) (.c 0))) (.c (-2147483648))) (.c 2147483647))
  (.new 1010 (.b .min .i64 (.b .max .i64 (.b .psub .i64 (.cl 1009 (-2147483648) 2147483647) (.f 1 (.c 0) (.v 1) (.c 0))) (.c (-2147483648))) (.c 2147483647))
  (.new 1011 (.b .min .i64 (.b .max .i64 (.b .padd .i64 (.cl 1010 (-2147483648) 2147483647) (.f 1 (.c 0) (.v 0) (.c 0))) (.c (-2147483648))) (.c 2147483647))
  (.br (.ite (.b .eq .i64 (.cl 1002 (-2147483648) 2147483647) (.v 0)) (.ite (.b .eq .i64 (.cl 1005 (-2147483648) 2147483647) (.v 1)) (.ite (.b .eq .i64 (.cl 1008 (-2147483648) 2147483647) (.v 2)) (.ite (.b .eq .i64 (.cl 1011 (-2147483648) 2147483647) (.v 3)) (.c 1) (.c 0)) (.c 0)) (.c 0)) (.c 0))
  (.new 1013 (.b .min .i64 (.b .max .i64 (.b .psub .i64 (.f 1 (.v 0) (.c 1073741824) (.c 0)) (.f 1 (.v 1) (.c 0) (.c 0))) (.c (-2147483648))) (.c 2147483647))
  (.new 1014 (.b .min .i64 (.b .max .i64 (.b .psub .i64 (.cl 1013 (-2147483648) 2147483647) (.f 1 (.v 2) (.c 0) (.c 0))) (.c (-2147483648))) (.c 2147483647))
  (.new 1015 (.b .min .i64 (.b .max .i64 (.b .psub .i64 (.cl 1014 (-2147483648) 2147483647) (.f 1 (.v 3) (.c 0) (.c 0))) (.c (-2147483648))) (.c 2147483647))
  (.new 1016 (.b .min .i64 (.b .max .i64 (.b .padd .i64 (.f 1 (.v 0) (.c 0) (.c 0)) (.f 1 (.v 1) (.c 1073741824) (.c 0))) (.c (-2147483648))) (.c 2147483647))
  (.new 1017 (.b .min .i64 (.b .max .i64 (.b .padd .i64 (.cl 1016 (-2147483648) 2147483647) (.f 1 (.v 2) (.c 0) (.c 0))) (.c (-2147483648))) (.c 2147483647))
  (.new 1018 (.b .min .i64 (.b .max .i64 (.b .psub .i64 (.cl 1017 (-2147483648) 2147483647) (.f 1 (.v 3) (.c 0) (.c 0))) (.c (-2147483648))) (.c 2147483647))
  (.new 1019 (.b .min .i64 (.b .max .i64 (.b .psub .i64 (.f 1 (.v 0) (.c 0) (.c 0)) (.f 1 (.v 1) (.c 0) (.c 0))) (.c (-2147483648))) (.c 2147483647))
  (.new 1020 (.b .min .i64 (.b .max .i64 (.b .padd .i64 (.cl 1019 (-2147483648) 2147483647) (.f 1 (.v 2) (.c 1073741824) (.c 0))) (.c (-2147483648))) (.c 2147483647))
  (.new 1021 (.b .min .i64 (.b .max .i64 (.b .padd .i64 (.cl 1020 (-2147483648) 2147483647) (.f 1 (.v 3) (.c 0) (.c 0))) (.c (-2147483648))) (.c 2147483647))
  (.new 1022 (.b .min .i64 (.b .max .i64 (.b .padd .i64 (.f 1 (.v 0) (.c 0) (.c 0)) (.f 1 (.v 1) (.c 0) (.c 0))) (.c (-2147483648))) (.c 2147483647))
  (.new 1023 (.b .min .i64 (.b .max .i64 (.b .psub .i64 (.cl 1022 (-2147483648) 2147483647) (.f 1 (.v 2) (.c 0) (.c 0))) (.c (-2147483648))) (.c 2147483647))
  (.new 1024 (.b .min .i64 (.b .max .i64 (.b .padd .i64 (.cl 1023 (-2147483648) 2147483647) (.f 1 (.v 3) (.c 1073741824) (.c 0))) (.c (-2147483648))) (.c 2147483647))
  (.br (.ite (.b .eq .i64 (.cl 1015 (-2147483648) 2147483647) (.v 0)) (.ite (.b .eq .i64 (.cl 1018 (-2147483648) 2147483647) (.v 1)) (.ite (.b .eq .i64 (.cl 1021 (-2147483648) 2147483647) (.v 2)) (.ite (.b .eq .i64 (.cl 1024 (-2147483648) 2147483647) (.v 3)) (.c 1) (.c 0)) (.c 0)) (.c 0)) (.c 0))
  (.new 1026 (.b .min .i64 (.b .psub .i64 (.c 0) (.f 1 (.c 0) (.v 4) (.c 0))) (.c 2147483647))
  (.new 1027 (.b .min .i64 (.b .max .i64 (.b .psub .i64 (.cl 1026 (-2147483647) 2147483647) (.f 1 (.c 0) (.v 5) (.c 0))) (.c (-2147483648))) (.c 2147483647))
  (.new 1028 (.b .min .i64 (.b .max .i64 (.b .psub .i64 (.cl 1027 (-2147483648) 2147483647) (.f 1 (.c 0) (.v 6) (.c 0))) (.c (-2147483648))) (.c 2147483647))
  (.new 1029 (.b .min .i64 (.b .max .i64 (.b .padd .i64 (.f 1 (.c 1073741824) (.v 4) (.c 0)) (.f 1 (.c 0) (.v 6) (.c 0))) (.c (-2147483648))) (.c 2147483647))
  (.new 1030 (.b .min .i64 (.b .max .i64 (.b .psub .i64 (.cl 1029 (-2147483648) 2147483647) (.f 1 (.c 0) (.v 5) (.c 0))) (.c (-2147483648))) (.c 2147483647))
  (.new 1031 (.b .min .i64 (.b .max .i64 (.b .psub .i64 (.f 1 (.c 1073741824) (.v 5) (.c 0)) (.f 1 (.c 0) (.v 6) (.c 0))) (.c (-2147483648))) (.c 2147483647))
  (.new 1032 (.b .min .i64 (.b .max .i64 (.b .padd .i64 (.cl 1031 (-2147483648) 2147483647) (.f 1 (.c 0) (.v 4) (.c 0))) (.c (-2147483648))) (.c 2147483647))
  (.new 1033 (.b .min .i64 (.b .max .i64 (.b .padd .i64 (.f 1 (.c 1073741824) (.v 6) (.c 0)) (.f 1 (.c 0) (.v 5) (.c 0))) (.c (-2147483648))) (.c 2147483647))
  (.new 1034 (.b .min .i64 (.b .max .i64 (.b .psub .i64 (.cl 1033 (-2147483648) 2147483647) (.f 1 (.c 0) (.v 4) (.c 0))) (.c (-2147483648))) (.c 2147483647))
  (.br (.ite (.b .eq .i64 (.cl 1028 (-2147483648) 2147483647) (.c 0)) (.ite (.b .eq .i64 (.cl 1030 (-2147483648) 2147483647) (.v 4)) (.ite (.b .eq .i64 (.cl 1032 (-2147483648) 2147483647) (.v 5)) (.ite (.b .eq .i64 (.cl 1034 (-2147483648) 2147483647) (.v 6)) (.c 1) (.c 0)) (.c 0)) (.c 0)) (.c 0))
  (.leaf (.c 1))
  (.leaf (.c 0))))))))))))
  (.leaf (.c 0)))))))))))))))
  (.leaf (.c 0)))))))))))))))

def P (a0 a1 a2 a3 a4 a5 a6 : Int) : Prop :=
 ∀ y1000 : Int, y1000 = (sat32 ((mulqZ 1073741824 a0) - (mulqZ 0 a1))) → (-2147483648 ≤ y1000 ∧ y1000 ≤ 2147483647) →
 ∀ y1001 : Int, y1001 = (sat32 (y1000 - (mulqZ 0 a2))) → (-2147483648 ≤ y1001 ∧ y1001 ≤ 2147483647) →
 ∀ y1002 : Int, y1002 = (sat32 (y1001 - (mulqZ 0 a3))) → (-2147483648 ≤ y1002 ∧ y1002 ≤ 2147483647) →
 ∀ y1003 : Int, y1003 = (sat32 ((mulqZ 1073741824 a1) + (mulqZ 0 a0))) → (-2147483648 ≤ y1003 ∧ y1003 ≤ 2147483647) →
 ∀ y1004 : Int, y1004 = (sat32 (y1003 + (mulqZ 0 a3))) → (-2147483648 ≤ y1004 ∧ y1004 ≤ 2147483647) →
 ∀ y1005 : Int, y1005 = (sat32 (y1004 - (mulqZ 0 a2))) → (-2147483648 ≤ y1005 ∧ y1005 ≤ 2147483647) →
 ∀ y1006 : Int, y1006 = (sat32 ((mulqZ 1073741824 a2) - (mulqZ 0 a3))) → (-2147483648 ≤ y1006 ∧ y1006 ≤ 2147483647) →
 ∀ y1007 : Int, y1007 = (sat32 (y1006 + (mulqZ 0 a0))) → (-2147483648 ≤ y1007 ∧ y1007 ≤ 2147483647) →
 ∀ y1008 : Int, y1008 = (sat32 (y1007 + (mulqZ 0 a1))) → (-2147483648 ≤ y1008 ∧ y1008 ≤ 2147483647) →
 ∀ y1009 : Int, y1009 = (sat32 ((mulqZ 1073741824 a3) + (mulqZ 0 a2))) → (-2147483648 ≤ y1009 ∧ y1009 ≤ 2147483647) →
 ∀ y1010 : Int, y1010 = (sat32 (y1009 - (mulqZ 0 a1))) → (-2147483648 ≤ y1010 ∧ y1010 ≤ 2147483647) →
 ∀ y1011 : Int, y1011 = (sat32 (y1010 + (mulqZ 0 a0))) → (-2147483648 ≤ y1011 ∧ y1011 ≤ 2147483647) →
 (((iteZ (bool01 (y1002 == a0)) (iteZ (bool01 (y1005 == a1)) (iteZ (bool01 (y1008 == a2)) (iteZ (bool01 (y1011 == a3)) 1 0) 0) 0) 0) ≠ 0 →
  ∀ y1013 : Int, y1013 = (sat32 ((mulqZ a0 1073741824) - (mulqZ a1 0))) → (-2147483648 ≤ y1013 ∧ y1013 ≤ 2147483647) →
  ∀ y1014 : Int, y1014 = (sat32 (y1013 - (mulqZ a2 0))) → (-2147483648 ≤ y1014 ∧ y1014 ≤ 2147483647) →
  ∀ y1015 : Int, y1015 = (sat32 (y1014 - (mulqZ a3 0))) → (-2147483648 ≤ y1015 ∧ y1015 ≤ 2147483647) →
  ∀ y1016 : Int, y1016 = (sat32 ((mulqZ a0 0) + (mulqZ a1 1073741824))) → (-2147483648 ≤ y1016 ∧ y1016 ≤ 2147483647) →
  ∀ y1017 : Int, y1017 = (sat32 (y1016 + (mulqZ a2 0))) → (-2147483648 ≤ y1017 ∧ y1017 ≤ 2147483647) →
  ∀ y1018 : Int, y1018 = (sat32 (y1017 - (mulqZ a3 0))) → (-2147483648 ≤ y1018 ∧ y1018 ≤ 2147483647) →
  ∀ y1019 : Int, y1019 = (sat32 ((mulqZ a0 0) - (mulqZ a1 0))) → (-2147483648 ≤ y1019 ∧ y1019 ≤ 2147483647) →
  ∀ y1020 : Int, y1020 = (sat32 (y1019 + (mulqZ a2 1073741824))) → (-2147483648 ≤ y1020 ∧ y1020 ≤ 2147483647) →
  ∀ y1021 : Int, y1021 = (sat32 (y1020 + (mulqZ a3 0))) → (-2147483648 ≤ y1021 ∧ y1021 ≤ 2147483647) →
  ∀ y1022 : Int, y1022 = (sat32 ((mulqZ a0 0) + (mulqZ a1 0))) → (-2147483648 ≤ y1022 ∧ y1022 ≤ 2147483647) →
  ∀ y1023 : Int, y1023 = (sat32 (y1022 - (mulqZ a2 0))) → (-2147483648 ≤ y1023 ∧ y1023 ≤ 2147483647) →
  ∀ y1024 : Int, y1024 = (sat32 (y1023 + (mulqZ a3 1073741824))) → (-2147483648 ≤ y1024 ∧ y1024 ≤ 2147483647) →
  (((iteZ (bool01 (y1015 == a0)) (iteZ (bool01 (y1018 == a1)) (iteZ (bool01 (y1021 == a2)) (iteZ (bool01 (y1024 == a3)) 1 0) 0) 0) 0) ≠ 0 →
   ∀ y1026 : Int, y1026 = (minZ (0 - (mulqZ 0 a4)) 2147483647) → (-2147483647 ≤ y1026 ∧ y1026 ≤ 2147483647) →
   ∀ y1027 : Int, y1027 = (sat32 (y1026 - (mulqZ 0 a5))) → (-2147483648 ≤ y1027 ∧ y1027 ≤ 2147483647) →
   ∀ y1028 : Int, y1028 = (sat32 (y1027 - (mulqZ 0 a6))) → (-2147483648 ≤ y1028 ∧ y1028 ≤ 2147483647) →
   ∀ y1029 : Int, y1029 = (sat32 ((mulqZ 1073741824 a4) + (mulqZ 0 a6))) → (-2147483648 ≤ y1029 ∧ y1029 ≤ 2147483647) →
   ∀ y1030 : Int, y1030 = (sat32 (y1029 - (mulqZ 0 a5))) → (-2147483648 ≤ y1030 ∧ y1030 ≤ 2147483647) →
   ∀ y1031 : Int, y1031 = (sat32 ((mulqZ 1073741824 a5) - (mulqZ 0 a6))) → (-2147483648 ≤ y1031 ∧ y1031 ≤ 2147483647) →
   ∀ y1032 : Int, y1032 = (sat32 (y1031 + (mulqZ 0 a4))) → (-2147483648 ≤ y1032 ∧ y1032 ≤ 2147483647) →
   ∀ y1033 : Int, y1033 = (sat32 ((mulqZ 1073741824 a6) + (mulqZ 0 a5))) → (-2147483648 ≤ y1033 ∧ y1033 ≤ 2147483647) →
   ∀ y1034 : Int, y1034 = (sat32 (y1033 - (mulqZ 0 a4))) → (-2147483648 ≤ y1034 ∧ y1034 ≤ 2147483647) →
   (((iteZ (bool01 (y1028 == 0)) (iteZ (bool01 (y1030 == a4)) (iteZ (bool01 (y1032 == a5)) (iteZ (bool01 (y1034 == a6)) 1 0) 0) 0) 0) ≠ 0 →
    (1 : Int) ≠ 0) ∧ ((iteZ (bool01 (y1028 == 0)) (iteZ (bool01 (y1030 == a4)) (iteZ (bool01 (y1032 == a5)) (iteZ (bool01 (y1034 == a6)) 1 0) 0) 0) 0) = 0 →
    (0 : Int) ≠ 0))) ∧ ((iteZ (bool01 (y1015 == a0)) (iteZ (bool01 (y1018 == a1)) (iteZ (bool01 (y1021 == a2)) (iteZ (bool01 (y1024 == a3)) 1 0) 0) 0) 0) = 0 →
   (0 : Int) ≠ 0))) ∧ ((iteZ (bool01 (y1002 == a0)) (iteZ (bool01 (y1005 == a1)) (iteZ (bool01 (y1008 == a2)) (iteZ (bool01 (y1011 == a3)) 1 0) 0) 0) 0) = 0 →
  (0 : Int) ≠ 0))

theorem plain (a0 a1 a2 a3 a4 a5 a6 : Int) : T.holdsP (cxOf 2 [(-2147483648, 2147483647), (-2147483648, 2147483647), (-2147483648, 2147483647), (-2147483648, 2147483647), (-2147483648, 2147483647), (-2147483648, 2147483647), (-2147483648, 2147483647)]) (envOf [a0, a1, a2, a3, a4, a5, a6]) tree = P a0 a1 a2 a3 a4 a5 a6 := by kernel_rfl

theorem m1 {x : Int} (h1 : -2147483648 ≤ x) (h2 : x ≤ 2147483647) : sat32 x = x := by
  unfold sat32; rw [sat_eq]; exact satZ_id h1 h2
set_option maxHeartbeats 4000000 in
theorem holds (a0 a1 a2 a3 a4 a5 a6 : Int) (l0 : -2147483648 ≤ a0) (u0 : a0 ≤ 2147483647) (l1 : -2147483648 ≤ a1) (u1 : a1 ≤ 2147483647) (l2 : -2147483648 ≤ a2) (u2 : a2 ≤ 2147483647) (l3 : -2147483648 ≤ a3) (u3 : a3 ≤ 2147483647) (l4 : -2147483648 ≤ a4) (u4 : a4 ≤ 2147483647) (l5 : -2147483648 ≤ a5) (u5 : a5 ≤ 2147483647) (l6 : -2147483648 ≤ a6) (u6 : a6 ≤ 2147483647) : P a0 a1 a2 a3 a4 a5 a6 := by
  unfold P
  simp (disch := assumption) only [mulq_zero_l, mulq_zero_r, mulq_one_l, mulq_one_r, Int.sub_zero, Int.add_zero, Int.zero_add, Int.zero_sub, Int.sub_self, Int.neg_zero, m1, forall_eq_apply_imp_iff, forall_eq]
  have z : minZ 0 2147483647 = 0 := by decide
  simp (disch := first | assumption | decide) only [m1, z]
  simp [iteZ, bool01]
  intros
  have e2 : sat32 a2 = a2 := m1 l2 u2
  have e3 : sat32 a3 = a3 := m1 l3 u3
  exact ⟨by rw [e2, e2], e3⟩

theorem walk (a0 a1 a2 a3 a4 a5 a6 : Int) (w0 : (Lit.int .i32 a0).wf = true) (w1 : (Lit.int .i32 a1).wf = true) (w2 : (Lit.int .i32 a2).wf = true) (w3 : (Lit.int .i32 a3).wf = true) (w4 : (Lit.int .i32 a4).wf = true) (w5 : (Lit.int .i32 a5).wf = true) (w6 : (Lit.int .i32 a6).wf = true) (w : World) :
    Calls Try.prog 16 #[.agg #[.int .i32 a0, .int .i32 a1, .int .i32 a2, .int .i32 a3], .agg #[.int .i32 a4, .int .i32 a5, .int .i32 a6]] w fun e w' => e = .returned (.bool true) ∧ Below w.heap.size w w' :=
  truthP_of (runOf_ok smAc_ok 2 [(-2147483648, 2147483647), (-2147483648, 2147483647), (-2147483648, 2147483647), (-2147483648, 2147483647), (-2147483648, 2147483647), (-2147483648, 2147483647), (-2147483648, 2147483647)]) (envOf_ok (bnd_cons (wf_bd w0) (bnd_cons (wf_bd w1) (bnd_cons (wf_bd w2) (bnd_cons (wf_bd w3) (bnd_cons (wf_bd w4) (bnd_cons (wf_bd w5) (bnd_cons (wf_bd w6) (bnd_nil _))))))))) (f := 16) (args := [.agg [.int .i32 (.v 0), .int .i32 (.v 1), .int .i32 (.v 2), .int .i32 (.v 3)], .agg [.int .i32 (.v 4), .int .i32 (.v 5), .int .i32 (.v 6)]]) (t := tree) (by kernel_rfl) (by kernel_rfl)
    (by rw [plain]; exact holds a0 a1 a2 a3 a4 a5 a6 (wf_bd w0).1 (wf_bd w0).2 (wf_bd w1).1 (wf_bd w1).2 (wf_bd w2).1 (wf_bd w2).2 (wf_bd w3).1 (wf_bd w3).2 (wf_bd w4).1 (wf_bd w4).2 (wf_bd w5).1 (wf_bd w5).2 (wf_bd w6).1 (wf_bd w6).2) rfl w

/-! ### the row's step -/
set_option maxRecDepth 100000 in
theorem lifted (os : Os) (started : os.Started) (H : Type) (enc : TypeId × Value → H) :
    ReturnsInHanded {} Try.checked os 16 .any (Rows.quatOnesSpec.pre6 enc Try.prog Try.f16 Rows.quatOnesRow.domain false) (Rows.quatOnesSpec.post enc Try.prog Try.f16 false true false false) := by
  refine returnsInHanded_of_change (C := Try.checked) own started (by kernel_rfl) Try.func16
    (ChangeSpec.witness6 (enc := enc) (C := Try.checked) false ⟨#[], #[.agg #[.int .i32 0, .int .i32 0, .int .i32 0, .int .i32 0], .agg #[.int .i32 0, .int .i32 0, .int .i32 0]], []⟩ 8 (by kernel_rfl) (by kernel_rfl) (by kernel_rfl) (by kernel_rfl)) ?_
  intro W base args ds gs before hval0 hW hcnd _
  have hval : ∀ (j : Nat) t v, Try.f16.params[j]? = some t → args[j]? = some v → Value.okWide Try.prog W .any base t v := hval0
  have hW' := hW
  obtain ⟨p, q, hA0, hV, rfl, hfz, hnd⟩ := hW
  have hA : DataW.TrodAll enc Try.prog W 0 (fun _ => true) true Try.f16.params.toList args.toList ds p := hA0
  rw [Try.params16] at hA hval
  obtain ⟨v0, vs0, d0, ds0, p0, q0, hargs, rfl, rfl, h0, r0⟩ := trodAll_cons hA
  obtain ⟨v1, vs1, d1, ds1, p1, q1, rfl, rfl, rfl, h1, r1⟩ := trodAll_cons r0
  obtain ⟨rfl, rfl, rfl⟩ := trodAll_nil r1
  obtain rfl : args = #[v0, v1] := by cases args; simp_all
  obtain ⟨rfl, rfl⟩ := trodVars_none hV
  obtain ⟨xs0, hx0, rfl, rfl, rfl, hw0⟩ := open_arrI (n := 4) Try.underlying46 Try.underlying21 (by kernel_rfl) (by kernel_rfl) (hval 0 46 v0 rfl rfl) h0
  obtain ⟨a0, a1, a2, a3, rfl⟩ := list4 hx0
  have w0 := hw0 a0 (by simp)
  have w1 := hw0 a1 (by simp)
  have w2 := hw0 a2 (by simp)
  have w3 := hw0 a3 (by simp)
  obtain ⟨xs1, hx1, rfl, rfl, rfl, hw1⟩ := open_arrI (n := 3) Try.underlying52 Try.underlying21 (by kernel_rfl) (by kernel_rfl) (hval 1 52 v1 rfl rfl) h1
  obtain ⟨a4, a5, a6, rfl⟩ := list3 hx1
  have w4 := hw1 a4 (by simp)
  have w5 := hw1 a5 (by simp)
  have w6 := hw1 a6 (by simp)
  clear hA0 hval0
  simp only [List.append_nil] at hW'
  refine (walk a0 a1 a2 a3 a4 a5 a6 w0 w1 w2 w3 w4 w5 w6 W).mono fun e W' ⟨he, hg⟩ => ?_
  subst he
  exact ⟨_, rfl, post_below (pa := []) (pv := []) hW' hg (fun _ _ _ => (trodAll_cons_mk (shut_bool Try.underlying4 _) trodAll_mk0)) (fun sp _ => (trodAll_cons_mk (shut_arrI (n := 4) (xs := [a0, a1, a2, a3]) Try.underlying46 Try.underlying21 (by kernel_rfl) (by kernel_rfl) rfl hw0) (trodAll_cons_mk (shut_arrI (n := 3) (xs := [a4, a5, a6]) Try.underlying52 Try.underlying21 (by kernel_rfl) (by kernel_rfl) rfl hw1) trodAll_mk0))) (fun _ _ => rfl) rfl
    (ok_one (by kernel_rfl) rfl (okWide_bool_mk Try.underlying4 _))⟩

theorem over : Rows.quatOnesRow.holds Try.pinned (OpenSpec.ofChange Rows.quatOnesSpec) :=
  OpenClaim.holds_of_wide 16 Try.f16 rfl rfl rfl rfl rfl rfl rfl ⟨rfl, rfl, rfl, rfl, rfl⟩ rfl rfl rfl rfl rfl (by kernel_rfl) Try.func16 (by kernel_rfl)
    (of_decide_eq_true (by kernel_rfl)) (by unfold Func.isWrapper; first | (rw [if_pos (by decide +kernel)]; kernel_rfl) | (rw [if_neg (by decide +kernel)]; exact ⟨rfl, rfl⟩))
    (fun os started H enc _ => lifted os started H enc)

/-- the statement -/
theorem proved : Rows.QuatOnesSaid :=
  over
#print axioms proved
end Go.Proofs.Ytjooaieolphomaa.quatOnes
