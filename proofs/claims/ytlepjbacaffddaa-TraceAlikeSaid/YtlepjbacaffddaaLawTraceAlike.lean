/-
  The law TraceAlike answers true at every input: the law is run by the engine (a symbolic run, proved sound), the tree of its answers, as a plain statement, is shown to hold. No condition.
-/
import Derived.Test.YtlepjbacaffddaaGab
import Derived.Test.YtlepjbacaffddaaCTCost
import Derived.Test.YtlepjbacaffddaaCTFirst
import Derived.Test.YtlepjbacaffddaaCAwake17
import Derived.Test.YtlepjbacaffddaaGmT
import Derived.WalkKit
import Derived.ProofKit
import Derived.OpenShut
import Derived.LaidMore
import Derived.Stop.Joined
import Derived.SevenTiedAt
import Derived.SizedLaws
namespace Go.Proofs.Ytlepjbacaffddaa.traceAlike
open Go.ChangeShapes Go.WideShapes Go.ChangeAt Go.Eng Go.RowKit
set_option linter.unusedVariables false
set_option linter.unusedSimpArgs false
set_option maxRecDepth 100000
def rc : Rc := ⟨6, [none, none], [.row [.int .i64, .int .i64, .int .i64] 140737488355328, .row [.int .i64, .int .i64, .int .i64] 140737488355328], [], .one, [.bool (.c 1)]⟩
theorem okb : rc.ok = true := by kernel_rfl
noncomputable def us : SMs := fun m n => smR (m.cx (cxOf n)) [CTCost.rc, CTFirst.rc, CAwake17.rc]
theorem us_ok : SMsOk us := fun m n => smR_ok (rcs_cons CTCost.okb (rc_n CTCost.ok) (rcs_cons CTFirst.okb (rc_n CTFirst.ok) (rcs_cons CAwake17.okb (rc_n CAwake17.ok) (rcs_nil _))))
def tree : TT (List E) :=
(.br (.b .lt .i64 (.c 500) (.v 0))
  (.leaf [(.c 1)])
  (.br (.b .lt .i64 (.c 500) (.v 1))
  (.leaf [(.c 1)])
  (.br (.b .le .i64 (.v 0) (.c 1000000))
  (.br (.b .le .i64 (.v 1) (.c 1000000))
  (.br (.b .le .i64 (.v 0) (.v 4))
  (.br (.b .le .i64 (.v 1) (.v 5))
  (.br (.b .ne .i64 (.f 37 (.v 2) (.v 3) (.f 11 (.v 0) (.f 11 (.v 1) (.c 0) (.c 0)) (.c 0))) (.f 37 (.v 3) (.v 2) (.f 11 (.v 1) (.f 11 (.v 0) (.c 0) (.c 0)) (.c 0))))
  (.leaf [(.c 0)])
  (.br (.b .lt .i64 (.f 37 (.v 2) (.v 3) (.f 11 (.v 0) (.f 11 (.v 1) (.c 0) (.c 0)) (.c 0))) (.c (-1)))
  (.leaf [(.c 0)])
  (.br (.b .lt .i64 (.v 0) (.f 37 (.v 2) (.v 3) (.f 11 (.v 0) (.f 11 (.v 1) (.c 0) (.c 0)) (.c 0))))
  (.leaf [(.c 0)])
  (.br (.b .lt .i64 (.v 1) (.f 37 (.v 2) (.v 3) (.f 11 (.v 0) (.f 11 (.v 1) (.c 0) (.c 0)) (.c 0))))
  (.leaf [(.c 0)])
  (.br (.b .lt .i64 (.f 37 (.v 2) (.v 3) (.f 11 (.v 0) (.f 11 (.v 1) (.c 0) (.c 0)) (.c 0))) (.c 0))
  (.br (.b .eq .i64 (.v 0) (.v 1))
  (.br (.b .eq .i64 (.f 35 (.v 2) (.v 0) (.c 0)) (.f 35 (.v 3) (.v 1) (.c 0)))
  (.leaf [(.c 1)])
  (.leaf [(.c 0)]))
  (.leaf [(.c 0)]))
  (.br (.b .le .i64 (.c 0) (.f 37 (.v 2) (.v 3) (.f 11 (.v 0) (.f 11 (.v 1) (.c 0) (.c 0)) (.c 0))))
  (.br (.b .le .i64 (.f 37 (.v 2) (.v 3) (.f 11 (.v 0) (.f 11 (.v 1) (.c 0) (.c 0)) (.c 0))) (.v 4))
  (.br (.b .le .i64 (.f 37 (.v 2) (.v 3) (.f 11 (.v 0) (.f 11 (.v 1) (.c 0) (.c 0)) (.c 0))) (.v 5))
  (.br (.b .le .i64 (.f 37 (.v 2) (.v 3) (.f 11 (.v 0) (.f 11 (.v 1) (.c 0) (.c 0)) (.c 0))) (.c 1000000))
  (.br (.b .le .i64 (.f 37 (.v 2) (.v 3) (.f 11 (.v 0) (.f 11 (.v 1) (.c 0) (.c 0)) (.c 0))) (.v 0))
  (.br (.b .le .i64 (.f 37 (.v 2) (.v 3) (.f 11 (.v 0) (.f 11 (.v 1) (.c 0) (.c 0)) (.c 0))) (.v 1))
  (.br (.b .eq .i64 (.f 37 (.v 2) (.v 3) (.f 11 (.f 37 (.v 2) (.v 3) (.f 11 (.v 0) (.f 11 (.v 1) (.c 0) (.c 0)) (.c 0))) (.f 11 (.f 37 (.v 2) (.v 3) (.f 11 (.v 0) (.f 11 (.v 1) (.c 0) (.c 0)) (.c 0))) (.c 0) (.c 0)) (.c 0))) (.c (-1)))
  (.br (.b .eq .i64 (.f 37 (.v 2) (.v 3) (.f 11 (.v 0) (.f 11 (.v 1) (.c 0) (.c 0)) (.c 0))) (.v 0))
  (.new 1000 (.f 35 (.v 2) (.f 37 (.v 2) (.v 3) (.f 11 (.v 0) (.f 11 (.v 1) (.c 0) (.c 0)) (.c 0))) (.c 0))
  (.br (.b .le .i64 (.c 0) (.b .psub .i64 (.v 0) (.f 37 (.v 2) (.v 3) (.f 11 (.v 0) (.f 11 (.v 1) (.c 0) (.c 0)) (.c 0)))))
  (.br (.b .le .i64 (.b .psub .i64 (.v 0) (.f 37 (.v 2) (.v 3) (.f 11 (.v 0) (.f 11 (.v 1) (.c 0) (.c 0)) (.c 0)))) (.c 1000000))
  (.br (.b .le .i64 (.c 0) (.ite (.b .eq .i64 (.v 4) (.f 37 (.v 2) (.v 3) (.f 11 (.v 0) (.f 11 (.v 1) (.c 0) (.c 0)) (.c 0)))) (.c 0) (.f 37 (.v 2) (.v 3) (.f 11 (.v 0) (.f 11 (.v 1) (.c 0) (.c 0)) (.c 0)))))
  (.br (.b .le .i64 (.b .padd .i64 (.ite (.b .eq .i64 (.v 4) (.f 37 (.v 2) (.v 3) (.f 11 (.v 0) (.f 11 (.v 1) (.c 0) (.c 0)) (.c 0)))) (.c 0) (.f 37 (.v 2) (.v 3) (.f 11 (.v 0) (.f 11 (.v 1) (.c 0) (.c 0)) (.c 0)))) (.b .psub .i64 (.v 0) (.f 37 (.v 2) (.v 3) (.f 11 (.v 0) (.f 11 (.v 1) (.c 0) (.c 0)) (.c 0))))) (.v 0))
  (.br (.b .le .i64 (.b .psub .i64 (.v 0) (.f 37 (.v 2) (.v 3) (.f 11 (.v 0) (.f 11 (.v 1) (.c 0) (.c 0)) (.c 0)))) (.b .psub .i64 (.v 4) (.f 37 (.v 2) (.v 3) (.f 11 (.v 0) (.f 11 (.v 1) (.c 0) (.c 0)) (.c 0)))))
  (.new 1001 (.f 35 (.f 18 (.v 2) (.ite (.b .eq .i64 (.v 4) (.f 37 (.v 2) (.v 3) (.f 11 (.v 0) (.f 11 (.v 1) (.c 0) (.c 0)) (.c 0)))) (.c 0) (.f 37 (.v 2) (.v 3) (.f 11 (.v 0) (.f 11 (.v 1) (.c 0) (.c 0)) (.c 0)))) (.c 0)) (.b .psub .i64 (.v 0) (.f 37 (.v 2) (.v 3) (.f 11 (.v 0) (.f 11 (.v 1) (.c 0) (.c 0)) (.c 0)))) (.c 0))
  (.br (.b .eq .i64 (.w .i64 (.b .padd .i64 (.cl 1000 (-9223372036854775808) 9223372036854775807) (.cl 1001 (-9223372036854775808) 9223372036854775807))) (.f 35 (.v 2) (.v 0) (.c 0)))
  (.leaf [(.c 1)])
  (.leaf [(.c 0)])))
  (.bad 200))
  (.bad 200))
  (.bad 200))
  (.bad 200))
  (.bad 200)))
  (.br (.b .eq .i64 (.f 37 (.v 2) (.v 3) (.f 11 (.v 0) (.f 11 (.v 1) (.c 0) (.c 0)) (.c 0))) (.v 1))
  (.new 1000 (.f 35 (.v 2) (.f 37 (.v 2) (.v 3) (.f 11 (.v 0) (.f 11 (.v 1) (.c 0) (.c 0)) (.c 0))) (.c 0))
  (.br (.b .le .i64 (.c 0) (.b .psub .i64 (.v 0) (.f 37 (.v 2) (.v 3) (.f 11 (.v 0) (.f 11 (.v 1) (.c 0) (.c 0)) (.c 0)))))
  (.br (.b .le .i64 (.b .psub .i64 (.v 0) (.f 37 (.v 2) (.v 3) (.f 11 (.v 0) (.f 11 (.v 1) (.c 0) (.c 0)) (.c 0)))) (.c 1000000))
  (.br (.b .le .i64 (.c 0) (.ite (.b .eq .i64 (.v 4) (.f 37 (.v 2) (.v 3) (.f 11 (.v 0) (.f 11 (.v 1) (.c 0) (.c 0)) (.c 0)))) (.c 0) (.f 37 (.v 2) (.v 3) (.f 11 (.v 0) (.f 11 (.v 1) (.c 0) (.c 0)) (.c 0)))))
  (.br (.b .le .i64 (.b .padd .i64 (.ite (.b .eq .i64 (.v 4) (.f 37 (.v 2) (.v 3) (.f 11 (.v 0) (.f 11 (.v 1) (.c 0) (.c 0)) (.c 0)))) (.c 0) (.f 37 (.v 2) (.v 3) (.f 11 (.v 0) (.f 11 (.v 1) (.c 0) (.c 0)) (.c 0)))) (.b .psub .i64 (.v 0) (.f 37 (.v 2) (.v 3) (.f 11 (.v 0) (.f 11 (.v 1) (.c 0) (.c 0)) (.c 0))))) (.v 0))
  (.br (.b .le .i64 (.b .psub .i64 (.v 0) (.f 37 (.v 2) (.v 3) (.f 11 (.v 0) (.f 11 (.v 1) (.c 0) (.c 0)) (.c 0)))) (.b .psub .i64 (.v 4) (.f 37 (.v 2) (.v 3) (.f 11 (.v 0) (.f 11 (.v 1) (.c 0) (.c 0)) (.c 0)))))
  (.new 1001 (.f 35 (.f 18 (.v 2) (.ite (.b .eq .i64 (.v 4) (.f 37 (.v 2) (.v 3) (.f 11 (.v 0) (.f 11 (.v 1) (.c 0) (.c 0)) (.c 0)))) (.c 0) (.f 37 (.v 2) (.v 3) (.f 11 (.v 0) (.f 11 (.v 1) (.c 0) (.c 0)) (.c 0)))) (.c 0)) (.b .psub .i64 (.v 0) (.f 37 (.v 2) (.v 3) (.f 11 (.v 0) (.f 11 (.v 1) (.c 0) (.c 0)) (.c 0)))) (.c 0))
  (.br (.b .eq .i64 (.w .i64 (.b .padd .i64 (.cl 1000 (-9223372036854775808) 9223372036854775807) (.cl 1001 (-9223372036854775808) 9223372036854775807))) (.f 35 (.v 2) (.v 0) (.c 0)))
  (.leaf [(.c 1)])
  (.leaf [(.c 0)])))
  (.bad 200))
  (.bad 200))
  (.bad 200))
  (.bad 200))
  (.bad 200)))
  (.br (.b .lt .i64 (.f 37 (.v 2) (.v 3) (.f 11 (.v 0) (.f 11 (.v 1) (.c 0) (.c 0)) (.c 0))) (.v 0))
  (.new 1000 (.w .i64 (.f 13 (.f 13 (.v 2) (.f 37 (.v 2) (.v 3) (.f 11 (.v 0) (.f 11 (.v 1) (.c 0) (.c 0)) (.c 0))) (.c 0)) (.c 0) (.c 0)))
  (.new 1001 (.w .i64 (.f 13 (.f 13 (.v 2) (.f 37 (.v 2) (.v 3) (.f 11 (.v 0) (.f 11 (.v 1) (.c 0) (.c 0)) (.c 0))) (.c 0)) (.c 1) (.c 0)))
  (.new 1002 (.w .i64 (.f 13 (.f 13 (.v 2) (.f 37 (.v 2) (.v 3) (.f 11 (.v 0) (.f 11 (.v 1) (.c 0) (.c 0)) (.c 0))) (.c 0)) (.c 2) (.c 0)))
  (.br (.b .lt .i64 (.f 37 (.v 2) (.v 3) (.f 11 (.v 0) (.f 11 (.v 1) (.c 0) (.c 0)) (.c 0))) (.v 1))
  (.new 1003 (.w .i64 (.f 13 (.f 13 (.v 3) (.f 37 (.v 2) (.v 3) (.f 11 (.v 0) (.f 11 (.v 1) (.c 0) (.c 0)) (.c 0))) (.c 0)) (.c 0) (.c 0)))
  (.new 1004 (.w .i64 (.f 13 (.f 13 (.v 3) (.f 37 (.v 2) (.v 3) (.f 11 (.v 0) (.f 11 (.v 1) (.c 0) (.c 0)) (.c 0))) (.c 0)) (.c 1) (.c 0)))
  (.new 1005 (.w .i64 (.f 13 (.f 13 (.v 3) (.f 37 (.v 2) (.v 3) (.f 11 (.v 0) (.f 11 (.v 1) (.c 0) (.c 0)) (.c 0))) (.c 0)) (.c 2) (.c 0)))
  (.br (.nt (.ite (.b .eq .i64 (.cl 1000 (-9223372036854775808) 9223372036854775807) (.cl 1003 (-9223372036854775808) 9223372036854775807)) (.ite (.b .eq .i64 (.cl 1001 (-9223372036854775808) 9223372036854775807) (.cl 1004 (-9223372036854775808) 9223372036854775807)) (.b .eq .i64 (.cl 1002 (-9223372036854775808) 9223372036854775807) (.cl 1005 (-9223372036854775808) 9223372036854775807)) (.c 0)) (.c 0)))
  (.new 1006 (.f 35 (.v 2) (.f 37 (.v 2) (.v 3) (.f 11 (.v 0) (.f 11 (.v 1) (.c 0) (.c 0)) (.c 0))) (.c 0))
  (.br (.b .le .i64 (.c 0) (.b .psub .i64 (.v 0) (.f 37 (.v 2) (.v 3) (.f 11 (.v 0) (.f 11 (.v 1) (.c 0) (.c 0)) (.c 0)))))
  (.br (.b .le .i64 (.b .psub .i64 (.v 0) (.f 37 (.v 2) (.v 3) (.f 11 (.v 0) (.f 11 (.v 1) (.c 0) (.c 0)) (.c 0)))) (.c 1000000))
  (.br (.b .le .i64 (.c 0) (.ite (.b .eq .i64 (.v 4) (.f 37 (.v 2) (.v 3) (.f 11 (.v 0) (.f 11 (.v 1) (.c 0) (.c 0)) (.c 0)))) (.c 0) (.f 37 (.v 2) (.v 3) (.f 11 (.v 0) (.f 11 (.v 1) (.c 0) (.c 0)) (.c 0)))))
  (.br (.b .le .i64 (.b .padd .i64 (.ite (.b .eq .i64 (.v 4) (.f 37 (.v 2) (.v 3) (.f 11 (.v 0) (.f 11 (.v 1) (.c 0) (.c 0)) (.c 0)))) (.c 0) (.f 37 (.v 2) (.v 3) (.f 11 (.v 0) (.f 11 (.v 1) (.c 0) (.c 0)) (.c 0)))) (.b .psub .i64 (.v 0) (.f 37 (.v 2) (.v 3) (.f 11 (.v 0) (.f 11 (.v 1) (.c 0) (.c 0)) (.c 0))))) (.v 0))
  (.br (.b .le .i64 (.b .psub .i64 (.v 0) (.f 37 (.v 2) (.v 3) (.f 11 (.v 0) (.f 11 (.v 1) (.c 0) (.c 0)) (.c 0)))) (.b .psub .i64 (.v 4) (.f 37 (.v 2) (.v 3) (.f 11 (.v 0) (.f 11 (.v 1) (.c 0) (.c 0)) (.c 0)))))
  (.new 1007 (.f 35 (.f 18 (.v 2) (.ite (.b .eq .i64 (.v 4) (.f 37 (.v 2) (.v 3) (.f 11 (.v 0) (.f 11 (.v 1) (.c 0) (.c 0)) (.c 0)))) (.c 0) (.f 37 (.v 2) (.v 3) (.f 11 (.v 0) (.f 11 (.v 1) (.c 0) (.c 0)) (.c 0)))) (.c 0)) (.b .psub .i64 (.v 0) (.f 37 (.v 2) (.v 3) (.f 11 (.v 0) (.f 11 (.v 1) (.c 0) (.c 0)) (.c 0)))) (.c 0))
  (.br (.b .eq .i64 (.w .i64 (.b .padd .i64 (.cl 1006 (-9223372036854775808) 9223372036854775807) (.cl 1007 (-9223372036854775808) 9223372036854775807))) (.f 35 (.v 2) (.v 0) (.c 0)))
  (.leaf [(.c 1)])
  (.leaf [(.c 0)])))
  (.bad 200))
  (.bad 200))
  (.bad 200))
  (.bad 200))
  (.bad 200)))
  (.leaf [(.c 0)])))))
  (.bad 200)))))
  (.bad 200))))
  (.leaf [(.c 0)]))
  (.bad 200))
  (.bad 200))
  (.bad 200))
  (.bad 200))
  (.bad 200))
  (.bad 200)))))))
  (.bad 200))
  (.bad 200))
  (.bad 200))
  (.bad 200))))

def P (n0 n1 c0 c1 r0 r1 : Int) : Prop :=
 (((bool01 (decide (500 < n0))) ≠ 0 →
  ((1 : Int) ≠ 0 ↔ (1 : Int) ≠ 0) ∧ True) ∧ ((bool01 (decide (500 < n0))) = 0 →
  (((bool01 (decide (500 < n1))) ≠ 0 →
   ((1 : Int) ≠ 0 ↔ (1 : Int) ≠ 0) ∧ True) ∧ ((bool01 (decide (500 < n1))) = 0 →
   (((bool01 (decide (n0 ≤ 1000000))) ≠ 0 →
    (((bool01 (decide (n1 ≤ 1000000))) ≠ 0 →
     (((bool01 (decide (n0 ≤ r0))) ≠ 0 →
      (((bool01 (decide (n1 ≤ r1))) ≠ 0 →
       (((bool01 ((firstZ c0 c1 (consZ n0 (consZ n1 0))) != (firstZ c1 c0 (consZ n1 (consZ n0 0))))) ≠ 0 →
        ((0 : Int) ≠ 0 ↔ (1 : Int) ≠ 0) ∧ True) ∧ ((bool01 ((firstZ c0 c1 (consZ n0 (consZ n1 0))) != (firstZ c1 c0 (consZ n1 (consZ n0 0))))) = 0 →
        (((bool01 (decide ((firstZ c0 c1 (consZ n0 (consZ n1 0))) < (-1)))) ≠ 0 →
         ((0 : Int) ≠ 0 ↔ (1 : Int) ≠ 0) ∧ True) ∧ ((bool01 (decide ((firstZ c0 c1 (consZ n0 (consZ n1 0))) < (-1)))) = 0 →
         (((bool01 (decide (n0 < (firstZ c0 c1 (consZ n0 (consZ n1 0)))))) ≠ 0 →
          ((0 : Int) ≠ 0 ↔ (1 : Int) ≠ 0) ∧ True) ∧ ((bool01 (decide (n0 < (firstZ c0 c1 (consZ n0 (consZ n1 0)))))) = 0 →
          (((bool01 (decide (n1 < (firstZ c0 c1 (consZ n0 (consZ n1 0)))))) ≠ 0 →
           ((0 : Int) ≠ 0 ↔ (1 : Int) ≠ 0) ∧ True) ∧ ((bool01 (decide (n1 < (firstZ c0 c1 (consZ n0 (consZ n1 0)))))) = 0 →
           (((bool01 (decide ((firstZ c0 c1 (consZ n0 (consZ n1 0))) < 0))) ≠ 0 →
            (((bool01 (n0 == n1)) ≠ 0 →
             (((bool01 ((costZ c0 n0) == (costZ c1 n1))) ≠ 0 →
              ((1 : Int) ≠ 0 ↔ (1 : Int) ≠ 0) ∧ True) ∧ ((bool01 ((costZ c0 n0) == (costZ c1 n1))) = 0 →
              ((0 : Int) ≠ 0 ↔ (1 : Int) ≠ 0) ∧ True))) ∧ ((bool01 (n0 == n1)) = 0 →
             ((0 : Int) ≠ 0 ↔ (1 : Int) ≠ 0) ∧ True))) ∧ ((bool01 (decide ((firstZ c0 c1 (consZ n0 (consZ n1 0))) < 0))) = 0 →
            (((bool01 (decide (0 ≤ (firstZ c0 c1 (consZ n0 (consZ n1 0)))))) ≠ 0 →
             (((bool01 (decide ((firstZ c0 c1 (consZ n0 (consZ n1 0))) ≤ r0))) ≠ 0 →
              (((bool01 (decide ((firstZ c0 c1 (consZ n0 (consZ n1 0))) ≤ r1))) ≠ 0 →
               (((bool01 (decide ((firstZ c0 c1 (consZ n0 (consZ n1 0))) ≤ 1000000))) ≠ 0 →
                (((bool01 (decide ((firstZ c0 c1 (consZ n0 (consZ n1 0))) ≤ n0))) ≠ 0 →
                 (((bool01 (decide ((firstZ c0 c1 (consZ n0 (consZ n1 0))) ≤ n1))) ≠ 0 →
                  (((bool01 ((firstZ c0 c1 (consZ (firstZ c0 c1 (consZ n0 (consZ n1 0))) (consZ (firstZ c0 c1 (consZ n0 (consZ n1 0))) 0))) == (-1))) ≠ 0 →
                   (((bool01 ((firstZ c0 c1 (consZ n0 (consZ n1 0))) == n0)) ≠ 0 →
                    ∀ y1000 : Int, y1000 = (costZ c0 (firstZ c0 c1 (consZ n0 (consZ n1 0)))) → ((-9223372036854775808) ≤ y1000 ∧ y1000 ≤ 9223372036854775807) →
                    (((bool01 (decide (0 ≤ (n0 - (firstZ c0 c1 (consZ n0 (consZ n1 0))))))) ≠ 0 →
                     (((bool01 (decide ((n0 - (firstZ c0 c1 (consZ n0 (consZ n1 0)))) ≤ 1000000))) ≠ 0 →
                      (((bool01 (decide (0 ≤ (iteZ (bool01 (r0 == (firstZ c0 c1 (consZ n0 (consZ n1 0))))) 0 (firstZ c0 c1 (consZ n0 (consZ n1 0))))))) ≠ 0 →
                       (((bool01 (decide (((iteZ (bool01 (r0 == (firstZ c0 c1 (consZ n0 (consZ n1 0))))) 0 (firstZ c0 c1 (consZ n0 (consZ n1 0)))) + (n0 - (firstZ c0 c1 (consZ n0 (consZ n1 0))))) ≤ n0))) ≠ 0 →
                        (((bool01 (decide ((n0 - (firstZ c0 c1 (consZ n0 (consZ n1 0)))) ≤ (r0 - (firstZ c0 c1 (consZ n0 (consZ n1 0))))))) ≠ 0 →
                         ∀ y1001 : Int, y1001 = (costZ (dropZ c0 (iteZ (bool01 (r0 == (firstZ c0 c1 (consZ n0 (consZ n1 0))))) 0 (firstZ c0 c1 (consZ n0 (consZ n1 0))))) (n0 - (firstZ c0 c1 (consZ n0 (consZ n1 0))))) → ((-9223372036854775808) ≤ y1001 ∧ y1001 ≤ 9223372036854775807) →
                         (((bool01 ((IntKind.wrap .i64 (y1000 + y1001)) == (costZ c0 n0))) ≠ 0 →
                          ((1 : Int) ≠ 0 ↔ (1 : Int) ≠ 0) ∧ True) ∧ ((bool01 ((IntKind.wrap .i64 (y1000 + y1001)) == (costZ c0 n0))) = 0 →
                          ((0 : Int) ≠ 0 ↔ (1 : Int) ≠ 0) ∧ True))) ∧ ((bool01 (decide ((n0 - (firstZ c0 c1 (consZ n0 (consZ n1 0)))) ≤ (r0 - (firstZ c0 c1 (consZ n0 (consZ n1 0))))))) = 0 →
                         False))) ∧ ((bool01 (decide (((iteZ (bool01 (r0 == (firstZ c0 c1 (consZ n0 (consZ n1 0))))) 0 (firstZ c0 c1 (consZ n0 (consZ n1 0)))) + (n0 - (firstZ c0 c1 (consZ n0 (consZ n1 0))))) ≤ n0))) = 0 →
                        False))) ∧ ((bool01 (decide (0 ≤ (iteZ (bool01 (r0 == (firstZ c0 c1 (consZ n0 (consZ n1 0))))) 0 (firstZ c0 c1 (consZ n0 (consZ n1 0))))))) = 0 →
                       False))) ∧ ((bool01 (decide ((n0 - (firstZ c0 c1 (consZ n0 (consZ n1 0)))) ≤ 1000000))) = 0 →
                      False))) ∧ ((bool01 (decide (0 ≤ (n0 - (firstZ c0 c1 (consZ n0 (consZ n1 0))))))) = 0 →
                     False))) ∧ ((bool01 ((firstZ c0 c1 (consZ n0 (consZ n1 0))) == n0)) = 0 →
                    (((bool01 ((firstZ c0 c1 (consZ n0 (consZ n1 0))) == n1)) ≠ 0 →
                     ∀ y1000 : Int, y1000 = (costZ c0 (firstZ c0 c1 (consZ n0 (consZ n1 0)))) → ((-9223372036854775808) ≤ y1000 ∧ y1000 ≤ 9223372036854775807) →
                     (((bool01 (decide (0 ≤ (n0 - (firstZ c0 c1 (consZ n0 (consZ n1 0))))))) ≠ 0 →
                      (((bool01 (decide ((n0 - (firstZ c0 c1 (consZ n0 (consZ n1 0)))) ≤ 1000000))) ≠ 0 →
                       (((bool01 (decide (0 ≤ (iteZ (bool01 (r0 == (firstZ c0 c1 (consZ n0 (consZ n1 0))))) 0 (firstZ c0 c1 (consZ n0 (consZ n1 0))))))) ≠ 0 →
                        (((bool01 (decide (((iteZ (bool01 (r0 == (firstZ c0 c1 (consZ n0 (consZ n1 0))))) 0 (firstZ c0 c1 (consZ n0 (consZ n1 0)))) + (n0 - (firstZ c0 c1 (consZ n0 (consZ n1 0))))) ≤ n0))) ≠ 0 →
                         (((bool01 (decide ((n0 - (firstZ c0 c1 (consZ n0 (consZ n1 0)))) ≤ (r0 - (firstZ c0 c1 (consZ n0 (consZ n1 0))))))) ≠ 0 →
                          ∀ y1001 : Int, y1001 = (costZ (dropZ c0 (iteZ (bool01 (r0 == (firstZ c0 c1 (consZ n0 (consZ n1 0))))) 0 (firstZ c0 c1 (consZ n0 (consZ n1 0))))) (n0 - (firstZ c0 c1 (consZ n0 (consZ n1 0))))) → ((-9223372036854775808) ≤ y1001 ∧ y1001 ≤ 9223372036854775807) →
                          (((bool01 ((IntKind.wrap .i64 (y1000 + y1001)) == (costZ c0 n0))) ≠ 0 →
                           ((1 : Int) ≠ 0 ↔ (1 : Int) ≠ 0) ∧ True) ∧ ((bool01 ((IntKind.wrap .i64 (y1000 + y1001)) == (costZ c0 n0))) = 0 →
                           ((0 : Int) ≠ 0 ↔ (1 : Int) ≠ 0) ∧ True))) ∧ ((bool01 (decide ((n0 - (firstZ c0 c1 (consZ n0 (consZ n1 0)))) ≤ (r0 - (firstZ c0 c1 (consZ n0 (consZ n1 0))))))) = 0 →
                          False))) ∧ ((bool01 (decide (((iteZ (bool01 (r0 == (firstZ c0 c1 (consZ n0 (consZ n1 0))))) 0 (firstZ c0 c1 (consZ n0 (consZ n1 0)))) + (n0 - (firstZ c0 c1 (consZ n0 (consZ n1 0))))) ≤ n0))) = 0 →
                         False))) ∧ ((bool01 (decide (0 ≤ (iteZ (bool01 (r0 == (firstZ c0 c1 (consZ n0 (consZ n1 0))))) 0 (firstZ c0 c1 (consZ n0 (consZ n1 0))))))) = 0 →
                        False))) ∧ ((bool01 (decide ((n0 - (firstZ c0 c1 (consZ n0 (consZ n1 0)))) ≤ 1000000))) = 0 →
                       False))) ∧ ((bool01 (decide (0 ≤ (n0 - (firstZ c0 c1 (consZ n0 (consZ n1 0))))))) = 0 →
                      False))) ∧ ((bool01 ((firstZ c0 c1 (consZ n0 (consZ n1 0))) == n1)) = 0 →
                     (((bool01 (decide ((firstZ c0 c1 (consZ n0 (consZ n1 0))) < n0))) ≠ 0 →
                      ∀ y1000 : Int, y1000 = (IntKind.wrap .i64 (rdZ (rdZ c0 (firstZ c0 c1 (consZ n0 (consZ n1 0)))) 0)) → ((-9223372036854775808) ≤ y1000 ∧ y1000 ≤ 9223372036854775807) →
                      ∀ y1001 : Int, y1001 = (IntKind.wrap .i64 (rdZ (rdZ c0 (firstZ c0 c1 (consZ n0 (consZ n1 0)))) 1)) → ((-9223372036854775808) ≤ y1001 ∧ y1001 ≤ 9223372036854775807) →
                      ∀ y1002 : Int, y1002 = (IntKind.wrap .i64 (rdZ (rdZ c0 (firstZ c0 c1 (consZ n0 (consZ n1 0)))) 2)) → ((-9223372036854775808) ≤ y1002 ∧ y1002 ≤ 9223372036854775807) →
                      (((bool01 (decide ((firstZ c0 c1 (consZ n0 (consZ n1 0))) < n1))) ≠ 0 →
                       ∀ y1003 : Int, y1003 = (IntKind.wrap .i64 (rdZ (rdZ c1 (firstZ c0 c1 (consZ n0 (consZ n1 0)))) 0)) → ((-9223372036854775808) ≤ y1003 ∧ y1003 ≤ 9223372036854775807) →
                       ∀ y1004 : Int, y1004 = (IntKind.wrap .i64 (rdZ (rdZ c1 (firstZ c0 c1 (consZ n0 (consZ n1 0)))) 1)) → ((-9223372036854775808) ≤ y1004 ∧ y1004 ≤ 9223372036854775807) →
                       ∀ y1005 : Int, y1005 = (IntKind.wrap .i64 (rdZ (rdZ c1 (firstZ c0 c1 (consZ n0 (consZ n1 0)))) 2)) → ((-9223372036854775808) ≤ y1005 ∧ y1005 ≤ 9223372036854775807) →
                       (((bool01 ((iteZ (bool01 (y1000 == y1003)) (iteZ (bool01 (y1001 == y1004)) (bool01 (y1002 == y1005)) 0) 0) == 0)) ≠ 0 →
                        ∀ y1006 : Int, y1006 = (costZ c0 (firstZ c0 c1 (consZ n0 (consZ n1 0)))) → ((-9223372036854775808) ≤ y1006 ∧ y1006 ≤ 9223372036854775807) →
                        (((bool01 (decide (0 ≤ (n0 - (firstZ c0 c1 (consZ n0 (consZ n1 0))))))) ≠ 0 →
                         (((bool01 (decide ((n0 - (firstZ c0 c1 (consZ n0 (consZ n1 0)))) ≤ 1000000))) ≠ 0 →
                          (((bool01 (decide (0 ≤ (iteZ (bool01 (r0 == (firstZ c0 c1 (consZ n0 (consZ n1 0))))) 0 (firstZ c0 c1 (consZ n0 (consZ n1 0))))))) ≠ 0 →
                           (((bool01 (decide (((iteZ (bool01 (r0 == (firstZ c0 c1 (consZ n0 (consZ n1 0))))) 0 (firstZ c0 c1 (consZ n0 (consZ n1 0)))) + (n0 - (firstZ c0 c1 (consZ n0 (consZ n1 0))))) ≤ n0))) ≠ 0 →
                            (((bool01 (decide ((n0 - (firstZ c0 c1 (consZ n0 (consZ n1 0)))) ≤ (r0 - (firstZ c0 c1 (consZ n0 (consZ n1 0))))))) ≠ 0 →
                             ∀ y1007 : Int, y1007 = (costZ (dropZ c0 (iteZ (bool01 (r0 == (firstZ c0 c1 (consZ n0 (consZ n1 0))))) 0 (firstZ c0 c1 (consZ n0 (consZ n1 0))))) (n0 - (firstZ c0 c1 (consZ n0 (consZ n1 0))))) → ((-9223372036854775808) ≤ y1007 ∧ y1007 ≤ 9223372036854775807) →
                             (((bool01 ((IntKind.wrap .i64 (y1006 + y1007)) == (costZ c0 n0))) ≠ 0 →
                              ((1 : Int) ≠ 0 ↔ (1 : Int) ≠ 0) ∧ True) ∧ ((bool01 ((IntKind.wrap .i64 (y1006 + y1007)) == (costZ c0 n0))) = 0 →
                              ((0 : Int) ≠ 0 ↔ (1 : Int) ≠ 0) ∧ True))) ∧ ((bool01 (decide ((n0 - (firstZ c0 c1 (consZ n0 (consZ n1 0)))) ≤ (r0 - (firstZ c0 c1 (consZ n0 (consZ n1 0))))))) = 0 →
                             False))) ∧ ((bool01 (decide (((iteZ (bool01 (r0 == (firstZ c0 c1 (consZ n0 (consZ n1 0))))) 0 (firstZ c0 c1 (consZ n0 (consZ n1 0)))) + (n0 - (firstZ c0 c1 (consZ n0 (consZ n1 0))))) ≤ n0))) = 0 →
                            False))) ∧ ((bool01 (decide (0 ≤ (iteZ (bool01 (r0 == (firstZ c0 c1 (consZ n0 (consZ n1 0))))) 0 (firstZ c0 c1 (consZ n0 (consZ n1 0))))))) = 0 →
                           False))) ∧ ((bool01 (decide ((n0 - (firstZ c0 c1 (consZ n0 (consZ n1 0)))) ≤ 1000000))) = 0 →
                          False))) ∧ ((bool01 (decide (0 ≤ (n0 - (firstZ c0 c1 (consZ n0 (consZ n1 0))))))) = 0 →
                         False))) ∧ ((bool01 ((iteZ (bool01 (y1000 == y1003)) (iteZ (bool01 (y1001 == y1004)) (bool01 (y1002 == y1005)) 0) 0) == 0)) = 0 →
                        ((0 : Int) ≠ 0 ↔ (1 : Int) ≠ 0) ∧ True))) ∧ ((bool01 (decide ((firstZ c0 c1 (consZ n0 (consZ n1 0))) < n1))) = 0 →
                       False))) ∧ ((bool01 (decide ((firstZ c0 c1 (consZ n0 (consZ n1 0))) < n0))) = 0 →
                      False))))))) ∧ ((bool01 ((firstZ c0 c1 (consZ (firstZ c0 c1 (consZ n0 (consZ n1 0))) (consZ (firstZ c0 c1 (consZ n0 (consZ n1 0))) 0))) == (-1))) = 0 →
                   ((0 : Int) ≠ 0 ↔ (1 : Int) ≠ 0) ∧ True))) ∧ ((bool01 (decide ((firstZ c0 c1 (consZ n0 (consZ n1 0))) ≤ n1))) = 0 →
                  False))) ∧ ((bool01 (decide ((firstZ c0 c1 (consZ n0 (consZ n1 0))) ≤ n0))) = 0 →
                 False))) ∧ ((bool01 (decide ((firstZ c0 c1 (consZ n0 (consZ n1 0))) ≤ 1000000))) = 0 →
                False))) ∧ ((bool01 (decide ((firstZ c0 c1 (consZ n0 (consZ n1 0))) ≤ r1))) = 0 →
               False))) ∧ ((bool01 (decide ((firstZ c0 c1 (consZ n0 (consZ n1 0))) ≤ r0))) = 0 →
              False))) ∧ ((bool01 (decide (0 ≤ (firstZ c0 c1 (consZ n0 (consZ n1 0)))))) = 0 →
             False))))))))))))) ∧ ((bool01 (decide (n1 ≤ r1))) = 0 →
       False))) ∧ ((bool01 (decide (n0 ≤ r0))) = 0 →
      False))) ∧ ((bool01 (decide (n1 ≤ 1000000))) = 0 →
     False))) ∧ ((bool01 (decide (n0 ≤ 1000000))) = 0 →
    False))))))

theorem holds (n0 n1 c0 c1 r0 r1 : Int) (l_n0 : 0 ≤ n0) (u_n0 : n0 ≤ 140737488355328) (l_n1 : 0 ≤ n1) (u_n1 : n1 ≤ 140737488355328) (h_n0 : n0 ≤ r0) (h_n1 : n1 ≤ r1) : P n0 n1 c0 c1 r0 r1 := by
  unfold P
  simp only [b01_eq, decide_eq_true_eq, decide_eq_false_iff_not, beq_iff_eq, beq_eq_false_iff_ne, bne_iff_ne, bne_eq_false_iff_eq, Int.not_le, Int.not_lt, true_and, and_true, iteZ_ne, ne_eq, Bool.not_eq_false, Bool.not_eq_true, not_true_eq_false, not_false_eq_true, Decidable.not_not, forall_const, false_implies, true_iff, iff_true, false_iff, iff_false, Int.reduceEq, Int.reduceNeg, eq_self, if_true, if_false, reduceIte, ob_le, ob_lt, ob_p, ob_n]
  simp only [mk_fold, mark_ne]
  have hcomm := firstZ_comm l_n0 l_n1 (c := c0) (d := c1)
  have hspec := firstZ_spec l_n0 l_n1 (c := c0) (d := c1) rfl
  rw [← hcomm]
  generalize hF : firstZ c0 c1 (consZ n0 (consZ n1 0)) = F at hspec ⊢
  have hneg : F < 0 → n0 = n1 ∧ costZ c0 n0 = costZ c1 n1 := fun h => by
    rcases hspec with ⟨_, h1, h2⟩ | h1
    · exact ⟨h1, costZ_same h1 h2 l_n0⟩
    · omega
  have hcost : ∀ o : Int, o = F ∨ n0 = F → 0 ≤ F → F ≤ n0 → IntKind.wrap .i64 (costZ c0 F + costZ (dropZ c0 o) (n0 - F)) = costZ c0 n0 := fun o ho h0 h1 => costZ_split h0 h1 o ho
  have hpre : 0 ≤ F → firstZ c0 c1 (consZ F (consZ F 0)) = -1 := fun h => by
    rcases hspec with ⟨h1, _⟩ | ⟨_, h1, h2, _, h3⟩
    · omega
    · refine (firstZ_none rfl fun j hj => ?_).symm
      have := h3 j hj
      unfold diffAt at this ⊢
      omega
  have hat : 0 ≤ F → F < n0 → F < n1 → mk c0 F 0 ≠ mk c1 F 0 ∨ mk c0 F 1 ≠ mk c1 F 1 ∨ mk c0 F 2 ≠ mk c1 F 2 := fun h g1 g2 => by
    rcases hspec with ⟨h1, _⟩ | ⟨_, _, _, h3, _⟩
    · omega
    · unfold diffAt at h3
      rw [nat_i h] at h3
      rcases h3 with h | h | h
      · omega
      · omega
      · exact h
  have hle : 0 ≤ F → F ≤ n0 ∧ F ≤ n1 := fun h => by
    rcases hspec with ⟨h1, _⟩ | ⟨_, h1, h2, _⟩
    · omega
    · exact ⟨h1, h2⟩
  have hge : -1 ≤ F := by
    rcases hspec with ⟨h1, _⟩ | ⟨h1, _⟩ <;> omega
  clear hspec
  have ho : iteZ (bool01 (r0 == F)) 0 F = F ∨ n0 = F ∨ ¬ 0 ≤ F := by
    unfold iteZ
    by_cases h : r0 = F
    · by_cases h0 : 0 ≤ F
      · have := hle h0; exact .inr (.inl (by omega))
      · exact .inr (.inr h0)
    · simp [h, bool01]
  have ho2 : 0 ≤ F → 0 ≤ iteZ (bool01 (r0 == F)) 0 F ∧ iteZ (bool01 (r0 == F)) 0 F ≤ F := fun h => by
    unfold iteZ; split <;> omega
  have ho3 : 0 ≤ F → iteZ (bool01 (r0 == F)) 0 F = F ∨ n0 = F := fun h => by
    rcases ho with g | g | g
    · exact .inl g
    · exact .inr g
    · exact absurd h g
  have e1 : (if r0 = F then (0 : Int) else F) = iteZ (bool01 (r0 == F)) 0 F := by
    unfold iteZ; by_cases h : r0 = F <;> simp [h, bool01]
  simp only [e1]
  clear e1 ho
  generalize iteZ (bool01 (r0 == F)) 0 F = o at ho2 ho3 ⊢
  by_cases h0F : F < 0
  · have := hneg h0F
    clear hneg hcost hpre hat hle ho2 ho3 hcomm
    repeat' (first | omega | exact trivial | (exact absurd trivial (by assumption)) | apply And.intro | intro _)
  · have g0 : 0 ≤ F := by omega
    have g1 := hle g0
    have g2 := ho2 g0
    have g3 := hcost o (ho3 g0) g0 g1.1
    have g4 := hpre g0
    have g5 := hat g0
    clear hneg hcost hpre hat hle ho2 ho3 hcomm
    repeat' (first | omega | exact trivial | (refine (congrArg (IntKind.wrap .i64) (?_ : _ = costZ c0 F + costZ (dropZ c0 o) (n0 - F))).trans g3; congr 1 <;> assumption) | (exact absurd trivial (by assumption)) | apply And.intro | intro _)

theorem plain (i : Nat → Int) (v : Nat → Value) (ro : Nat → RO) (p : Program) : TT.hdP (rc.cx (cxOf 2)) (rlF ⟨i, fN, v, ro, p⟩ rc.res) tree ⟨i, fN, v, ro, p⟩ = P (i 0) (i 1) (i 2) (i 3) (i 4) (i 5) := by kernel_rfl
theorem ran : TT.beq (projL (rc.pj (cxOf 2)) (runT us (fun _ _ => .auto) rc 2 rc.f rc.args ⟨[], []⟩)) tree = true := by kernel_rfl
theorem fineT : (TT.fine (rc.cx (cxOf 2)) 1000 [] tree && (rc.cx (cxOf 2)).okB 1000 && SV.vbL 1000 rc.args && TT.tidy (rc.cx (cxOf 2)) [] tree) = true := by kernel_rfl
theorem ok : RcOk (cxOf 2) rc :=
  rc_run (runT_ok us_ok (fun _ _ => .auto) rc 2) ran fineT okb fun ρ hρ hcap hpre => by
    obtain ⟨i, f, v, ro, p⟩ := ρ
    have hf : f = fN := hρ.hF
    subst hf
    rw [plain]
    exact holds (i 0) (i 1) (i 2) (i 3) (i 4) (i 5) (hρ.hi 0 _ rfl).1 (hρ.hi 0 _ rfl).2 (hρ.hi 1 _ rfl).1 (hρ.hi 1 _ rfl).2 (hcap _ (List.mem_of_getElem? (i := 0) rfl)) (hcap _ (List.mem_of_getElem? (i := 1) rfl))

theorem walk (w : World) (a0 : RO) (k0 : a0.cks = [.int .i64, .int .i64, .int .i64]) (n0 : a0.a = none → a0.n = 0) (m0 : a0.n ≤ a0.cap) (t0 : RoAt w a0) (b0 : (a0.n : Int) ≤ 140737488355328) (a1 : RO) (k1 : a1.cks = [.int .i64, .int .i64, .int .i64]) (n1 : a1.a = none → a1.n = 0) (m1 : a1.n ≤ a1.cap) (t1 : RoAt w a1) (b1 : (a1.n : Int) ≤ 140737488355328) :
    Calls Try.prog 6 #[.slice a0.a a0.n a0.cap, .slice a1.a a1.n a1.cap] w fun e w' => e = .returned (.bool true) ∧ Below w.heap.size w w' := by
  refine law_of (cx := cxOf 2) ok ⟨rfl, rfl, rfl⟩ (ρ := envR Try.prog [(a0.n : Int), (a1.n : Int), a0.c, a1.c, (a0.cap : Int), (a1.cap : Int)] [a0, a1]) (envR_ok (cx := rc.cx (cxOf 2)) rfl rfl (bnd_cons ⟨Int.natCast_nonneg _, b0⟩ (bnd_cons ⟨Int.natCast_nonneg _, b1⟩ (bnd_nil _))) ⟨⟨k0, rfl, (Int.toNat_natCast _).symm, (Int.toNat_natCast _).symm, n0, fun g h => by cases h⟩, ⟨⟨k1, rfl, (Int.toNat_natCast _).symm, (Int.toNat_natCast _).symm, n1, fun g h => by cases h⟩, trivial⟩⟩) (fun d hd => by
    simp only [show lfIns rc.b rc.c rc.ls 0 0 0 = [⟨[.int .i64, .int .i64, .int .i64], .v 2, .v 0, .v 4, none⟩, ⟨[.int .i64, .int .i64, .int .i64], .v 3, .v 1, .v 5, none⟩] from rfl, List.mem_cons, List.not_mem_nil, or_false] at hd
    rcases hd with rfl | rfl
    · exact Int.ofNat_le.2 m0
    · exact Int.ofNat_le.2 m1) (roOk_of ⟨t0, ⟨t1, trivial⟩⟩) ?_
  rw [show rc.args = [.sl (.inp 0) 3 (.c 0) (.v 0) (some (.v 4)), .sl (.inp 1) 3 (.c 0) (.v 1) (some (.v 5))] from rfl]
  simp only [SV.denL, SV.den, E.ev, map_addr_zero]
  rfl
theorem lifted (os : Os) (started : os.Started) (H : Type) (enc : TypeId × Value → H) :
    ReturnsInHanded {} Try.checked os 6 .any (Rows.traceAlikeSpec.pre6 enc Try.prog Try.f6 Rows.traceAlikeRow.domain false) (Rows.traceAlikeSpec.post enc Try.prog Try.f6 false true false false) := by
  refine returnsInHanded_of_change_sized (C := Try.checked) own started (by kernel_rfl) Try.func6
    (ChangeSpec.witness6 (enc := enc) (C := Try.checked) false ⟨#[], #[.slice none 0 0, .slice none 0 0], []⟩ 8 (by kernel_rfl) (by kernel_rfl) (by kernel_rfl) (by kernel_rfl)) ?_
  intro W base args ds gs before hval0 hW hcnd hw0 _
  have hval : ∀ (j : Nat) t v, Try.f6.params[j]? = some t → args[j]? = some v → Value.okWide Try.prog W .any base t v := hval0
  have hW' := hW
  obtain ⟨p, q, hA0, hV, rfl, hfz, hnd⟩ := hW
  have hA : DataW.TrodAll enc Try.prog W 0 (fun _ => true) true Try.f6.params.toList args.toList ds p := hA0
  have hw := hw0
  rw [Try.params6] at hA hval hw
  obtain ⟨v0, vs0, d0, ds0, p0, q0, hargs, rfl, rfl, h0, r0⟩ := trodAll_cons hA
  have h0k := h0
  obtain ⟨v1, vs1, d1, ds1, p1, q1, rfl, rfl, rfl, h1, r1⟩ := trodAll_cons r0
  have h1k := h1
  obtain ⟨rfl, rfl, rfl⟩ := trodAll_nil r1
  obtain rfl : args = #[v0, v1] := by cases args; simp_all
  obtain ⟨rfl, rfl⟩ := trodVars_none hV
  obtain ⟨a0, k0, rfl, n0, m0, t0, b0, _⟩ := Go.Eng.open_row (ks := [.int .i64, .int .i64, .int .i64]) Try.underlying33 (ElT.struct Try.underlying40 (by kernel_rfl) (by kernel_rfl) (by first | exact ⟨by simp only [CkT]; kernel_rfl, by simp only [CkT]; kernel_rfl, by simp only [CkT]; kernel_rfl, trivial⟩) (by decide)) (by decide) (of_decide_eq_true (by kernel_rfl)) (by kernel_rfl) (hval 0 33 v0 rfl rfl) h0 (weights_of (gs := []) hw (j := 0) (t := 33) rfl rfl)
  obtain ⟨a1, k1, rfl, n1, m1, t1, b1, _⟩ := Go.Eng.open_row (ks := [.int .i64, .int .i64, .int .i64]) Try.underlying33 (ElT.struct Try.underlying40 (by kernel_rfl) (by kernel_rfl) (by first | exact ⟨by simp only [CkT]; kernel_rfl, by simp only [CkT]; kernel_rfl, by simp only [CkT]; kernel_rfl, trivial⟩) (by decide)) (by decide) (of_decide_eq_true (by kernel_rfl)) (by kernel_rfl) (hval 1 33 v1 rfl rfl) h1 (weights_of (gs := []) hw (j := 1) (t := 33) rfl rfl)
  clear hA0 hval0
  refine (walk W a0 k0 n0 m0 t0 b0 a1 k1 n1 m1 t1 b1).mono fun e W' ⟨he, hg⟩ => ?_
  subst he
  have hin0 : ∀ x ∈ p0, x ∈ p0 ++ (p1 ++ []) ++ [] := fun x hx => by simp [hx]
  have hlt0 : ∀ x ∈ p0, x.block < W.heap.size := fun x hx => by simpa using hW'.lt x (by simp [hx])
  have hin1 : ∀ x ∈ p1, x ∈ p0 ++ (p1 ++ []) ++ [] := fun x hx => by simp [hx]
  have hlt1 : ∀ x ∈ p1, x.block < W.heap.size := fun x hx => by simpa using hW'.lt x (by simp [hx])
  exact ⟨_, rfl, post_below (pa := _) (pv := []) hW' hg (fun _ _ _ => (trodAll_cons_mk (shut_bool Try.underlying4 _) trodAll_mk0)) (fun sp hsp => (trodAll_cons_mk (WideElems.Trod_stays laidOut (by kernel_rfl) (of_decide_eq_true (by kernel_rfl)) h0k (fun x hx => hg.same (hlt0 x hx)) (fun x hx => hsp x (hin0 x hx))) (trodAll_cons_mk (WideElems.Trod_stays laidOut (by kernel_rfl) (of_decide_eq_true (by kernel_rfl)) h1k (fun x hx => hg.same (hlt1 x hx)) (fun x hx => hsp x (hin1 x hx))) trodAll_mk0))) (fun _ _ => rfl) (by simp)
    (ok_one (by kernel_rfl) rfl (okWide_bool_mk Try.underlying4 _))⟩

theorem over : Rows.traceAlikeRow.holds Try.pinned (OpenSpec.ofChange Rows.traceAlikeSpec) :=
  OpenClaim.holds_of_wide 6 Try.f6 rfl rfl rfl rfl rfl rfl rfl ⟨rfl, rfl, rfl, rfl, rfl⟩ rfl rfl rfl rfl rfl (by kernel_rfl) Try.func6 (by kernel_rfl)
    (of_decide_eq_true (by kernel_rfl)) (by unfold Func.isWrapper; first | (rw [if_pos (by decide +kernel)]; kernel_rfl) | (rw [if_neg (by decide +kernel)]; exact ⟨rfl, rfl⟩))
    (fun os started H enc _ => lifted os started H enc)

/-- the statement -/
theorem proved : Rows.TraceAlikeSaid :=
  over
#print axioms proved
end Go.Proofs.Ytlepjbacaffddaa.traceAlike
