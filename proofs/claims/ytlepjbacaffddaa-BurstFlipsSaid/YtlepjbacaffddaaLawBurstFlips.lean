/-
  The law BurstFlips answers true at every input: the law is run by the engine (a symbolic run, proved sound), the tree of its answers, as a plain statement, is shown to hold. No condition.
-/
import Derived.Test.YtlepjbacaffddaaGab
import Derived.Test.YtlepjbacaffddaaCPlaces
import Derived.Test.YtlepjbacaffddaaCRPlaces
import Derived.Test.YtlepjbacaffddaaCSpan
import Derived.Test.YtlepjbacaffddaaCRSpan
import Derived.Test.YtlepjbacaffddaaCFlip
import Derived.Test.YtlepjbacaffddaaCRFlip
import Derived.Test.YtlepjbacaffddaaCRSame12
import Derived.Test.YtlepjbacaffddaaCAwake12
import Derived.Test.YtlepjbacaffddaaGmG
import Derived.WalkKit
import Derived.ProofKit
import Derived.OpenShut
import Derived.LaidMore
import Derived.Stop.Joined
import Derived.SevenTiedAt
import Derived.SizedLaws
namespace Go.Proofs.Ytlepjbacaffddaa.burstFlips
open Go.ChangeShapes Go.WideShapes Go.ChangeAt Go.Eng Go.RowKit
set_option linter.unusedVariables false
set_option linter.unusedSimpArgs false
set_option maxRecDepth 100000
def rc : Rc := ⟨4, [none, none, none], [.row [.int .u8] 140737488355328, .int .i64, .int .u16], [], .one, [.bool (.c 1)]⟩
theorem okb : rc.ok = true := by kernel_rfl
noncomputable def us : SMs := fun m n => smR (m.cx (cxOf n)) [CPlaces.rc, CRPlaces.rc, CSpan.rc, CRSpan.rc, CFlip.rc, CRFlip.rc, CRSame12.rc, CAwake12.rc]
theorem us_ok : SMsOk us := fun m n => smR_ok (rcs_cons CPlaces.okb (rc_n CPlaces.ok) (rcs_cons CRPlaces.okb (rc_n CRPlaces.ok) (rcs_cons CSpan.okb (rc_n CSpan.ok) (rcs_cons CRSpan.okb (rc_n CRSpan.ok) (rcs_cons CFlip.okb (rc_n CFlip.ok) (rcs_cons CRFlip.okb (rc_n CRFlip.ok) (rcs_cons CRSame12.okb (rc_n CRSame12.ok) (rcs_cons CAwake12.okb (rc_n CAwake12.ok) (rcs_nil _)))))))))
def tree : TT (List E) :=
(.br (.b .lt .i64 (.c 300) (.v 0))
  (.leaf [(.c 1)])
  (.br (.b .le .i64 (.v 0) (.c 100000))
  (.br (.b .le .i64 (.v 0) (.v 4))
  (.new 1000 (.f 30 (.v 3) (.f 34 (.v 3) (.v 0) (.f 11 (.v 1) (.f 11 (.v 2) (.c 0) (.c 0)) (.c 0))) (.v 0))
  (.loop ⟨1001, [some (0, 4611686018427387904)], [(.c 0)], 1003⟩
  (.br (.b .lt .i64 (.cl 1001 0 4611686018427387904) (.cl 1000 0 1000000))
  (.br (.b .lt .i64 (.w .i64 (.f 13 (.f 31 (.v 3) (.f 34 (.v 3) (.v 0) (.f 11 (.v 1) (.f 11 (.v 2) (.c 0) (.c 0)) (.c 0))) (.v 0)) (.cl 1001 0 4611686018427387904) (.c 0))) (.v 1))
  (.exit 0)
  (.br (.b .lt .i64 (.c 15) (.w .i64 (.b .psub .i64 (.w .i64 (.f 13 (.f 31 (.v 3) (.f 34 (.v 3) (.v 0) (.f 11 (.v 1) (.f 11 (.v 2) (.c 0) (.c 0)) (.c 0))) (.v 0)) (.cl 1001 0 4611686018427387904) (.c 0))) (.v 1))))
  (.exit 1)
  (.br (.b .eq .i64 (.b .and .u16 (.b .shr .u16 (.v 2) (.w .u64 (.b .padd .i64 (.w .i64 (.b .psub .i64 (.c 15) (.w .i64 (.f 13 (.f 31 (.v 3) (.f 34 (.v 3) (.v 0) (.f 11 (.v 1) (.f 11 (.v 2) (.c 0) (.c 0)) (.c 0))) (.v 0)) (.cl 1001 0 4611686018427387904) (.c 0))))) (.v 1)))) (.c 1)) (.c 0))
  (.exit 2)
  (.br (.b .le .i64 (.b .padd .i64 (.cl 1001 0 4611686018427387904) (.c 1)) (.c 4611686018427387904))
  (.back [(.b .padd .i64 (.cl 1001 0 4611686018427387904) (.c 1))])
  (.bad 303)))))
  (.exit 3))
  (.br (.b .eq .i64 (.v 1003) (.c 0))
  (.leaf [(.c 0)])
  (.br (.b .eq .i64 (.v 1003) (.c 1))
  (.leaf [(.c 0)])
  (.br (.b .eq .i64 (.v 1003) (.c 2))
  (.leaf [(.c 0)])
  (.br (.b .le .i64 (.c 0) (.v 1))
  (.br (.b .le .i64 (.v 1) (.b .psub .i64 (.b .pmul .i64 (.c 8) (.v 0)) (.c 16)))
  (.br (.b .ne .i64 (.b .ne .i64 (.v 2) (.c 0)) (.b .ne .i64 (.f 33 (.v 3) (.f 34 (.v 3) (.v 0) (.f 11 (.v 1) (.f 11 (.v 2) (.c 0) (.c 0)) (.c 0))) (.v 0)) (.c 0)))
  (.leaf [(.c 0)])
  (.br (.b .le .i64 (.c 0) (.f 33 (.v 3) (.f 34 (.v 3) (.v 0) (.f 11 (.v 1) (.f 11 (.v 2) (.c 0) (.c 0)) (.c 0))) (.v 0)))
  (.br (.b .le .i64 (.f 33 (.v 3) (.f 34 (.v 3) (.v 0) (.f 11 (.v 1) (.f 11 (.v 2) (.c 0) (.c 0)) (.c 0))) (.v 0)) (.c 16))
  (.br (.b .le .i64 (.cl 1000 0 1000000) (.f 33 (.v 3) (.f 34 (.v 3) (.v 0) (.f 11 (.v 1) (.f 11 (.v 2) (.c 0) (.c 0)) (.c 0))) (.v 0)))
  (.br (.b .le .i64 (.v 0) (.c 1000000))
  (.br (.f 20 (.f 11 (.v 0) (.f 11 (.f 34 (.f 34 (.v 3) (.v 0) (.f 11 (.v 1) (.f 11 (.v 2) (.c 0) (.c 0)) (.c 0))) (.v 0) (.f 11 (.v 1) (.f 11 (.v 2) (.c 0) (.c 0)) (.c 0))) (.c 0) (.c 0)) (.c 0)) (.f 11 (.v 0) (.f 11 (.v 3) (.c 0) (.c 0)) (.c 0)) (.c 0))
  (.leaf [(.c 1)])
  (.leaf [(.c 0)]))
  (.bad 200))
  (.leaf [(.c 0)]))
  (.leaf [(.c 0)]))
  (.leaf [(.c 0)])))
  (.br (.b .le .i64 (.c 0) (.f 33 (.v 3) (.f 34 (.v 3) (.v 0) (.f 11 (.v 1) (.f 11 (.v 2) (.c 0) (.c 0)) (.c 0))) (.v 0)))
  (.br (.b .le .i64 (.f 33 (.v 3) (.f 34 (.v 3) (.v 0) (.f 11 (.v 1) (.f 11 (.v 2) (.c 0) (.c 0)) (.c 0))) (.v 0)) (.c 16))
  (.br (.b .le .i64 (.cl 1000 0 1000000) (.f 33 (.v 3) (.f 34 (.v 3) (.v 0) (.f 11 (.v 1) (.f 11 (.v 2) (.c 0) (.c 0)) (.c 0))) (.v 0)))
  (.br (.b .le .i64 (.v 0) (.c 1000000))
  (.br (.f 20 (.f 11 (.v 0) (.f 11 (.f 34 (.f 34 (.v 3) (.v 0) (.f 11 (.v 1) (.f 11 (.v 2) (.c 0) (.c 0)) (.c 0))) (.v 0) (.f 11 (.v 1) (.f 11 (.v 2) (.c 0) (.c 0)) (.c 0))) (.c 0) (.c 0)) (.c 0)) (.f 11 (.v 0) (.f 11 (.v 3) (.c 0) (.c 0)) (.c 0)) (.c 0))
  (.leaf [(.c 1)])
  (.leaf [(.c 0)]))
  (.bad 200))
  (.leaf [(.c 0)]))
  (.leaf [(.c 0)]))
  (.leaf [(.c 0)])))
  (.br (.b .le .i64 (.c 0) (.f 33 (.v 3) (.f 34 (.v 3) (.v 0) (.f 11 (.v 1) (.f 11 (.v 2) (.c 0) (.c 0)) (.c 0))) (.v 0)))
  (.br (.b .le .i64 (.f 33 (.v 3) (.f 34 (.v 3) (.v 0) (.f 11 (.v 1) (.f 11 (.v 2) (.c 0) (.c 0)) (.c 0))) (.v 0)) (.c 16))
  (.br (.b .le .i64 (.cl 1000 0 1000000) (.f 33 (.v 3) (.f 34 (.v 3) (.v 0) (.f 11 (.v 1) (.f 11 (.v 2) (.c 0) (.c 0)) (.c 0))) (.v 0)))
  (.br (.b .le .i64 (.v 0) (.c 1000000))
  (.br (.f 20 (.f 11 (.v 0) (.f 11 (.f 34 (.f 34 (.v 3) (.v 0) (.f 11 (.v 1) (.f 11 (.v 2) (.c 0) (.c 0)) (.c 0))) (.v 0) (.f 11 (.v 1) (.f 11 (.v 2) (.c 0) (.c 0)) (.c 0))) (.c 0) (.c 0)) (.c 0)) (.f 11 (.v 0) (.f 11 (.v 3) (.c 0) (.c 0)) (.c 0)) (.c 0))
  (.leaf [(.c 1)])
  (.leaf [(.c 0)]))
  (.bad 200))
  (.leaf [(.c 0)]))
  (.leaf [(.c 0)]))
  (.leaf [(.c 0)]))))))))
  (.bad 200))
  (.bad 200)))

def P (n0 p1 p2 c0 r0 : Int) : Prop :=
 (((bool01 (decide (300 < n0))) ≠ 0 →
  ((1 : Int) ≠ 0 ↔ (1 : Int) ≠ 0) ∧ True) ∧ ((bool01 (decide (300 < n0))) = 0 →
  (((bool01 (decide (n0 ≤ 100000))) ≠ 0 →
   (((bool01 (decide (n0 ≤ r0))) ≠ 0 →
    ∀ y1000 : Int, y1000 = (plN c0 (flC c0 n0 (consZ p1 (consZ p2 0))) n0) → (0 ≤ y1000 ∧ y1000 ≤ 1000000) →
    ∃ I1001 : Int → Nat → Prop, (∃ m, I1001 0 m) ∧
    ∀ y1001 : Int, ∀ m1001, ((0 ≤ y1001 ∧ y1001 ≤ 4611686018427387904) ∧ True) → I1001 y1001 m1001 →
     (((bool01 (decide (y1001 < y1000))) ≠ 0 →
      (((bool01 (decide ((IntKind.wrap .i64 (rdZ (plC c0 (flC c0 n0 (consZ p1 (consZ p2 0))) n0) y1001)) < p1))) ≠ 0 →
       (((bool01 (0 == 0)) ≠ 0 →
        ((0 : Int) ≠ 0 ↔ (1 : Int) ≠ 0) ∧ True) ∧ ((bool01 (0 == 0)) = 0 →
        (((bool01 (0 == 1)) ≠ 0 →
         ((0 : Int) ≠ 0 ↔ (1 : Int) ≠ 0) ∧ True) ∧ ((bool01 (0 == 1)) = 0 →
         (((bool01 (0 == 2)) ≠ 0 →
          ((0 : Int) ≠ 0 ↔ (1 : Int) ≠ 0) ∧ True) ∧ ((bool01 (0 == 2)) = 0 →
          (((bool01 (decide (0 ≤ p1))) ≠ 0 →
           (((bool01 (decide (p1 ≤ ((8 * n0) - 16)))) ≠ 0 →
            (((bool01 ((bool01 (p2 != 0)) != (bool01 ((spanZ c0 (flC c0 n0 (consZ p1 (consZ p2 0))) n0) != 0)))) ≠ 0 →
             ((0 : Int) ≠ 0 ↔ (1 : Int) ≠ 0) ∧ True) ∧ ((bool01 ((bool01 (p2 != 0)) != (bool01 ((spanZ c0 (flC c0 n0 (consZ p1 (consZ p2 0))) n0) != 0)))) = 0 →
             (((bool01 (decide (0 ≤ (spanZ c0 (flC c0 n0 (consZ p1 (consZ p2 0))) n0)))) ≠ 0 →
              (((bool01 (decide ((spanZ c0 (flC c0 n0 (consZ p1 (consZ p2 0))) n0) ≤ 16))) ≠ 0 →
               (((bool01 (decide (y1000 ≤ (spanZ c0 (flC c0 n0 (consZ p1 (consZ p2 0))) n0)))) ≠ 0 →
                (((bool01 (decide (n0 ≤ 1000000))) ≠ 0 →
                 (((seqZ (consZ n0 (consZ (flC (flC c0 n0 (consZ p1 (consZ p2 0))) n0 (consZ p1 (consZ p2 0))) 0)) (consZ n0 (consZ c0 0))) ≠ 0 →
                  ((1 : Int) ≠ 0 ↔ (1 : Int) ≠ 0) ∧ True) ∧ ((seqZ (consZ n0 (consZ (flC (flC c0 n0 (consZ p1 (consZ p2 0))) n0 (consZ p1 (consZ p2 0))) 0)) (consZ n0 (consZ c0 0))) = 0 →
                  ((0 : Int) ≠ 0 ↔ (1 : Int) ≠ 0) ∧ True))) ∧ ((bool01 (decide (n0 ≤ 1000000))) = 0 →
                 False))) ∧ ((bool01 (decide (y1000 ≤ (spanZ c0 (flC c0 n0 (consZ p1 (consZ p2 0))) n0)))) = 0 →
                ((0 : Int) ≠ 0 ↔ (1 : Int) ≠ 0) ∧ True))) ∧ ((bool01 (decide ((spanZ c0 (flC c0 n0 (consZ p1 (consZ p2 0))) n0) ≤ 16))) = 0 →
               ((0 : Int) ≠ 0 ↔ (1 : Int) ≠ 0) ∧ True))) ∧ ((bool01 (decide (0 ≤ (spanZ c0 (flC c0 n0 (consZ p1 (consZ p2 0))) n0)))) = 0 →
              ((0 : Int) ≠ 0 ↔ (1 : Int) ≠ 0) ∧ True))))) ∧ ((bool01 (decide (p1 ≤ ((8 * n0) - 16)))) = 0 →
            (((bool01 (decide (0 ≤ (spanZ c0 (flC c0 n0 (consZ p1 (consZ p2 0))) n0)))) ≠ 0 →
             (((bool01 (decide ((spanZ c0 (flC c0 n0 (consZ p1 (consZ p2 0))) n0) ≤ 16))) ≠ 0 →
              (((bool01 (decide (y1000 ≤ (spanZ c0 (flC c0 n0 (consZ p1 (consZ p2 0))) n0)))) ≠ 0 →
               (((bool01 (decide (n0 ≤ 1000000))) ≠ 0 →
                (((seqZ (consZ n0 (consZ (flC (flC c0 n0 (consZ p1 (consZ p2 0))) n0 (consZ p1 (consZ p2 0))) 0)) (consZ n0 (consZ c0 0))) ≠ 0 →
                 ((1 : Int) ≠ 0 ↔ (1 : Int) ≠ 0) ∧ True) ∧ ((seqZ (consZ n0 (consZ (flC (flC c0 n0 (consZ p1 (consZ p2 0))) n0 (consZ p1 (consZ p2 0))) 0)) (consZ n0 (consZ c0 0))) = 0 →
                 ((0 : Int) ≠ 0 ↔ (1 : Int) ≠ 0) ∧ True))) ∧ ((bool01 (decide (n0 ≤ 1000000))) = 0 →
                False))) ∧ ((bool01 (decide (y1000 ≤ (spanZ c0 (flC c0 n0 (consZ p1 (consZ p2 0))) n0)))) = 0 →
               ((0 : Int) ≠ 0 ↔ (1 : Int) ≠ 0) ∧ True))) ∧ ((bool01 (decide ((spanZ c0 (flC c0 n0 (consZ p1 (consZ p2 0))) n0) ≤ 16))) = 0 →
              ((0 : Int) ≠ 0 ↔ (1 : Int) ≠ 0) ∧ True))) ∧ ((bool01 (decide (0 ≤ (spanZ c0 (flC c0 n0 (consZ p1 (consZ p2 0))) n0)))) = 0 →
             ((0 : Int) ≠ 0 ↔ (1 : Int) ≠ 0) ∧ True))))) ∧ ((bool01 (decide (0 ≤ p1))) = 0 →
           (((bool01 (decide (0 ≤ (spanZ c0 (flC c0 n0 (consZ p1 (consZ p2 0))) n0)))) ≠ 0 →
            (((bool01 (decide ((spanZ c0 (flC c0 n0 (consZ p1 (consZ p2 0))) n0) ≤ 16))) ≠ 0 →
             (((bool01 (decide (y1000 ≤ (spanZ c0 (flC c0 n0 (consZ p1 (consZ p2 0))) n0)))) ≠ 0 →
              (((bool01 (decide (n0 ≤ 1000000))) ≠ 0 →
               (((seqZ (consZ n0 (consZ (flC (flC c0 n0 (consZ p1 (consZ p2 0))) n0 (consZ p1 (consZ p2 0))) 0)) (consZ n0 (consZ c0 0))) ≠ 0 →
                ((1 : Int) ≠ 0 ↔ (1 : Int) ≠ 0) ∧ True) ∧ ((seqZ (consZ n0 (consZ (flC (flC c0 n0 (consZ p1 (consZ p2 0))) n0 (consZ p1 (consZ p2 0))) 0)) (consZ n0 (consZ c0 0))) = 0 →
                ((0 : Int) ≠ 0 ↔ (1 : Int) ≠ 0) ∧ True))) ∧ ((bool01 (decide (n0 ≤ 1000000))) = 0 →
               False))) ∧ ((bool01 (decide (y1000 ≤ (spanZ c0 (flC c0 n0 (consZ p1 (consZ p2 0))) n0)))) = 0 →
              ((0 : Int) ≠ 0 ↔ (1 : Int) ≠ 0) ∧ True))) ∧ ((bool01 (decide ((spanZ c0 (flC c0 n0 (consZ p1 (consZ p2 0))) n0) ≤ 16))) = 0 →
             ((0 : Int) ≠ 0 ↔ (1 : Int) ≠ 0) ∧ True))) ∧ ((bool01 (decide (0 ≤ (spanZ c0 (flC c0 n0 (consZ p1 (consZ p2 0))) n0)))) = 0 →
            ((0 : Int) ≠ 0 ↔ (1 : Int) ≠ 0) ∧ True))))))))))) ∧ ((bool01 (decide ((IntKind.wrap .i64 (rdZ (plC c0 (flC c0 n0 (consZ p1 (consZ p2 0))) n0) y1001)) < p1))) = 0 →
       (((bool01 (decide (15 < (IntKind.wrap .i64 ((IntKind.wrap .i64 (rdZ (plC c0 (flC c0 n0 (consZ p1 (consZ p2 0))) n0) y1001)) - p1))))) ≠ 0 →
        (((bool01 (1 == 0)) ≠ 0 →
         ((0 : Int) ≠ 0 ↔ (1 : Int) ≠ 0) ∧ True) ∧ ((bool01 (1 == 0)) = 0 →
         (((bool01 (1 == 1)) ≠ 0 →
          ((0 : Int) ≠ 0 ↔ (1 : Int) ≠ 0) ∧ True) ∧ ((bool01 (1 == 1)) = 0 →
          (((bool01 (1 == 2)) ≠ 0 →
           ((0 : Int) ≠ 0 ↔ (1 : Int) ≠ 0) ∧ True) ∧ ((bool01 (1 == 2)) = 0 →
           (((bool01 (decide (0 ≤ p1))) ≠ 0 →
            (((bool01 (decide (p1 ≤ ((8 * n0) - 16)))) ≠ 0 →
             (((bool01 ((bool01 (p2 != 0)) != (bool01 ((spanZ c0 (flC c0 n0 (consZ p1 (consZ p2 0))) n0) != 0)))) ≠ 0 →
              ((0 : Int) ≠ 0 ↔ (1 : Int) ≠ 0) ∧ True) ∧ ((bool01 ((bool01 (p2 != 0)) != (bool01 ((spanZ c0 (flC c0 n0 (consZ p1 (consZ p2 0))) n0) != 0)))) = 0 →
              (((bool01 (decide (0 ≤ (spanZ c0 (flC c0 n0 (consZ p1 (consZ p2 0))) n0)))) ≠ 0 →
               (((bool01 (decide ((spanZ c0 (flC c0 n0 (consZ p1 (consZ p2 0))) n0) ≤ 16))) ≠ 0 →
                (((bool01 (decide (y1000 ≤ (spanZ c0 (flC c0 n0 (consZ p1 (consZ p2 0))) n0)))) ≠ 0 →
                 (((bool01 (decide (n0 ≤ 1000000))) ≠ 0 →
                  (((seqZ (consZ n0 (consZ (flC (flC c0 n0 (consZ p1 (consZ p2 0))) n0 (consZ p1 (consZ p2 0))) 0)) (consZ n0 (consZ c0 0))) ≠ 0 →
                   ((1 : Int) ≠ 0 ↔ (1 : Int) ≠ 0) ∧ True) ∧ ((seqZ (consZ n0 (consZ (flC (flC c0 n0 (consZ p1 (consZ p2 0))) n0 (consZ p1 (consZ p2 0))) 0)) (consZ n0 (consZ c0 0))) = 0 →
                   ((0 : Int) ≠ 0 ↔ (1 : Int) ≠ 0) ∧ True))) ∧ ((bool01 (decide (n0 ≤ 1000000))) = 0 →
                  False))) ∧ ((bool01 (decide (y1000 ≤ (spanZ c0 (flC c0 n0 (consZ p1 (consZ p2 0))) n0)))) = 0 →
                 ((0 : Int) ≠ 0 ↔ (1 : Int) ≠ 0) ∧ True))) ∧ ((bool01 (decide ((spanZ c0 (flC c0 n0 (consZ p1 (consZ p2 0))) n0) ≤ 16))) = 0 →
                ((0 : Int) ≠ 0 ↔ (1 : Int) ≠ 0) ∧ True))) ∧ ((bool01 (decide (0 ≤ (spanZ c0 (flC c0 n0 (consZ p1 (consZ p2 0))) n0)))) = 0 →
               ((0 : Int) ≠ 0 ↔ (1 : Int) ≠ 0) ∧ True))))) ∧ ((bool01 (decide (p1 ≤ ((8 * n0) - 16)))) = 0 →
             (((bool01 (decide (0 ≤ (spanZ c0 (flC c0 n0 (consZ p1 (consZ p2 0))) n0)))) ≠ 0 →
              (((bool01 (decide ((spanZ c0 (flC c0 n0 (consZ p1 (consZ p2 0))) n0) ≤ 16))) ≠ 0 →
               (((bool01 (decide (y1000 ≤ (spanZ c0 (flC c0 n0 (consZ p1 (consZ p2 0))) n0)))) ≠ 0 →
                (((bool01 (decide (n0 ≤ 1000000))) ≠ 0 →
                 (((seqZ (consZ n0 (consZ (flC (flC c0 n0 (consZ p1 (consZ p2 0))) n0 (consZ p1 (consZ p2 0))) 0)) (consZ n0 (consZ c0 0))) ≠ 0 →
                  ((1 : Int) ≠ 0 ↔ (1 : Int) ≠ 0) ∧ True) ∧ ((seqZ (consZ n0 (consZ (flC (flC c0 n0 (consZ p1 (consZ p2 0))) n0 (consZ p1 (consZ p2 0))) 0)) (consZ n0 (consZ c0 0))) = 0 →
                  ((0 : Int) ≠ 0 ↔ (1 : Int) ≠ 0) ∧ True))) ∧ ((bool01 (decide (n0 ≤ 1000000))) = 0 →
                 False))) ∧ ((bool01 (decide (y1000 ≤ (spanZ c0 (flC c0 n0 (consZ p1 (consZ p2 0))) n0)))) = 0 →
                ((0 : Int) ≠ 0 ↔ (1 : Int) ≠ 0) ∧ True))) ∧ ((bool01 (decide ((spanZ c0 (flC c0 n0 (consZ p1 (consZ p2 0))) n0) ≤ 16))) = 0 →
               ((0 : Int) ≠ 0 ↔ (1 : Int) ≠ 0) ∧ True))) ∧ ((bool01 (decide (0 ≤ (spanZ c0 (flC c0 n0 (consZ p1 (consZ p2 0))) n0)))) = 0 →
              ((0 : Int) ≠ 0 ↔ (1 : Int) ≠ 0) ∧ True))))) ∧ ((bool01 (decide (0 ≤ p1))) = 0 →
            (((bool01 (decide (0 ≤ (spanZ c0 (flC c0 n0 (consZ p1 (consZ p2 0))) n0)))) ≠ 0 →
             (((bool01 (decide ((spanZ c0 (flC c0 n0 (consZ p1 (consZ p2 0))) n0) ≤ 16))) ≠ 0 →
              (((bool01 (decide (y1000 ≤ (spanZ c0 (flC c0 n0 (consZ p1 (consZ p2 0))) n0)))) ≠ 0 →
               (((bool01 (decide (n0 ≤ 1000000))) ≠ 0 →
                (((seqZ (consZ n0 (consZ (flC (flC c0 n0 (consZ p1 (consZ p2 0))) n0 (consZ p1 (consZ p2 0))) 0)) (consZ n0 (consZ c0 0))) ≠ 0 →
                 ((1 : Int) ≠ 0 ↔ (1 : Int) ≠ 0) ∧ True) ∧ ((seqZ (consZ n0 (consZ (flC (flC c0 n0 (consZ p1 (consZ p2 0))) n0 (consZ p1 (consZ p2 0))) 0)) (consZ n0 (consZ c0 0))) = 0 →
                 ((0 : Int) ≠ 0 ↔ (1 : Int) ≠ 0) ∧ True))) ∧ ((bool01 (decide (n0 ≤ 1000000))) = 0 →
                False))) ∧ ((bool01 (decide (y1000 ≤ (spanZ c0 (flC c0 n0 (consZ p1 (consZ p2 0))) n0)))) = 0 →
               ((0 : Int) ≠ 0 ↔ (1 : Int) ≠ 0) ∧ True))) ∧ ((bool01 (decide ((spanZ c0 (flC c0 n0 (consZ p1 (consZ p2 0))) n0) ≤ 16))) = 0 →
              ((0 : Int) ≠ 0 ↔ (1 : Int) ≠ 0) ∧ True))) ∧ ((bool01 (decide (0 ≤ (spanZ c0 (flC c0 n0 (consZ p1 (consZ p2 0))) n0)))) = 0 →
             ((0 : Int) ≠ 0 ↔ (1 : Int) ≠ 0) ∧ True))))))))))) ∧ ((bool01 (decide (15 < (IntKind.wrap .i64 ((IntKind.wrap .i64 (rdZ (plC c0 (flC c0 n0 (consZ p1 (consZ p2 0))) n0) y1001)) - p1))))) = 0 →
        (((bool01 ((band .u16 (shrZ .u16 p2 (IntKind.wrap .u64 ((IntKind.wrap .i64 (15 - (IntKind.wrap .i64 (rdZ (plC c0 (flC c0 n0 (consZ p1 (consZ p2 0))) n0) y1001)))) + p1))) 1) == 0)) ≠ 0 →
         (((bool01 (2 == 0)) ≠ 0 →
          ((0 : Int) ≠ 0 ↔ (1 : Int) ≠ 0) ∧ True) ∧ ((bool01 (2 == 0)) = 0 →
          (((bool01 (2 == 1)) ≠ 0 →
           ((0 : Int) ≠ 0 ↔ (1 : Int) ≠ 0) ∧ True) ∧ ((bool01 (2 == 1)) = 0 →
           (((bool01 (2 == 2)) ≠ 0 →
            ((0 : Int) ≠ 0 ↔ (1 : Int) ≠ 0) ∧ True) ∧ ((bool01 (2 == 2)) = 0 →
            (((bool01 (decide (0 ≤ p1))) ≠ 0 →
             (((bool01 (decide (p1 ≤ ((8 * n0) - 16)))) ≠ 0 →
              (((bool01 ((bool01 (p2 != 0)) != (bool01 ((spanZ c0 (flC c0 n0 (consZ p1 (consZ p2 0))) n0) != 0)))) ≠ 0 →
               ((0 : Int) ≠ 0 ↔ (1 : Int) ≠ 0) ∧ True) ∧ ((bool01 ((bool01 (p2 != 0)) != (bool01 ((spanZ c0 (flC c0 n0 (consZ p1 (consZ p2 0))) n0) != 0)))) = 0 →
               (((bool01 (decide (0 ≤ (spanZ c0 (flC c0 n0 (consZ p1 (consZ p2 0))) n0)))) ≠ 0 →
                (((bool01 (decide ((spanZ c0 (flC c0 n0 (consZ p1 (consZ p2 0))) n0) ≤ 16))) ≠ 0 →
                 (((bool01 (decide (y1000 ≤ (spanZ c0 (flC c0 n0 (consZ p1 (consZ p2 0))) n0)))) ≠ 0 →
                  (((bool01 (decide (n0 ≤ 1000000))) ≠ 0 →
                   (((seqZ (consZ n0 (consZ (flC (flC c0 n0 (consZ p1 (consZ p2 0))) n0 (consZ p1 (consZ p2 0))) 0)) (consZ n0 (consZ c0 0))) ≠ 0 →
                    ((1 : Int) ≠ 0 ↔ (1 : Int) ≠ 0) ∧ True) ∧ ((seqZ (consZ n0 (consZ (flC (flC c0 n0 (consZ p1 (consZ p2 0))) n0 (consZ p1 (consZ p2 0))) 0)) (consZ n0 (consZ c0 0))) = 0 →
                    ((0 : Int) ≠ 0 ↔ (1 : Int) ≠ 0) ∧ True))) ∧ ((bool01 (decide (n0 ≤ 1000000))) = 0 →
                   False))) ∧ ((bool01 (decide (y1000 ≤ (spanZ c0 (flC c0 n0 (consZ p1 (consZ p2 0))) n0)))) = 0 →
                  ((0 : Int) ≠ 0 ↔ (1 : Int) ≠ 0) ∧ True))) ∧ ((bool01 (decide ((spanZ c0 (flC c0 n0 (consZ p1 (consZ p2 0))) n0) ≤ 16))) = 0 →
                 ((0 : Int) ≠ 0 ↔ (1 : Int) ≠ 0) ∧ True))) ∧ ((bool01 (decide (0 ≤ (spanZ c0 (flC c0 n0 (consZ p1 (consZ p2 0))) n0)))) = 0 →
                ((0 : Int) ≠ 0 ↔ (1 : Int) ≠ 0) ∧ True))))) ∧ ((bool01 (decide (p1 ≤ ((8 * n0) - 16)))) = 0 →
              (((bool01 (decide (0 ≤ (spanZ c0 (flC c0 n0 (consZ p1 (consZ p2 0))) n0)))) ≠ 0 →
               (((bool01 (decide ((spanZ c0 (flC c0 n0 (consZ p1 (consZ p2 0))) n0) ≤ 16))) ≠ 0 →
                (((bool01 (decide (y1000 ≤ (spanZ c0 (flC c0 n0 (consZ p1 (consZ p2 0))) n0)))) ≠ 0 →
                 (((bool01 (decide (n0 ≤ 1000000))) ≠ 0 →
                  (((seqZ (consZ n0 (consZ (flC (flC c0 n0 (consZ p1 (consZ p2 0))) n0 (consZ p1 (consZ p2 0))) 0)) (consZ n0 (consZ c0 0))) ≠ 0 →
                   ((1 : Int) ≠ 0 ↔ (1 : Int) ≠ 0) ∧ True) ∧ ((seqZ (consZ n0 (consZ (flC (flC c0 n0 (consZ p1 (consZ p2 0))) n0 (consZ p1 (consZ p2 0))) 0)) (consZ n0 (consZ c0 0))) = 0 →
                   ((0 : Int) ≠ 0 ↔ (1 : Int) ≠ 0) ∧ True))) ∧ ((bool01 (decide (n0 ≤ 1000000))) = 0 →
                  False))) ∧ ((bool01 (decide (y1000 ≤ (spanZ c0 (flC c0 n0 (consZ p1 (consZ p2 0))) n0)))) = 0 →
                 ((0 : Int) ≠ 0 ↔ (1 : Int) ≠ 0) ∧ True))) ∧ ((bool01 (decide ((spanZ c0 (flC c0 n0 (consZ p1 (consZ p2 0))) n0) ≤ 16))) = 0 →
                ((0 : Int) ≠ 0 ↔ (1 : Int) ≠ 0) ∧ True))) ∧ ((bool01 (decide (0 ≤ (spanZ c0 (flC c0 n0 (consZ p1 (consZ p2 0))) n0)))) = 0 →
               ((0 : Int) ≠ 0 ↔ (1 : Int) ≠ 0) ∧ True))))) ∧ ((bool01 (decide (0 ≤ p1))) = 0 →
             (((bool01 (decide (0 ≤ (spanZ c0 (flC c0 n0 (consZ p1 (consZ p2 0))) n0)))) ≠ 0 →
              (((bool01 (decide ((spanZ c0 (flC c0 n0 (consZ p1 (consZ p2 0))) n0) ≤ 16))) ≠ 0 →
               (((bool01 (decide (y1000 ≤ (spanZ c0 (flC c0 n0 (consZ p1 (consZ p2 0))) n0)))) ≠ 0 →
                (((bool01 (decide (n0 ≤ 1000000))) ≠ 0 →
                 (((seqZ (consZ n0 (consZ (flC (flC c0 n0 (consZ p1 (consZ p2 0))) n0 (consZ p1 (consZ p2 0))) 0)) (consZ n0 (consZ c0 0))) ≠ 0 →
                  ((1 : Int) ≠ 0 ↔ (1 : Int) ≠ 0) ∧ True) ∧ ((seqZ (consZ n0 (consZ (flC (flC c0 n0 (consZ p1 (consZ p2 0))) n0 (consZ p1 (consZ p2 0))) 0)) (consZ n0 (consZ c0 0))) = 0 →
                  ((0 : Int) ≠ 0 ↔ (1 : Int) ≠ 0) ∧ True))) ∧ ((bool01 (decide (n0 ≤ 1000000))) = 0 →
                 False))) ∧ ((bool01 (decide (y1000 ≤ (spanZ c0 (flC c0 n0 (consZ p1 (consZ p2 0))) n0)))) = 0 →
                ((0 : Int) ≠ 0 ↔ (1 : Int) ≠ 0) ∧ True))) ∧ ((bool01 (decide ((spanZ c0 (flC c0 n0 (consZ p1 (consZ p2 0))) n0) ≤ 16))) = 0 →
               ((0 : Int) ≠ 0 ↔ (1 : Int) ≠ 0) ∧ True))) ∧ ((bool01 (decide (0 ≤ (spanZ c0 (flC c0 n0 (consZ p1 (consZ p2 0))) n0)))) = 0 →
              ((0 : Int) ≠ 0 ↔ (1 : Int) ≠ 0) ∧ True))))))))))) ∧ ((bool01 ((band .u16 (shrZ .u16 p2 (IntKind.wrap .u64 ((IntKind.wrap .i64 (15 - (IntKind.wrap .i64 (rdZ (plC c0 (flC c0 n0 (consZ p1 (consZ p2 0))) n0) y1001)))) + p1))) 1) == 0)) = 0 →
         (((bool01 (decide ((y1001 + 1) ≤ 4611686018427387904))) ≠ 0 →
          ∃ m', m' < m1001 ∧ I1001 (y1001 + 1) m') ∧ ((bool01 (decide ((y1001 + 1) ≤ 4611686018427387904))) = 0 →
          False))))))))) ∧ ((bool01 (decide (y1001 < y1000))) = 0 →
      (((bool01 (3 == 0)) ≠ 0 →
       ((0 : Int) ≠ 0 ↔ (1 : Int) ≠ 0) ∧ True) ∧ ((bool01 (3 == 0)) = 0 →
       (((bool01 (3 == 1)) ≠ 0 →
        ((0 : Int) ≠ 0 ↔ (1 : Int) ≠ 0) ∧ True) ∧ ((bool01 (3 == 1)) = 0 →
        (((bool01 (3 == 2)) ≠ 0 →
         ((0 : Int) ≠ 0 ↔ (1 : Int) ≠ 0) ∧ True) ∧ ((bool01 (3 == 2)) = 0 →
         (((bool01 (decide (0 ≤ p1))) ≠ 0 →
          (((bool01 (decide (p1 ≤ ((8 * n0) - 16)))) ≠ 0 →
           (((bool01 ((bool01 (p2 != 0)) != (bool01 ((spanZ c0 (flC c0 n0 (consZ p1 (consZ p2 0))) n0) != 0)))) ≠ 0 →
            ((0 : Int) ≠ 0 ↔ (1 : Int) ≠ 0) ∧ True) ∧ ((bool01 ((bool01 (p2 != 0)) != (bool01 ((spanZ c0 (flC c0 n0 (consZ p1 (consZ p2 0))) n0) != 0)))) = 0 →
            (((bool01 (decide (0 ≤ (spanZ c0 (flC c0 n0 (consZ p1 (consZ p2 0))) n0)))) ≠ 0 →
             (((bool01 (decide ((spanZ c0 (flC c0 n0 (consZ p1 (consZ p2 0))) n0) ≤ 16))) ≠ 0 →
              (((bool01 (decide (y1000 ≤ (spanZ c0 (flC c0 n0 (consZ p1 (consZ p2 0))) n0)))) ≠ 0 →
               (((bool01 (decide (n0 ≤ 1000000))) ≠ 0 →
                (((seqZ (consZ n0 (consZ (flC (flC c0 n0 (consZ p1 (consZ p2 0))) n0 (consZ p1 (consZ p2 0))) 0)) (consZ n0 (consZ c0 0))) ≠ 0 →
                 ((1 : Int) ≠ 0 ↔ (1 : Int) ≠ 0) ∧ True) ∧ ((seqZ (consZ n0 (consZ (flC (flC c0 n0 (consZ p1 (consZ p2 0))) n0 (consZ p1 (consZ p2 0))) 0)) (consZ n0 (consZ c0 0))) = 0 →
                 ((0 : Int) ≠ 0 ↔ (1 : Int) ≠ 0) ∧ True))) ∧ ((bool01 (decide (n0 ≤ 1000000))) = 0 →
                False))) ∧ ((bool01 (decide (y1000 ≤ (spanZ c0 (flC c0 n0 (consZ p1 (consZ p2 0))) n0)))) = 0 →
               ((0 : Int) ≠ 0 ↔ (1 : Int) ≠ 0) ∧ True))) ∧ ((bool01 (decide ((spanZ c0 (flC c0 n0 (consZ p1 (consZ p2 0))) n0) ≤ 16))) = 0 →
              ((0 : Int) ≠ 0 ↔ (1 : Int) ≠ 0) ∧ True))) ∧ ((bool01 (decide (0 ≤ (spanZ c0 (flC c0 n0 (consZ p1 (consZ p2 0))) n0)))) = 0 →
             ((0 : Int) ≠ 0 ↔ (1 : Int) ≠ 0) ∧ True))))) ∧ ((bool01 (decide (p1 ≤ ((8 * n0) - 16)))) = 0 →
           (((bool01 (decide (0 ≤ (spanZ c0 (flC c0 n0 (consZ p1 (consZ p2 0))) n0)))) ≠ 0 →
            (((bool01 (decide ((spanZ c0 (flC c0 n0 (consZ p1 (consZ p2 0))) n0) ≤ 16))) ≠ 0 →
             (((bool01 (decide (y1000 ≤ (spanZ c0 (flC c0 n0 (consZ p1 (consZ p2 0))) n0)))) ≠ 0 →
              (((bool01 (decide (n0 ≤ 1000000))) ≠ 0 →
               (((seqZ (consZ n0 (consZ (flC (flC c0 n0 (consZ p1 (consZ p2 0))) n0 (consZ p1 (consZ p2 0))) 0)) (consZ n0 (consZ c0 0))) ≠ 0 →
                ((1 : Int) ≠ 0 ↔ (1 : Int) ≠ 0) ∧ True) ∧ ((seqZ (consZ n0 (consZ (flC (flC c0 n0 (consZ p1 (consZ p2 0))) n0 (consZ p1 (consZ p2 0))) 0)) (consZ n0 (consZ c0 0))) = 0 →
                ((0 : Int) ≠ 0 ↔ (1 : Int) ≠ 0) ∧ True))) ∧ ((bool01 (decide (n0 ≤ 1000000))) = 0 →
               False))) ∧ ((bool01 (decide (y1000 ≤ (spanZ c0 (flC c0 n0 (consZ p1 (consZ p2 0))) n0)))) = 0 →
              ((0 : Int) ≠ 0 ↔ (1 : Int) ≠ 0) ∧ True))) ∧ ((bool01 (decide ((spanZ c0 (flC c0 n0 (consZ p1 (consZ p2 0))) n0) ≤ 16))) = 0 →
             ((0 : Int) ≠ 0 ↔ (1 : Int) ≠ 0) ∧ True))) ∧ ((bool01 (decide (0 ≤ (spanZ c0 (flC c0 n0 (consZ p1 (consZ p2 0))) n0)))) = 0 →
            ((0 : Int) ≠ 0 ↔ (1 : Int) ≠ 0) ∧ True))))) ∧ ((bool01 (decide (0 ≤ p1))) = 0 →
          (((bool01 (decide (0 ≤ (spanZ c0 (flC c0 n0 (consZ p1 (consZ p2 0))) n0)))) ≠ 0 →
           (((bool01 (decide ((spanZ c0 (flC c0 n0 (consZ p1 (consZ p2 0))) n0) ≤ 16))) ≠ 0 →
            (((bool01 (decide (y1000 ≤ (spanZ c0 (flC c0 n0 (consZ p1 (consZ p2 0))) n0)))) ≠ 0 →
             (((bool01 (decide (n0 ≤ 1000000))) ≠ 0 →
              (((seqZ (consZ n0 (consZ (flC (flC c0 n0 (consZ p1 (consZ p2 0))) n0 (consZ p1 (consZ p2 0))) 0)) (consZ n0 (consZ c0 0))) ≠ 0 →
               ((1 : Int) ≠ 0 ↔ (1 : Int) ≠ 0) ∧ True) ∧ ((seqZ (consZ n0 (consZ (flC (flC c0 n0 (consZ p1 (consZ p2 0))) n0 (consZ p1 (consZ p2 0))) 0)) (consZ n0 (consZ c0 0))) = 0 →
               ((0 : Int) ≠ 0 ↔ (1 : Int) ≠ 0) ∧ True))) ∧ ((bool01 (decide (n0 ≤ 1000000))) = 0 →
              False))) ∧ ((bool01 (decide (y1000 ≤ (spanZ c0 (flC c0 n0 (consZ p1 (consZ p2 0))) n0)))) = 0 →
             ((0 : Int) ≠ 0 ↔ (1 : Int) ≠ 0) ∧ True))) ∧ ((bool01 (decide ((spanZ c0 (flC c0 n0 (consZ p1 (consZ p2 0))) n0) ≤ 16))) = 0 →
            ((0 : Int) ≠ 0 ↔ (1 : Int) ≠ 0) ∧ True))) ∧ ((bool01 (decide (0 ≤ (spanZ c0 (flC c0 n0 (consZ p1 (consZ p2 0))) n0)))) = 0 →
           ((0 : Int) ≠ 0 ↔ (1 : Int) ≠ 0) ∧ True))))))))))))) ∧ ((bool01 (decide (n0 ≤ r0))) = 0 →
    False))) ∧ ((bool01 (decide (n0 ≤ 100000))) = 0 →
   False))))

theorem holds (n0 p1 p2 c0 r0 : Int) (l_n0 : 0 ≤ n0) (u_n0 : n0 ≤ 140737488355328) (l_p1 : -9223372036854775808 ≤ p1) (u_p1 : p1 ≤ 9223372036854775807) (l_p2 : 0 ≤ p2) (u_p2 : p2 ≤ 65535) (h_n0 : n0 ≤ r0) : P n0 p1 p2 c0 r0 := by
  unfold P
  simp only [b01_eq, decide_eq_true_eq, decide_eq_false_iff_not, beq_iff_eq, beq_eq_false_iff_ne, bne_iff_ne, bne_eq_false_iff_eq, Int.not_le, Int.not_lt, true_and, and_true, iteZ_ne, ne_eq, Bool.not_eq_false, Bool.not_eq_true, not_true_eq_false, not_false_eq_true, Decidable.not_not, forall_const, false_implies, true_iff, iff_true, false_iff, iff_false, Int.reduceEq, Int.reduceNeg, eq_self, if_true, if_false, reduceIte, flC_eq]
  refine ⟨fun _ => trivial, fun h1 => ⟨fun _ => ⟨fun _ => ?_, fun _ => by omega⟩, fun _ => by omega⟩⟩
  intro y hy _
  have hsp := fl_span (c := c0) (n := n0) (a := p1) (b := p2) l_n0 (by omega)
  have htw := seqZ_of (fl_twice (c := c0) (n := n0) (a := p1) (b := p2) (by omega))
  have hmem := fun x => fl_mem (c := c0) (n := n0) (a := p1) (b := p2) (x := x) l_n0 (by omega)
  have hno := fl_none (c := c0) (n := n0) (a := p1) (b := p2) l_n0 (by omega) l_p2 u_p2
  have hbd := plN_bd c0 (LZ (flF c0 n0 p1 p2 16)) n0
  simp only [htw]
  have hz : (bool01 (p2 != 0) = bool01 (spanZ c0 (LZ (flF c0 n0 p1 p2 16)) n0 != 0)) = (p2 = 0 ↔ spanZ c0 (LZ (flF c0 n0 p1 p2 16)) n0 = 0) := by
    by_cases e1 : p2 = 0 <;> by_cases e2 : spanZ c0 (LZ (flF c0 n0 p1 p2 16)) n0 = 0 <;> simp [e1, e2, bool01]
  simp only [hz]
  have hget : ∀ i : Int, 0 ≤ i → i < y → ∃ x, IntKind.wrap .i64 (rdZ (plC c0 (LZ (flF c0 n0 p1 p2 16)) n0) i) = x ∧ 0 ≤ x ∧ x < 8 * n0 ∧ turned p1 p2 x := by
    intro i hi0 hi1
    unfold plN at hy
    have hm := (hmem _).1 (getD_mem (l := plF c0 (LZ (flF c0 n0 p1 p2 16)) (cut (8 * n0) 1000000)) (i := i.toNat) (by omega))
    refine ⟨_, ?_, hm⟩
    unfold plC
    rw [(Rw.lz _).rd hi0 (by omega), w64 (by omega) (by omega)]
  clear hmem
  generalize plC c0 (LZ (flF c0 n0 p1 p2 16)) n0 = q at hget
  generalize spanZ c0 (LZ (flF c0 n0 p1 p2 16)) n0 = z at hsp
  generalize plN c0 (LZ (flF c0 n0 p1 p2 16)) n0 = m at hsp hno hbd hy
  refine ⟨fun i m => i ≤ y ∧ m = (y - i).toNat, ⟨_, by omega, rfl⟩, fun i m hb hI => ?_⟩
  obtain ⟨hi, rfl⟩ := hI
  refine ⟨fun h2 => ?_, fun h2 => ?_⟩
  · obtain ⟨x, hx, hx0, hx1, hx2, hx3, hx4⟩ := hget i hb.1 h2
    rw [hx, w64 (x := x - p1) (by omega) (by omega), w64 (x := 15 - x) (by omega) (by omega)]
    refine ⟨fun _ => by omega, fun _ => ⟨fun _ => by omega, fun _ => ?_⟩⟩
    rw [show 15 - x + p1 = 15 - (x - p1) by omega, bit16 l_p2 u_p2 hx2 hx3, hx4]
    refine ⟨fun h => by omega, fun _ => ⟨fun _ => ⟨_, ?_, by omega, rfl⟩, fun _ => by omega⟩⟩
    omega
  · repeat' (first | omega | exact trivial | apply And.intro | intro _)

theorem plain (i : Nat → Int) (v : Nat → Value) (ro : Nat → RO) (p : Program) : TT.hdP (rc.cx (cxOf 2)) (rlF ⟨i, fN, v, ro, p⟩ rc.res) tree ⟨i, fN, v, ro, p⟩ = P (i 0) (i 1) (i 2) (i 3) (i 4) := by kernel_rfl
theorem ran : TT.beq (projL (rc.pj (cxOf 2)) (runT us (fun _ _ => .auto) rc 2 rc.f rc.args ⟨[], []⟩)) tree = true := by kernel_rfl
theorem fineT : (TT.fine (rc.cx (cxOf 2)) 1000 [] tree && (rc.cx (cxOf 2)).okB 1000 && SV.vbL 1000 rc.args && TT.tidy (rc.cx (cxOf 2)) [] tree) = true := by kernel_rfl
theorem ok : RcOk (cxOf 2) rc :=
  rc_run (runT_ok us_ok (fun _ _ => .auto) rc 2) ran fineT okb fun ρ hρ hcap hpre => by
    obtain ⟨i, f, v, ro, p⟩ := ρ
    have hf : f = fN := hρ.hF
    subst hf
    rw [plain]
    exact holds (i 0) (i 1) (i 2) (i 3) (i 4) (hρ.hi 0 _ rfl).1 (hρ.hi 0 _ rfl).2 (hρ.hi 1 _ rfl).1 (hρ.hi 1 _ rfl).2 (hρ.hi 2 _ rfl).1 (hρ.hi 2 _ rfl).2 (hcap _ (List.mem_of_getElem? (i := 0) rfl))

theorem walk (w : World) (a0 : RO) (k0 : a0.cks = [.int .u8]) (n0 : a0.a = none → a0.n = 0) (m0 : a0.n ≤ a0.cap) (t0 : RoAt w a0) (b0 : (a0.n : Int) ≤ 140737488355328) (a1 : Int) (w1 : (Lit.int .i64 a1).wf = true) (a2 : Int) (w2 : (Lit.int .u16 a2).wf = true) :
    Calls Try.prog 4 #[.slice a0.a a0.n a0.cap, .int .i64 a1, .int .u16 a2] w fun e w' => e = .returned (.bool true) ∧ Below w.heap.size w w' := by
  refine law_of (cx := cxOf 2) ok ⟨rfl, rfl, rfl⟩ (ρ := envR Try.prog [(a0.n : Int), a1, a2, a0.c, (a0.cap : Int)] [a0]) (envR_ok (cx := rc.cx (cxOf 2)) rfl rfl (bnd_cons ⟨Int.natCast_nonneg _, b0⟩ (bnd_cons (wf_bd w1) (bnd_cons (wf_bd w2) (bnd_nil _)))) ⟨⟨k0, rfl, (Int.toNat_natCast _).symm, (Int.toNat_natCast _).symm, n0, fun g h => by cases h⟩, trivial⟩) (fun d hd => by
    simp only [show lfIns rc.b rc.c rc.ls 0 0 0 = [⟨[.int .u8], .v 3, .v 0, .v 4, none⟩] from rfl, List.mem_cons, List.not_mem_nil, or_false] at hd
    rcases hd with rfl
    · exact Int.ofNat_le.2 m0) (roOk_of ⟨t0, trivial⟩) ?_
  rw [show rc.args = [.sl (.inp 0) 1 (.c 0) (.v 0) (some (.v 4)), .int .i64 (.v 1), .int .u16 (.v 2)] from rfl]
  simp only [SV.denL, SV.den, E.ev, map_addr_zero]
  rfl
theorem lifted (os : Os) (started : os.Started) (H : Type) (enc : TypeId × Value → H) :
    ReturnsInHanded {} Try.checked os 4 .any (Rows.burstFlipsSpec.pre6 enc Try.prog Try.f4 Rows.burstFlipsRow.domain false) (Rows.burstFlipsSpec.post enc Try.prog Try.f4 false true false false) := by
  refine returnsInHanded_of_change_sized (C := Try.checked) own started (by kernel_rfl) Try.func4
    (ChangeSpec.witness6 (enc := enc) (C := Try.checked) false ⟨#[], #[.slice none 0 0, .int .i64 0, .int .u16 0], []⟩ 8 (by kernel_rfl) (by kernel_rfl) (by kernel_rfl) (by kernel_rfl)) ?_
  intro W base args ds gs before hval0 hW hcnd hw0 _
  have hval : ∀ (j : Nat) t v, Try.f4.params[j]? = some t → args[j]? = some v → Value.okWide Try.prog W .any base t v := hval0
  have hW' := hW
  obtain ⟨p, q, hA0, hV, rfl, hfz, hnd⟩ := hW
  have hA : DataW.TrodAll enc Try.prog W 0 (fun _ => true) true Try.f4.params.toList args.toList ds p := hA0
  have hw := hw0
  rw [Try.params4] at hA hval hw
  obtain ⟨v0, vs0, d0, ds0, p0, q0, hargs, rfl, rfl, h0, r0⟩ := trodAll_cons hA
  have h0k := h0
  obtain ⟨v1, vs1, d1, ds1, p1, q1, rfl, rfl, rfl, h1, r1⟩ := trodAll_cons r0
  have h1k := h1
  obtain ⟨v2, vs2, d2, ds2, p2, q2, rfl, rfl, rfl, h2, r2⟩ := trodAll_cons r1
  have h2k := h2
  obtain ⟨rfl, rfl, rfl⟩ := trodAll_nil r2
  obtain rfl : args = #[v0, v1, v2] := by cases args; simp_all
  obtain ⟨rfl, rfl⟩ := trodVars_none hV
  obtain ⟨a0, k0, rfl, n0, m0, t0, b0, _⟩ := Go.Eng.open_row (ks := [.int .u8]) Try.underlying22 (ElT.one Try.underlying5 (by kernel_rfl)) (by decide) (of_decide_eq_true (by kernel_rfl)) (by kernel_rfl) (hval 0 22 v0 rfl rfl) h0 (weights_of (gs := []) hw (j := 0) (t := 22) rfl rfl)
  obtain ⟨a1, rfl, rfl, rfl, w1⟩ := open_int Try.underlying3 (hval 1 3 v1 rfl rfl) h1
  obtain ⟨a2, rfl, rfl, rfl, w2⟩ := open_int Try.underlying23 (hval 2 23 v2 rfl rfl) h2
  clear hA0 hval0
  refine (walk W a0 k0 n0 m0 t0 b0 a1 w1 a2 w2).mono fun e W' ⟨he, hg⟩ => ?_
  subst he
  have hin0 : ∀ x ∈ p0, x ∈ p0 ++ ([] ++ ([] ++ [])) ++ [] := fun x hx => by simp [hx]
  have hlt0 : ∀ x ∈ p0, x.block < W.heap.size := fun x hx => by simpa using hW'.lt x (by simp [hx])
  exact ⟨_, rfl, post_below (pa := _) (pv := []) hW' hg (fun _ _ _ => (trodAll_cons_mk (shut_bool Try.underlying4 _) trodAll_mk0)) (fun sp hsp => (trodAll_cons_mk (WideElems.Trod_stays laidOut (by kernel_rfl) (of_decide_eq_true (by kernel_rfl)) h0k (fun x hx => hg.same (hlt0 x hx)) (fun x hx => hsp x (hin0 x hx))) (trodAll_cons_mk (shut_int Try.underlying3 w1) (trodAll_cons_mk (shut_int Try.underlying23 w2) trodAll_mk0)))) (fun _ _ => rfl) (by simp)
    (ok_one (by kernel_rfl) rfl (okWide_bool_mk Try.underlying4 _))⟩

theorem over : Rows.burstFlipsRow.holds Try.pinned (OpenSpec.ofChange Rows.burstFlipsSpec) :=
  OpenClaim.holds_of_wide 4 Try.f4 rfl rfl rfl rfl rfl rfl rfl ⟨rfl, rfl, rfl, rfl, rfl⟩ rfl rfl rfl rfl rfl (by kernel_rfl) Try.func4 (by kernel_rfl)
    (of_decide_eq_true (by kernel_rfl)) (by unfold Func.isWrapper; first | (rw [if_pos (by decide +kernel)]; kernel_rfl) | (rw [if_neg (by decide +kernel)]; exact ⟨rfl, rfl⟩))
    (fun os started H enc _ => lifted os started H enc)

/-- the statement -/
theorem proved : Rows.BurstFlipsSaid :=
  over
#print axioms proved
end Go.Proofs.Ytlepjbacaffddaa.burstFlips
