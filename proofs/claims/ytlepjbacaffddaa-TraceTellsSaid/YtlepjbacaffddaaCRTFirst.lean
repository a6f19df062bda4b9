/-
  What astrolaberef17.First answers, as numbers of what it is handed: its run by the engine, and the plain statement behind it. No condition.
-/
import Derived.Test.YtlepjbacaffddaaGab
import Derived.Test.YtlepjbacaffddaaGmT
namespace Go.Proofs.Ytlepjbacaffddaa.CRTFirst
open Go.Eng Go.RowKit
set_option linter.unusedVariables false
set_option linter.unusedSimpArgs false
set_option maxRecDepth 100000
def rc : Rc := ⟨23, [none, none], [.row [.int .i64, .int .i64, .int .i64] 1000000, .row [.int .i64, .int .i64, .int .i64] 1000000], [], .one, [.int .i64 (.f 37 (.v 2) (.v 3) (listE [(.v 0), (.v 1)]))]⟩
theorem okb : rc.ok = true := by kernel_rfl
noncomputable def us : SMs := fun m n => smR (m.cx (cxOf n)) []
theorem us_ok : SMsOk us := fun m n => smR_ok (rcs_nil _)
def tree : TT (List E) :=
(.loop ⟨1000, [some (0, 4611686018427387904)], [(.c 0)], 1008⟩
  (.br (.b .lt .i64 (.cl 1000 0 4611686018427387904) (.v 0))
  (.br (.b .le .i64 (.v 0) (.cl 1000 0 4611686018427387904))
  (.exit 0)
  (.br (.b .le .i64 (.v 1) (.cl 1000 0 4611686018427387904))
  (.exit 1)
  (.new 1002 (.w .i64 (.f 13 (.f 13 (.v 2) (.cl 1000 0 4611686018427387904) (.c 0)) (.c 0) (.c 0)))
  (.br (.b .lt .i64 (.cl 1000 0 4611686018427387904) (.v 1))
  (.new 1003 (.w .i64 (.f 13 (.f 13 (.v 3) (.cl 1000 0 4611686018427387904) (.c 0)) (.c 0) (.c 0)))
  (.br (.b .ne .i64 (.cl 1002 (-9223372036854775808) 9223372036854775807) (.cl 1003 (-9223372036854775808) 9223372036854775807))
  (.exit 2)
  (.new 1004 (.w .i64 (.f 13 (.f 13 (.v 2) (.cl 1000 0 4611686018427387904) (.c 0)) (.c 1) (.c 0)))
  (.new 1005 (.w .i64 (.f 13 (.f 13 (.v 3) (.cl 1000 0 4611686018427387904) (.c 0)) (.c 1) (.c 0)))
  (.br (.b .ne .i64 (.cl 1004 (-9223372036854775808) 9223372036854775807) (.cl 1005 (-9223372036854775808) 9223372036854775807))
  (.exit 3)
  (.new 1006 (.w .i64 (.f 13 (.f 13 (.v 2) (.cl 1000 0 4611686018427387904) (.c 0)) (.c 2) (.c 0)))
  (.new 1007 (.w .i64 (.f 13 (.f 13 (.v 3) (.cl 1000 0 4611686018427387904) (.c 0)) (.c 2) (.c 0)))
  (.br (.b .ne .i64 (.cl 1006 (-9223372036854775808) 9223372036854775807) (.cl 1007 (-9223372036854775808) 9223372036854775807))
  (.exit 4)
  (.br (.b .le .i64 (.b .padd .i64 (.cl 1000 0 4611686018427387904) (.c 1)) (.c 4611686018427387904))
  (.back [(.b .padd .i64 (.cl 1000 0 4611686018427387904) (.c 1))])
  (.bad 303))))))))))
  (.bad 200)))))
  (.br (.b .lt .i64 (.cl 1000 0 4611686018427387904) (.v 1))
  (.br (.b .le .i64 (.v 0) (.cl 1000 0 4611686018427387904))
  (.exit 5)
  (.br (.b .le .i64 (.v 1) (.cl 1000 0 4611686018427387904))
  (.exit 6)
  (.new 1002 (.w .i64 (.f 13 (.f 13 (.v 3) (.cl 1000 0 4611686018427387904) (.c 0)) (.c 0) (.c 0)))
  (.bad 200))))
  (.exit 7)))
  (.br (.b .eq .i64 (.v 1008) (.c 0))
  (.leaf [(.cl 1000 0 4611686018427387904)])
  (.br (.b .eq .i64 (.v 1008) (.c 1))
  (.leaf [(.cl 1000 0 4611686018427387904)])
  (.br (.b .eq .i64 (.v 1008) (.c 2))
  (.leaf [(.cl 1000 0 4611686018427387904)])
  (.br (.b .eq .i64 (.v 1008) (.c 3))
  (.leaf [(.cl 1000 0 4611686018427387904)])
  (.br (.b .eq .i64 (.v 1008) (.c 4))
  (.leaf [(.cl 1000 0 4611686018427387904)])
  (.br (.b .eq .i64 (.v 1008) (.c 5))
  (.leaf [(.cl 1000 0 4611686018427387904)])
  (.br (.b .eq .i64 (.v 1008) (.c 6))
  (.leaf [(.cl 1000 0 4611686018427387904)])
  (.leaf [(.c (-1))])))))))))

def P (n0 n1 c0 c1 r0 r1 : Int) : Prop :=
 ∃ I1000 : Int → Nat → Prop, (∃ m, I1000 0 m) ∧
 ∀ y1000 : Int, ∀ m1000, ((0 ≤ y1000 ∧ y1000 ≤ 4611686018427387904) ∧ True) → I1000 y1000 m1000 →
  (((bool01 (decide (y1000 < n0))) ≠ 0 →
   (((bool01 (decide (n0 ≤ y1000))) ≠ 0 →
    (((bool01 ((0 : Int) == 0)) ≠ 0 →
     (y1000 : Int) = (firstZ c0 c1 (consZ n0 (consZ n1 0))) ∧ True) ∧ ((bool01 ((0 : Int) == 0)) = 0 →
     (((bool01 ((0 : Int) == 1)) ≠ 0 →
      (y1000 : Int) = (firstZ c0 c1 (consZ n0 (consZ n1 0))) ∧ True) ∧ ((bool01 ((0 : Int) == 1)) = 0 →
      (((bool01 ((0 : Int) == 2)) ≠ 0 →
       (y1000 : Int) = (firstZ c0 c1 (consZ n0 (consZ n1 0))) ∧ True) ∧ ((bool01 ((0 : Int) == 2)) = 0 →
       (((bool01 ((0 : Int) == 3)) ≠ 0 →
        (y1000 : Int) = (firstZ c0 c1 (consZ n0 (consZ n1 0))) ∧ True) ∧ ((bool01 ((0 : Int) == 3)) = 0 →
        (((bool01 ((0 : Int) == 4)) ≠ 0 →
         (y1000 : Int) = (firstZ c0 c1 (consZ n0 (consZ n1 0))) ∧ True) ∧ ((bool01 ((0 : Int) == 4)) = 0 →
         (((bool01 ((0 : Int) == 5)) ≠ 0 →
          (y1000 : Int) = (firstZ c0 c1 (consZ n0 (consZ n1 0))) ∧ True) ∧ ((bool01 ((0 : Int) == 5)) = 0 →
          (((bool01 ((0 : Int) == 6)) ≠ 0 →
           (y1000 : Int) = (firstZ c0 c1 (consZ n0 (consZ n1 0))) ∧ True) ∧ ((bool01 ((0 : Int) == 6)) = 0 →
           ((-1) : Int) = (firstZ c0 c1 (consZ n0 (consZ n1 0))) ∧ True))))))))))))))) ∧ ((bool01 (decide (n0 ≤ y1000))) = 0 →
    (((bool01 (decide (n1 ≤ y1000))) ≠ 0 →
     (((bool01 ((1 : Int) == 0)) ≠ 0 →
      (y1000 : Int) = (firstZ c0 c1 (consZ n0 (consZ n1 0))) ∧ True) ∧ ((bool01 ((1 : Int) == 0)) = 0 →
      (((bool01 ((1 : Int) == 1)) ≠ 0 →
       (y1000 : Int) = (firstZ c0 c1 (consZ n0 (consZ n1 0))) ∧ True) ∧ ((bool01 ((1 : Int) == 1)) = 0 →
       (((bool01 ((1 : Int) == 2)) ≠ 0 →
        (y1000 : Int) = (firstZ c0 c1 (consZ n0 (consZ n1 0))) ∧ True) ∧ ((bool01 ((1 : Int) == 2)) = 0 →
        (((bool01 ((1 : Int) == 3)) ≠ 0 →
         (y1000 : Int) = (firstZ c0 c1 (consZ n0 (consZ n1 0))) ∧ True) ∧ ((bool01 ((1 : Int) == 3)) = 0 →
         (((bool01 ((1 : Int) == 4)) ≠ 0 →
          (y1000 : Int) = (firstZ c0 c1 (consZ n0 (consZ n1 0))) ∧ True) ∧ ((bool01 ((1 : Int) == 4)) = 0 →
          (((bool01 ((1 : Int) == 5)) ≠ 0 →
           (y1000 : Int) = (firstZ c0 c1 (consZ n0 (consZ n1 0))) ∧ True) ∧ ((bool01 ((1 : Int) == 5)) = 0 →
           (((bool01 ((1 : Int) == 6)) ≠ 0 →
            (y1000 : Int) = (firstZ c0 c1 (consZ n0 (consZ n1 0))) ∧ True) ∧ ((bool01 ((1 : Int) == 6)) = 0 →
            ((-1) : Int) = (firstZ c0 c1 (consZ n0 (consZ n1 0))) ∧ True))))))))))))))) ∧ ((bool01 (decide (n1 ≤ y1000))) = 0 →
     ∀ y1002 : Int, y1002 = (IntKind.wrap .i64 (rdZ (rdZ c0 y1000) 0)) → ((-9223372036854775808) ≤ y1002 ∧ y1002 ≤ 9223372036854775807) →
     (((bool01 (decide (y1000 < n1))) ≠ 0 →
      ∀ y1003 : Int, y1003 = (IntKind.wrap .i64 (rdZ (rdZ c1 y1000) 0)) → ((-9223372036854775808) ≤ y1003 ∧ y1003 ≤ 9223372036854775807) →
      (((bool01 (y1002 != y1003)) ≠ 0 →
       (((bool01 ((2 : Int) == 0)) ≠ 0 →
        (y1000 : Int) = (firstZ c0 c1 (consZ n0 (consZ n1 0))) ∧ True) ∧ ((bool01 ((2 : Int) == 0)) = 0 →
        (((bool01 ((2 : Int) == 1)) ≠ 0 →
         (y1000 : Int) = (firstZ c0 c1 (consZ n0 (consZ n1 0))) ∧ True) ∧ ((bool01 ((2 : Int) == 1)) = 0 →
         (((bool01 ((2 : Int) == 2)) ≠ 0 →
          (y1000 : Int) = (firstZ c0 c1 (consZ n0 (consZ n1 0))) ∧ True) ∧ ((bool01 ((2 : Int) == 2)) = 0 →
          (((bool01 ((2 : Int) == 3)) ≠ 0 →
           (y1000 : Int) = (firstZ c0 c1 (consZ n0 (consZ n1 0))) ∧ True) ∧ ((bool01 ((2 : Int) == 3)) = 0 →
           (((bool01 ((2 : Int) == 4)) ≠ 0 →
            (y1000 : Int) = (firstZ c0 c1 (consZ n0 (consZ n1 0))) ∧ True) ∧ ((bool01 ((2 : Int) == 4)) = 0 →
            (((bool01 ((2 : Int) == 5)) ≠ 0 →
             (y1000 : Int) = (firstZ c0 c1 (consZ n0 (consZ n1 0))) ∧ True) ∧ ((bool01 ((2 : Int) == 5)) = 0 →
             (((bool01 ((2 : Int) == 6)) ≠ 0 →
              (y1000 : Int) = (firstZ c0 c1 (consZ n0 (consZ n1 0))) ∧ True) ∧ ((bool01 ((2 : Int) == 6)) = 0 →
              ((-1) : Int) = (firstZ c0 c1 (consZ n0 (consZ n1 0))) ∧ True))))))))))))))) ∧ ((bool01 (y1002 != y1003)) = 0 →
       ∀ y1004 : Int, y1004 = (IntKind.wrap .i64 (rdZ (rdZ c0 y1000) 1)) → ((-9223372036854775808) ≤ y1004 ∧ y1004 ≤ 9223372036854775807) →
       ∀ y1005 : Int, y1005 = (IntKind.wrap .i64 (rdZ (rdZ c1 y1000) 1)) → ((-9223372036854775808) ≤ y1005 ∧ y1005 ≤ 9223372036854775807) →
       (((bool01 (y1004 != y1005)) ≠ 0 →
        (((bool01 ((3 : Int) == 0)) ≠ 0 →
         (y1000 : Int) = (firstZ c0 c1 (consZ n0 (consZ n1 0))) ∧ True) ∧ ((bool01 ((3 : Int) == 0)) = 0 →
         (((bool01 ((3 : Int) == 1)) ≠ 0 →
          (y1000 : Int) = (firstZ c0 c1 (consZ n0 (consZ n1 0))) ∧ True) ∧ ((bool01 ((3 : Int) == 1)) = 0 →
          (((bool01 ((3 : Int) == 2)) ≠ 0 →
           (y1000 : Int) = (firstZ c0 c1 (consZ n0 (consZ n1 0))) ∧ True) ∧ ((bool01 ((3 : Int) == 2)) = 0 →
           (((bool01 ((3 : Int) == 3)) ≠ 0 →
            (y1000 : Int) = (firstZ c0 c1 (consZ n0 (consZ n1 0))) ∧ True) ∧ ((bool01 ((3 : Int) == 3)) = 0 →
            (((bool01 ((3 : Int) == 4)) ≠ 0 →
             (y1000 : Int) = (firstZ c0 c1 (consZ n0 (consZ n1 0))) ∧ True) ∧ ((bool01 ((3 : Int) == 4)) = 0 →
             (((bool01 ((3 : Int) == 5)) ≠ 0 →
              (y1000 : Int) = (firstZ c0 c1 (consZ n0 (consZ n1 0))) ∧ True) ∧ ((bool01 ((3 : Int) == 5)) = 0 →
              (((bool01 ((3 : Int) == 6)) ≠ 0 →
               (y1000 : Int) = (firstZ c0 c1 (consZ n0 (consZ n1 0))) ∧ True) ∧ ((bool01 ((3 : Int) == 6)) = 0 →
               ((-1) : Int) = (firstZ c0 c1 (consZ n0 (consZ n1 0))) ∧ True))))))))))))))) ∧ ((bool01 (y1004 != y1005)) = 0 →
        ∀ y1006 : Int, y1006 = (IntKind.wrap .i64 (rdZ (rdZ c0 y1000) 2)) → ((-9223372036854775808) ≤ y1006 ∧ y1006 ≤ 9223372036854775807) →
        ∀ y1007 : Int, y1007 = (IntKind.wrap .i64 (rdZ (rdZ c1 y1000) 2)) → ((-9223372036854775808) ≤ y1007 ∧ y1007 ≤ 9223372036854775807) →
        (((bool01 (y1006 != y1007)) ≠ 0 →
         (((bool01 ((4 : Int) == 0)) ≠ 0 →
          (y1000 : Int) = (firstZ c0 c1 (consZ n0 (consZ n1 0))) ∧ True) ∧ ((bool01 ((4 : Int) == 0)) = 0 →
          (((bool01 ((4 : Int) == 1)) ≠ 0 →
           (y1000 : Int) = (firstZ c0 c1 (consZ n0 (consZ n1 0))) ∧ True) ∧ ((bool01 ((4 : Int) == 1)) = 0 →
           (((bool01 ((4 : Int) == 2)) ≠ 0 →
            (y1000 : Int) = (firstZ c0 c1 (consZ n0 (consZ n1 0))) ∧ True) ∧ ((bool01 ((4 : Int) == 2)) = 0 →
            (((bool01 ((4 : Int) == 3)) ≠ 0 →
             (y1000 : Int) = (firstZ c0 c1 (consZ n0 (consZ n1 0))) ∧ True) ∧ ((bool01 ((4 : Int) == 3)) = 0 →
             (((bool01 ((4 : Int) == 4)) ≠ 0 →
              (y1000 : Int) = (firstZ c0 c1 (consZ n0 (consZ n1 0))) ∧ True) ∧ ((bool01 ((4 : Int) == 4)) = 0 →
              (((bool01 ((4 : Int) == 5)) ≠ 0 →
               (y1000 : Int) = (firstZ c0 c1 (consZ n0 (consZ n1 0))) ∧ True) ∧ ((bool01 ((4 : Int) == 5)) = 0 →
               (((bool01 ((4 : Int) == 6)) ≠ 0 →
                (y1000 : Int) = (firstZ c0 c1 (consZ n0 (consZ n1 0))) ∧ True) ∧ ((bool01 ((4 : Int) == 6)) = 0 →
                ((-1) : Int) = (firstZ c0 c1 (consZ n0 (consZ n1 0))) ∧ True))))))))))))))) ∧ ((bool01 (y1006 != y1007)) = 0 →
         (((bool01 (decide ((y1000 + 1) ≤ 4611686018427387904))) ≠ 0 →
          ∃ m', m' < m1000 ∧ I1000 (y1000 + 1) m') ∧ ((bool01 (decide ((y1000 + 1) ≤ 4611686018427387904))) = 0 →
          False))))))))) ∧ ((bool01 (decide (y1000 < n1))) = 0 →
      False))))))) ∧ ((bool01 (decide (y1000 < n0))) = 0 →
   (((bool01 (decide (y1000 < n1))) ≠ 0 →
    (((bool01 (decide (n0 ≤ y1000))) ≠ 0 →
     (((bool01 ((5 : Int) == 0)) ≠ 0 →
      (y1000 : Int) = (firstZ c0 c1 (consZ n0 (consZ n1 0))) ∧ True) ∧ ((bool01 ((5 : Int) == 0)) = 0 →
      (((bool01 ((5 : Int) == 1)) ≠ 0 →
       (y1000 : Int) = (firstZ c0 c1 (consZ n0 (consZ n1 0))) ∧ True) ∧ ((bool01 ((5 : Int) == 1)) = 0 →
       (((bool01 ((5 : Int) == 2)) ≠ 0 →
        (y1000 : Int) = (firstZ c0 c1 (consZ n0 (consZ n1 0))) ∧ True) ∧ ((bool01 ((5 : Int) == 2)) = 0 →
        (((bool01 ((5 : Int) == 3)) ≠ 0 →
         (y1000 : Int) = (firstZ c0 c1 (consZ n0 (consZ n1 0))) ∧ True) ∧ ((bool01 ((5 : Int) == 3)) = 0 →
         (((bool01 ((5 : Int) == 4)) ≠ 0 →
          (y1000 : Int) = (firstZ c0 c1 (consZ n0 (consZ n1 0))) ∧ True) ∧ ((bool01 ((5 : Int) == 4)) = 0 →
          (((bool01 ((5 : Int) == 5)) ≠ 0 →
           (y1000 : Int) = (firstZ c0 c1 (consZ n0 (consZ n1 0))) ∧ True) ∧ ((bool01 ((5 : Int) == 5)) = 0 →
           (((bool01 ((5 : Int) == 6)) ≠ 0 →
            (y1000 : Int) = (firstZ c0 c1 (consZ n0 (consZ n1 0))) ∧ True) ∧ ((bool01 ((5 : Int) == 6)) = 0 →
            ((-1) : Int) = (firstZ c0 c1 (consZ n0 (consZ n1 0))) ∧ True))))))))))))))) ∧ ((bool01 (decide (n0 ≤ y1000))) = 0 →
     (((bool01 (decide (n1 ≤ y1000))) ≠ 0 →
      (((bool01 ((6 : Int) == 0)) ≠ 0 →
       (y1000 : Int) = (firstZ c0 c1 (consZ n0 (consZ n1 0))) ∧ True) ∧ ((bool01 ((6 : Int) == 0)) = 0 →
       (((bool01 ((6 : Int) == 1)) ≠ 0 →
        (y1000 : Int) = (firstZ c0 c1 (consZ n0 (consZ n1 0))) ∧ True) ∧ ((bool01 ((6 : Int) == 1)) = 0 →
        (((bool01 ((6 : Int) == 2)) ≠ 0 →
         (y1000 : Int) = (firstZ c0 c1 (consZ n0 (consZ n1 0))) ∧ True) ∧ ((bool01 ((6 : Int) == 2)) = 0 →
         (((bool01 ((6 : Int) == 3)) ≠ 0 →
          (y1000 : Int) = (firstZ c0 c1 (consZ n0 (consZ n1 0))) ∧ True) ∧ ((bool01 ((6 : Int) == 3)) = 0 →
          (((bool01 ((6 : Int) == 4)) ≠ 0 →
           (y1000 : Int) = (firstZ c0 c1 (consZ n0 (consZ n1 0))) ∧ True) ∧ ((bool01 ((6 : Int) == 4)) = 0 →
           (((bool01 ((6 : Int) == 5)) ≠ 0 →
            (y1000 : Int) = (firstZ c0 c1 (consZ n0 (consZ n1 0))) ∧ True) ∧ ((bool01 ((6 : Int) == 5)) = 0 →
            (((bool01 ((6 : Int) == 6)) ≠ 0 →
             (y1000 : Int) = (firstZ c0 c1 (consZ n0 (consZ n1 0))) ∧ True) ∧ ((bool01 ((6 : Int) == 6)) = 0 →
             ((-1) : Int) = (firstZ c0 c1 (consZ n0 (consZ n1 0))) ∧ True))))))))))))))) ∧ ((bool01 (decide (n1 ≤ y1000))) = 0 →
      ∀ y1002 : Int, y1002 = (IntKind.wrap .i64 (rdZ (rdZ c1 y1000) 0)) → ((-9223372036854775808) ≤ y1002 ∧ y1002 ≤ 9223372036854775807) →
      False))))) ∧ ((bool01 (decide (y1000 < n1))) = 0 →
    (((bool01 ((7 : Int) == 0)) ≠ 0 →
     (y1000 : Int) = (firstZ c0 c1 (consZ n0 (consZ n1 0))) ∧ True) ∧ ((bool01 ((7 : Int) == 0)) = 0 →
     (((bool01 ((7 : Int) == 1)) ≠ 0 →
      (y1000 : Int) = (firstZ c0 c1 (consZ n0 (consZ n1 0))) ∧ True) ∧ ((bool01 ((7 : Int) == 1)) = 0 →
      (((bool01 ((7 : Int) == 2)) ≠ 0 →
       (y1000 : Int) = (firstZ c0 c1 (consZ n0 (consZ n1 0))) ∧ True) ∧ ((bool01 ((7 : Int) == 2)) = 0 →
       (((bool01 ((7 : Int) == 3)) ≠ 0 →
        (y1000 : Int) = (firstZ c0 c1 (consZ n0 (consZ n1 0))) ∧ True) ∧ ((bool01 ((7 : Int) == 3)) = 0 →
        (((bool01 ((7 : Int) == 4)) ≠ 0 →
         (y1000 : Int) = (firstZ c0 c1 (consZ n0 (consZ n1 0))) ∧ True) ∧ ((bool01 ((7 : Int) == 4)) = 0 →
         (((bool01 ((7 : Int) == 5)) ≠ 0 →
          (y1000 : Int) = (firstZ c0 c1 (consZ n0 (consZ n1 0))) ∧ True) ∧ ((bool01 ((7 : Int) == 5)) = 0 →
          (((bool01 ((7 : Int) == 6)) ≠ 0 →
           (y1000 : Int) = (firstZ c0 c1 (consZ n0 (consZ n1 0))) ∧ True) ∧ ((bool01 ((7 : Int) == 6)) = 0 →
           ((-1) : Int) = (firstZ c0 c1 (consZ n0 (consZ n1 0))) ∧ True))))))))))))))))))

theorem holds (n0 n1 c0 c1 r0 r1 : Int) (l_n0 : 0 ≤ n0) (u_n0 : n0 ≤ 1000000) (l_n1 : 0 ≤ n1) (u_n1 : n1 ≤ 1000000) (h_n0 : n0 ≤ r0) (h_n1 : n1 ≤ r1) : P n0 n1 c0 c1 r0 r1 := by
  unfold P
  simp only [b01_eq, decide_eq_true_eq, decide_eq_false_iff_not, beq_iff_eq, beq_eq_false_iff_ne, bne_iff_ne, bne_eq_false_iff_eq, Int.not_le, Int.not_lt, true_and, and_true, iteZ_ne, ne_eq, Bool.not_eq_false, Bool.not_eq_true, not_true_eq_false, not_false_eq_true, Decidable.not_not, forall_const, false_implies, true_iff, iff_true, false_iff, iff_false, Int.reduceEq, Int.reduceNeg, eq_self, if_true, if_false, reduceIte, mk_fold]
  refine ⟨fun i m => (∀ j : Nat, (j : Int) < i → ¬ diffAt c0 c1 n0 n1 j) ∧ (i ≤ n0 ∧ i ≤ n1) ∧ m = (n0 - i).toNat, ⟨_, fun j h => by omega, by omega, rfl⟩, fun i m hb hI => ?_⟩
  obtain ⟨hl, hi, rfl⟩ := hI
  have hi0 := nat_i hb.1
  have some : diffAt c0 c1 n0 n1 i.toNat → (i < n0 ∨ i < n1) → i = firstZ c0 c1 (consZ n0 (consZ n1 0)) := fun h1 h2 => firstZ_some hb.1 h1 h2 hl
  refine ⟨fun h1 => ⟨fun h2 => by omega, fun h2 => ⟨fun h3 => some (by unfold diffAt; omega) (by omega), fun h3 y2 e2 _ => ⟨fun h4 y3 e3 _ => ⟨fun h5 => some ?_ (by omega), fun h5 y4 e4 _ y5 e5 _ => ⟨fun h6 => some ?_ (by omega), fun h6 y6 e6 _ y7 e7 _ =>
    ⟨fun h7 => some ?_ (by omega), fun h7 => ⟨fun h8 => ⟨_, ?_, fun j hj => ?_, by omega, rfl⟩, fun h8 => by omega⟩⟩⟩⟩, fun h4 => by omega⟩⟩⟩, fun h1 => ⟨fun h2 => ⟨fun h3 => some (by unfold diffAt; omega) (by omega), fun h3 => by omega⟩, fun h2 => firstZ_none (by omega) fun j hj => hl j (by omega)⟩⟩
  · unfold diffAt; rw [hi0, ← e2, ← e3]; exact .inr (.inr (.inl h5))
  · unfold diffAt; rw [hi0, ← e4, ← e5]; exact .inr (.inr (.inr (.inl h6)))
  · unfold diffAt; rw [hi0, ← e6, ← e7]; exact .inr (.inr (.inr (.inr h7)))
  · omega
  · by_cases e : (j : Int) = i
    · unfold diffAt
      rw [e]
      subst e2; subst e3; subst e4; subst e5; subst e6; subst e7
      rintro (h | h | h | h | h)
      · omega
      · omega
      · exact h h5
      · exact h h6
      · exact h h7
    · exact hl j (by omega)

theorem plain (i : Nat → Int) (v : Nat → Value) (ro : Nat → RO) (p : Program) : TT.hdP (rc.cx (cxOf 2)) (rlF ⟨i, fN, v, ro, p⟩ rc.res) tree ⟨i, fN, v, ro, p⟩ = P (i 0) (i 1) (i 2) (i 3) (i 4) (i 5) := by kernel_rfl
theorem ran : TT.beq (projL (rc.pj (cxOf 2)) (runT us (fun _ _ => .auto) rc 2 rc.f rc.args ⟨[], []⟩)) tree = true := by kernel_rfl
theorem fineT : (TT.fine (rc.cx (cxOf 2)) 1000 [] tree && (rc.cx (cxOf 2)).okB 1000 && SV.vbL 1000 rc.args && TT.tidy (rc.cx (cxOf 2)) [] tree) = true := by kernel_rfl
theorem ok : RcOk (cxOf 2) rc :=
  rc_run (runT_ok us_ok (fun _ _ => .auto) rc 2) ran fineT okb fun ρ hρ hcap hpre => by
    obtain ⟨i, f, v, ro, p⟩ := ρ
    have hf : f = fN := hρ.hF
    subst hf
    rw [plain]
    exact holds (i 0) (i 1) (i 2) (i 3) (i 4) (i 5) (hρ.hi 0 _ rfl).1 (hρ.hi 0 _ rfl).2 (hρ.hi 1 _ rfl).1 (hρ.hi 1 _ rfl).2 (hcap _ (List.mem_of_getElem? (i := 0) rfl)) (hcap _ (List.mem_of_getElem? (i := 1) rfl))
end Go.Proofs.Ytlepjbacaffddaa.CRTFirst
