/-
  What astrolaberef17.Addrs answers, as numbers of what it is handed: its run by the engine, and the plain statement behind it. No condition.
-/
import Derived.Test.YtlepjbacaffddaaGab
import Derived.Test.YtlepjbacaffddaaGmT
namespace Go.Proofs.Ytlepjbacaffddaa.CRTAddrs
open Go.Eng Go.RowKit
set_option linter.unusedVariables false
set_option linter.unusedSimpArgs false
set_option maxRecDepth 100000
def rc : Rc := ⟨26, [none], [.row [.int .i64, .int .i64, .int .i64] 900000], [], .one, [.row [.int .i64] 3 (.f 41 (.v 1) (.v 0) (.c 0)) (.f 40 (.v 1) (.v 0) (.c 0))]⟩
theorem okb : rc.ok = true := by kernel_rfl
noncomputable def us : SMs := fun m n => smR (m.cx (cxOf n)) []
theorem us_ok : SMsOk us := fun m n => smR_ok (rcs_nil _)
def tree : TT (List E) :=
(.loop ⟨1000, [none, some (0, 1000000), some (0, 4611686018427387904)], [(.c 0), (.c 0), (.c 0)], 1007⟩
  (.br (.b .lt .i64 (.cl 1002 0 4611686018427387904) (.v 0))
  (.loop ⟨1004, [some (0, 4611686018427387904)], [(.c 0)], 1006⟩
  (.br (.b .lt .i64 (.cl 1004 0 4611686018427387904) (.cl 1001 0 1000000))
  (.br (.b .lt .i64 (.w .i64 (.f 13 (.v 1000) (.cl 1004 0 4611686018427387904) (.c 0))) (.w .i64 (.f 13 (.f 13 (.v 1) (.cl 1002 0 4611686018427387904) (.c 0)) (.c 1) (.c 0))))
  (.br (.b .le .i64 (.b .padd .i64 (.cl 1004 0 4611686018427387904) (.c 1)) (.c 4611686018427387904))
  (.back [(.b .padd .i64 (.cl 1004 0 4611686018427387904) (.c 1))])
  (.bad 303))
  (.exit 0))
  (.exit 1))
  (.br (.b .eq .i64 (.v 1006) (.c 0))
  (.br (.b .eq .i64 (.w .i64 (.f 13 (.f 13 (.v 1) (.cl 1002 0 4611686018427387904) (.c 0)) (.c 1) (.c 0))) (.c (-1)))
  (.br (.b .le .i64 (.b .padd .i64 (.cl 1002 0 4611686018427387904) (.c 1)) (.c 4611686018427387904))
  (.back [(.v 1000), (.cl 1001 0 1000000), (.b .padd .i64 (.cl 1002 0 4611686018427387904) (.c 1))])
  (.bad 303))
  (.br (.b .eq .i64 (.w .i64 (.f 13 (.v 1000) (.cl 1004 0 4611686018427387904) (.c 0))) (.w .i64 (.f 13 (.f 13 (.v 1) (.cl 1002 0 4611686018427387904) (.c 0)) (.c 1) (.c 0))))
  (.br (.b .le .i64 (.b .padd .i64 (.cl 1002 0 4611686018427387904) (.c 1)) (.c 4611686018427387904))
  (.back [(.v 1000), (.cl 1001 0 1000000), (.b .padd .i64 (.cl 1002 0 4611686018427387904) (.c 1))])
  (.bad 303))
  (.br (.b .le .i64 (.cl 1004 0 4611686018427387904) (.cl 1001 0 1000000))
  (.br (.b .le .i64 (.cl 1004 0 4611686018427387904) (.c 1000000))
  (.br (.b .le .i64 (.b .padd .i64 (.cl 1004 0 4611686018427387904) (.c 1)) (.c 1000000))
  (.br (.b .le .i64 (.c 0) (.b .psub .i64 (.cl 1001 0 1000000) (.cl 1004 0 4611686018427387904)))
  (.br (.b .le .i64 (.b .padd .i64 (.cl 1004 0 4611686018427387904) (.b .psub .i64 (.cl 1001 0 1000000) (.cl 1004 0 4611686018427387904))) (.cl 1001 0 1000000))
  (.br (.b .le .i64 (.b .padd .i64 (.b .padd .i64 (.cl 1004 0 4611686018427387904) (.c 1)) (.b .psub .i64 (.cl 1001 0 1000000) (.cl 1004 0 4611686018427387904))) (.c 1000000))
  (.br (.b .le .i64 (.c 0) (.b .padd .i64 (.b .padd .i64 (.cl 1004 0 4611686018427387904) (.c 1)) (.b .psub .i64 (.cl 1001 0 1000000) (.cl 1004 0 4611686018427387904))))
  (.br (.b .le .i64 (.b .padd .i64 (.b .padd .i64 (.cl 1004 0 4611686018427387904) (.c 1)) (.b .psub .i64 (.cl 1001 0 1000000) (.cl 1004 0 4611686018427387904))) (.c 1000000))
  (.br (.b .le .i64 (.b .padd .i64 (.cl 1002 0 4611686018427387904) (.c 1)) (.c 4611686018427387904))
  (.back [(.f 16 (.f 14 (.f 16 (.c 0) (.c 0) (.v 1000)) (.cl 1004 0 4611686018427387904) (.w .i64 (.f 13 (.f 13 (.v 1) (.cl 1002 0 4611686018427387904) (.c 0)) (.c 1) (.c 0)))) (.b .padd .i64 (.cl 1004 0 4611686018427387904) (.c 1)) (.f 18 (.v 1000) (.cl 1004 0 4611686018427387904) (.c 0))), (.b .padd .i64 (.b .padd .i64 (.cl 1004 0 4611686018427387904) (.c 1)) (.b .psub .i64 (.cl 1001 0 1000000) (.cl 1004 0 4611686018427387904))), (.b .padd .i64 (.cl 1002 0 4611686018427387904) (.c 1))])
  (.bad 303))
  (.bad 303))
  (.bad 303))
  (.bad 200))
  (.bad 200))
  (.bad 200))
  (.bad 200))
  (.bad 200))
  (.bad 200))))
  (.br (.b .eq .i64 (.w .i64 (.f 13 (.f 13 (.v 1) (.cl 1002 0 4611686018427387904) (.c 0)) (.c 1) (.c 0))) (.c (-1)))
  (.br (.b .le .i64 (.b .padd .i64 (.cl 1002 0 4611686018427387904) (.c 1)) (.c 4611686018427387904))
  (.back [(.v 1000), (.cl 1001 0 1000000), (.b .padd .i64 (.cl 1002 0 4611686018427387904) (.c 1))])
  (.bad 303))
  (.br (.b .le .i64 (.cl 1004 0 4611686018427387904) (.cl 1001 0 1000000))
  (.br (.b .le .i64 (.cl 1004 0 4611686018427387904) (.c 1000000))
  (.br (.b .le .i64 (.b .padd .i64 (.cl 1004 0 4611686018427387904) (.c 1)) (.c 1000000))
  (.br (.b .le .i64 (.c 0) (.b .psub .i64 (.cl 1001 0 1000000) (.cl 1004 0 4611686018427387904)))
  (.br (.b .le .i64 (.b .padd .i64 (.cl 1004 0 4611686018427387904) (.b .psub .i64 (.cl 1001 0 1000000) (.cl 1004 0 4611686018427387904))) (.cl 1001 0 1000000))
  (.br (.b .le .i64 (.b .padd .i64 (.b .padd .i64 (.cl 1004 0 4611686018427387904) (.c 1)) (.b .psub .i64 (.cl 1001 0 1000000) (.cl 1004 0 4611686018427387904))) (.c 1000000))
  (.br (.b .le .i64 (.c 0) (.b .padd .i64 (.b .padd .i64 (.cl 1004 0 4611686018427387904) (.c 1)) (.b .psub .i64 (.cl 1001 0 1000000) (.cl 1004 0 4611686018427387904))))
  (.br (.b .le .i64 (.b .padd .i64 (.b .padd .i64 (.cl 1004 0 4611686018427387904) (.c 1)) (.b .psub .i64 (.cl 1001 0 1000000) (.cl 1004 0 4611686018427387904))) (.c 1000000))
  (.br (.b .le .i64 (.b .padd .i64 (.cl 1002 0 4611686018427387904) (.c 1)) (.c 4611686018427387904))
  (.back [(.f 16 (.f 14 (.f 16 (.c 0) (.c 0) (.v 1000)) (.cl 1004 0 4611686018427387904) (.w .i64 (.f 13 (.f 13 (.v 1) (.cl 1002 0 4611686018427387904) (.c 0)) (.c 1) (.c 0)))) (.b .padd .i64 (.cl 1004 0 4611686018427387904) (.c 1)) (.f 18 (.v 1000) (.cl 1004 0 4611686018427387904) (.c 0))), (.b .padd .i64 (.b .padd .i64 (.cl 1004 0 4611686018427387904) (.c 1)) (.b .psub .i64 (.cl 1001 0 1000000) (.cl 1004 0 4611686018427387904))), (.b .padd .i64 (.cl 1002 0 4611686018427387904) (.c 1))])
  (.bad 303))
  (.bad 303))
  (.bad 303))
  (.bad 200))
  (.bad 200))
  (.bad 200))
  (.bad 200))
  (.bad 200))
  (.bad 200)))))
  (.exit 0))
  (.leaf [(.cl 1001 0 1000000), (.v 1000)]))

def P (n0 c0 r0 : Int) : Prop :=
 ∃ I1000 : Int → Int → Int → Nat → Prop, (∃ m, I1000 0 0 0 m) ∧
 ∀ y1000 y1001 y1002 : Int, ∀ m1000, (True ∧ (0 ≤ y1001 ∧ y1001 ≤ 1000000) ∧ (0 ≤ y1002 ∧ y1002 ≤ 4611686018427387904) ∧ True) → I1000 y1000 y1001 y1002 m1000 →
  (((bool01 (decide (y1002 < n0))) ≠ 0 →
   ∃ I1004 : Int → Nat → Prop, (∃ m, I1004 0 m) ∧
   ∀ y1004 : Int, ∀ m1004, ((0 ≤ y1004 ∧ y1004 ≤ 4611686018427387904) ∧ True) → I1004 y1004 m1004 →
    (((bool01 (decide (y1004 < y1001))) ≠ 0 →
     (((bool01 (decide ((IntKind.wrap .i64 (rdZ y1000 y1004)) < (IntKind.wrap .i64 (rdZ (rdZ c0 y1002) 1))))) ≠ 0 →
      (((bool01 (decide ((y1004 + 1) ≤ 4611686018427387904))) ≠ 0 →
       ∃ m', m' < m1004 ∧ I1004 (y1004 + 1) m') ∧ ((bool01 (decide ((y1004 + 1) ≤ 4611686018427387904))) = 0 →
       False))) ∧ ((bool01 (decide ((IntKind.wrap .i64 (rdZ y1000 y1004)) < (IntKind.wrap .i64 (rdZ (rdZ c0 y1002) 1))))) = 0 →
      (((bool01 ((0 : Int) == 0)) ≠ 0 →
       (((bool01 ((IntKind.wrap .i64 (rdZ (rdZ c0 y1002) 1)) == (-1))) ≠ 0 →
        (((bool01 (decide ((y1002 + 1) ≤ 4611686018427387904))) ≠ 0 →
         ∃ m', m' < m1000 ∧ I1000 y1000 y1001 (y1002 + 1) m') ∧ ((bool01 (decide ((y1002 + 1) ≤ 4611686018427387904))) = 0 →
         False))) ∧ ((bool01 ((IntKind.wrap .i64 (rdZ (rdZ c0 y1002) 1)) == (-1))) = 0 →
        (((bool01 ((IntKind.wrap .i64 (rdZ y1000 y1004)) == (IntKind.wrap .i64 (rdZ (rdZ c0 y1002) 1)))) ≠ 0 →
         (((bool01 (decide ((y1002 + 1) ≤ 4611686018427387904))) ≠ 0 →
          ∃ m', m' < m1000 ∧ I1000 y1000 y1001 (y1002 + 1) m') ∧ ((bool01 (decide ((y1002 + 1) ≤ 4611686018427387904))) = 0 →
          False))) ∧ ((bool01 ((IntKind.wrap .i64 (rdZ y1000 y1004)) == (IntKind.wrap .i64 (rdZ (rdZ c0 y1002) 1)))) = 0 →
         (((bool01 (decide (y1004 ≤ y1001))) ≠ 0 →
          (((bool01 (decide (y1004 ≤ 1000000))) ≠ 0 →
           (((bool01 (decide ((y1004 + 1) ≤ 1000000))) ≠ 0 →
            (((bool01 (decide (0 ≤ (y1001 - y1004)))) ≠ 0 →
             (((bool01 (decide ((y1004 + (y1001 - y1004)) ≤ y1001))) ≠ 0 →
              (((bool01 (decide (((y1004 + 1) + (y1001 - y1004)) ≤ 1000000))) ≠ 0 →
               (((bool01 (decide (0 ≤ ((y1004 + 1) + (y1001 - y1004))))) ≠ 0 →
                (((bool01 (decide (((y1004 + 1) + (y1001 - y1004)) ≤ 1000000))) ≠ 0 →
                 (((bool01 (decide ((y1002 + 1) ≤ 4611686018427387904))) ≠ 0 →
                  ∃ m', m' < m1000 ∧ I1000 (appZ (updZ (appZ 0 0 y1000) y1004 (IntKind.wrap .i64 (rdZ (rdZ c0 y1002) 1))) (y1004 + 1) (dropZ y1000 y1004)) ((y1004 + 1) + (y1001 - y1004)) (y1002 + 1) m') ∧ ((bool01 (decide ((y1002 + 1) ≤ 4611686018427387904))) = 0 →
                  False))) ∧ ((bool01 (decide (((y1004 + 1) + (y1001 - y1004)) ≤ 1000000))) = 0 →
                 False))) ∧ ((bool01 (decide (0 ≤ ((y1004 + 1) + (y1001 - y1004))))) = 0 →
                False))) ∧ ((bool01 (decide (((y1004 + 1) + (y1001 - y1004)) ≤ 1000000))) = 0 →
               False))) ∧ ((bool01 (decide ((y1004 + (y1001 - y1004)) ≤ y1001))) = 0 →
              False))) ∧ ((bool01 (decide (0 ≤ (y1001 - y1004)))) = 0 →
             False))) ∧ ((bool01 (decide ((y1004 + 1) ≤ 1000000))) = 0 →
            False))) ∧ ((bool01 (decide (y1004 ≤ 1000000))) = 0 →
           False))) ∧ ((bool01 (decide (y1004 ≤ y1001))) = 0 →
          False))))))) ∧ ((bool01 ((0 : Int) == 0)) = 0 →
       (((bool01 ((IntKind.wrap .i64 (rdZ (rdZ c0 y1002) 1)) == (-1))) ≠ 0 →
        (((bool01 (decide ((y1002 + 1) ≤ 4611686018427387904))) ≠ 0 →
         ∃ m', m' < m1000 ∧ I1000 y1000 y1001 (y1002 + 1) m') ∧ ((bool01 (decide ((y1002 + 1) ≤ 4611686018427387904))) = 0 →
         False))) ∧ ((bool01 ((IntKind.wrap .i64 (rdZ (rdZ c0 y1002) 1)) == (-1))) = 0 →
        (((bool01 (decide (y1004 ≤ y1001))) ≠ 0 →
         (((bool01 (decide (y1004 ≤ 1000000))) ≠ 0 →
          (((bool01 (decide ((y1004 + 1) ≤ 1000000))) ≠ 0 →
           (((bool01 (decide (0 ≤ (y1001 - y1004)))) ≠ 0 →
            (((bool01 (decide ((y1004 + (y1001 - y1004)) ≤ y1001))) ≠ 0 →
             (((bool01 (decide (((y1004 + 1) + (y1001 - y1004)) ≤ 1000000))) ≠ 0 →
              (((bool01 (decide (0 ≤ ((y1004 + 1) + (y1001 - y1004))))) ≠ 0 →
               (((bool01 (decide (((y1004 + 1) + (y1001 - y1004)) ≤ 1000000))) ≠ 0 →
                (((bool01 (decide ((y1002 + 1) ≤ 4611686018427387904))) ≠ 0 →
                 ∃ m', m' < m1000 ∧ I1000 (appZ (updZ (appZ 0 0 y1000) y1004 (IntKind.wrap .i64 (rdZ (rdZ c0 y1002) 1))) (y1004 + 1) (dropZ y1000 y1004)) ((y1004 + 1) + (y1001 - y1004)) (y1002 + 1) m') ∧ ((bool01 (decide ((y1002 + 1) ≤ 4611686018427387904))) = 0 →
                 False))) ∧ ((bool01 (decide (((y1004 + 1) + (y1001 - y1004)) ≤ 1000000))) = 0 →
                False))) ∧ ((bool01 (decide (0 ≤ ((y1004 + 1) + (y1001 - y1004))))) = 0 →
               False))) ∧ ((bool01 (decide (((y1004 + 1) + (y1001 - y1004)) ≤ 1000000))) = 0 →
              False))) ∧ ((bool01 (decide ((y1004 + (y1001 - y1004)) ≤ y1001))) = 0 →
             False))) ∧ ((bool01 (decide (0 ≤ (y1001 - y1004)))) = 0 →
            False))) ∧ ((bool01 (decide ((y1004 + 1) ≤ 1000000))) = 0 →
           False))) ∧ ((bool01 (decide (y1004 ≤ 1000000))) = 0 →
          False))) ∧ ((bool01 (decide (y1004 ≤ y1001))) = 0 →
         False))))))))) ∧ ((bool01 (decide (y1004 < y1001))) = 0 →
     (((bool01 ((1 : Int) == 0)) ≠ 0 →
      (((bool01 ((IntKind.wrap .i64 (rdZ (rdZ c0 y1002) 1)) == (-1))) ≠ 0 →
       (((bool01 (decide ((y1002 + 1) ≤ 4611686018427387904))) ≠ 0 →
        ∃ m', m' < m1000 ∧ I1000 y1000 y1001 (y1002 + 1) m') ∧ ((bool01 (decide ((y1002 + 1) ≤ 4611686018427387904))) = 0 →
        False))) ∧ ((bool01 ((IntKind.wrap .i64 (rdZ (rdZ c0 y1002) 1)) == (-1))) = 0 →
       (((bool01 ((IntKind.wrap .i64 (rdZ y1000 y1004)) == (IntKind.wrap .i64 (rdZ (rdZ c0 y1002) 1)))) ≠ 0 →
        (((bool01 (decide ((y1002 + 1) ≤ 4611686018427387904))) ≠ 0 →
         ∃ m', m' < m1000 ∧ I1000 y1000 y1001 (y1002 + 1) m') ∧ ((bool01 (decide ((y1002 + 1) ≤ 4611686018427387904))) = 0 →
         False))) ∧ ((bool01 ((IntKind.wrap .i64 (rdZ y1000 y1004)) == (IntKind.wrap .i64 (rdZ (rdZ c0 y1002) 1)))) = 0 →
        (((bool01 (decide (y1004 ≤ y1001))) ≠ 0 →
         (((bool01 (decide (y1004 ≤ 1000000))) ≠ 0 →
          (((bool01 (decide ((y1004 + 1) ≤ 1000000))) ≠ 0 →
           (((bool01 (decide (0 ≤ (y1001 - y1004)))) ≠ 0 →
            (((bool01 (decide ((y1004 + (y1001 - y1004)) ≤ y1001))) ≠ 0 →
             (((bool01 (decide (((y1004 + 1) + (y1001 - y1004)) ≤ 1000000))) ≠ 0 →
              (((bool01 (decide (0 ≤ ((y1004 + 1) + (y1001 - y1004))))) ≠ 0 →
               (((bool01 (decide (((y1004 + 1) + (y1001 - y1004)) ≤ 1000000))) ≠ 0 →
                (((bool01 (decide ((y1002 + 1) ≤ 4611686018427387904))) ≠ 0 →
                 ∃ m', m' < m1000 ∧ I1000 (appZ (updZ (appZ 0 0 y1000) y1004 (IntKind.wrap .i64 (rdZ (rdZ c0 y1002) 1))) (y1004 + 1) (dropZ y1000 y1004)) ((y1004 + 1) + (y1001 - y1004)) (y1002 + 1) m') ∧ ((bool01 (decide ((y1002 + 1) ≤ 4611686018427387904))) = 0 →
                 False))) ∧ ((bool01 (decide (((y1004 + 1) + (y1001 - y1004)) ≤ 1000000))) = 0 →
                False))) ∧ ((bool01 (decide (0 ≤ ((y1004 + 1) + (y1001 - y1004))))) = 0 →
               False))) ∧ ((bool01 (decide (((y1004 + 1) + (y1001 - y1004)) ≤ 1000000))) = 0 →
              False))) ∧ ((bool01 (decide ((y1004 + (y1001 - y1004)) ≤ y1001))) = 0 →
             False))) ∧ ((bool01 (decide (0 ≤ (y1001 - y1004)))) = 0 →
            False))) ∧ ((bool01 (decide ((y1004 + 1) ≤ 1000000))) = 0 →
           False))) ∧ ((bool01 (decide (y1004 ≤ 1000000))) = 0 →
          False))) ∧ ((bool01 (decide (y1004 ≤ y1001))) = 0 →
         False))))))) ∧ ((bool01 ((1 : Int) == 0)) = 0 →
      (((bool01 ((IntKind.wrap .i64 (rdZ (rdZ c0 y1002) 1)) == (-1))) ≠ 0 →
       (((bool01 (decide ((y1002 + 1) ≤ 4611686018427387904))) ≠ 0 →
        ∃ m', m' < m1000 ∧ I1000 y1000 y1001 (y1002 + 1) m') ∧ ((bool01 (decide ((y1002 + 1) ≤ 4611686018427387904))) = 0 →
        False))) ∧ ((bool01 ((IntKind.wrap .i64 (rdZ (rdZ c0 y1002) 1)) == (-1))) = 0 →
       (((bool01 (decide (y1004 ≤ y1001))) ≠ 0 →
        (((bool01 (decide (y1004 ≤ 1000000))) ≠ 0 →
         (((bool01 (decide ((y1004 + 1) ≤ 1000000))) ≠ 0 →
          (((bool01 (decide (0 ≤ (y1001 - y1004)))) ≠ 0 →
           (((bool01 (decide ((y1004 + (y1001 - y1004)) ≤ y1001))) ≠ 0 →
            (((bool01 (decide (((y1004 + 1) + (y1001 - y1004)) ≤ 1000000))) ≠ 0 →
             (((bool01 (decide (0 ≤ ((y1004 + 1) + (y1001 - y1004))))) ≠ 0 →
              (((bool01 (decide (((y1004 + 1) + (y1001 - y1004)) ≤ 1000000))) ≠ 0 →
               (((bool01 (decide ((y1002 + 1) ≤ 4611686018427387904))) ≠ 0 →
                ∃ m', m' < m1000 ∧ I1000 (appZ (updZ (appZ 0 0 y1000) y1004 (IntKind.wrap .i64 (rdZ (rdZ c0 y1002) 1))) (y1004 + 1) (dropZ y1000 y1004)) ((y1004 + 1) + (y1001 - y1004)) (y1002 + 1) m') ∧ ((bool01 (decide ((y1002 + 1) ≤ 4611686018427387904))) = 0 →
                False))) ∧ ((bool01 (decide (((y1004 + 1) + (y1001 - y1004)) ≤ 1000000))) = 0 →
               False))) ∧ ((bool01 (decide (0 ≤ ((y1004 + 1) + (y1001 - y1004))))) = 0 →
              False))) ∧ ((bool01 (decide (((y1004 + 1) + (y1001 - y1004)) ≤ 1000000))) = 0 →
             False))) ∧ ((bool01 (decide ((y1004 + (y1001 - y1004)) ≤ y1001))) = 0 →
            False))) ∧ ((bool01 (decide (0 ≤ (y1001 - y1004)))) = 0 →
           False))) ∧ ((bool01 (decide ((y1004 + 1) ≤ 1000000))) = 0 →
          False))) ∧ ((bool01 (decide (y1004 ≤ 1000000))) = 0 →
         False))) ∧ ((bool01 (decide (y1004 ≤ y1001))) = 0 →
        False))))))))) ∧ ((bool01 (decide (y1002 < n0))) = 0 →
   (y1001 : Int) = (addrN c0 n0) ∧ rowEq [.int .i64] y1000 (addrC c0 n0) y1001 ∧ True))

theorem holds (n0 c0 r0 : Int) (l_n0 : 0 ≤ n0) (u_n0 : n0 ≤ 900000) (h_n0 : n0 ≤ r0) : P n0 c0 r0 := by
  unfold P
  simp only [b01_eq, decide_eq_true_eq, decide_eq_false_iff_not, beq_iff_eq, beq_eq_false_iff_ne, bne_iff_ne, bne_eq_false_iff_eq, Int.not_le, Int.not_lt, true_and, and_true, iteZ_ne, ne_eq, Bool.not_eq_false, Bool.not_eq_true, not_true_eq_false, not_false_eq_true, Decidable.not_not, forall_const, false_implies, true_iff, iff_true, false_iff, iff_false, Int.reduceEq, Int.reduceNeg, eq_self, if_true, if_false, reduceIte, ob_le, ob_lt, ob_p, ob_n]
  simp only [mk_fold]
  refine ⟨fun q n i m => ∃ L : List Int, Rw q L ∧ n = L.length ∧ L.Pairwise (· < ·) ∧ (∀ x, x ∈ L ↔ x ∈ addrF c0 i.toNat) ∧ (L.length : Int) ≤ i ∧ i ≤ n0 ∧ m = (n0 - i).toNat, ⟨_, [], Rw.nil _, rfl, List.Pairwise.nil, by simp [addrF], by simp, by omega, rfl⟩, fun q n i m hb hI => ?_⟩
  obtain ⟨L, hq, hn, hp, hm, hLi, hi, rfl⟩ := hI
  have hs := succ_i hb.2.1
  have hi0 := nat_i hb.2.1
  have hbd : ∀ x ∈ L, -9223372036854775808 ≤ x ∧ x ≤ 9223372036854775807 := fun x hx => addrF_bd ((hm x).1 hx)
  have hrd : ∀ a : Int, 0 ≤ a → a < n → IntKind.wrap .i64 (rdZ q a) = L.getD a.toNat 0 := by
    intro a h0 h1
    rw [hq.rd h0 (by omega), List.getD_eq_getElem?_getD, List.getElem?_eq_getElem (show a.toNat < L.length by omega), Option.getD_some]
    have := hbd _ (List.getElem_mem (show a.toNat < L.length by omega))
    exact w64 this.1 this.2
  have hadd : ∀ x, x ∈ addrF c0 (i + 1).toNat ↔ x ∈ addrF c0 i.toNat ∨ (mk c0 i 1 ≠ -1 ∧ x = mk c0 i 1) := by
    intro x
    rw [hs, addrF, hi0, List.mem_append]
    split <;> rename_i h <;> simp [h]
  -- as it was
  have same : (mk c0 i 1 = -1 ∨ mk c0 i 1 ∈ L) → i < n0 → ∃ m', m' < (n0 - i).toNat ∧ ∃ L : List Int, Rw q L ∧ n = L.length ∧ L.Pairwise (· < ·) ∧ (∀ x, x ∈ L ↔ x ∈ addrF c0 (i + 1).toNat) ∧ (L.length : Int) ≤ i + 1 ∧ i + 1 ≤ n0 ∧ m' = (n0 - (i + 1)).toNat := by
    intro h h1
    refine ⟨_, ?_, L, hq, hn, hp, fun x => ?_, by omega, by omega, rfl⟩
    · omega
    · rw [hadd, hm]
      constructor
      · exact .inl
      · rintro (g | ⟨g1, rfl⟩)
        · exact g
        · rcases h with h | h
          · exact absurd h g1
          · exact (hm _).1 h
  -- one more
  have more : ∀ a : Int, 0 ≤ a → a ≤ n → mk c0 i 1 ≠ -1 → (∀ j : Nat, (j : Int) < a → L.getD j 0 < mk c0 i 1) → (a < n → mk c0 i 1 < L.getD a.toNat 0) → i < n0 →
      ∃ m', m' < (n0 - i).toNat ∧ ∃ L : List Int, Rw (appZ (updZ (appZ 0 0 q) a (mk c0 i 1)) (a + 1) (dropZ q a)) L ∧ a + 1 + (n - a) = L.length ∧ L.Pairwise (· < ·) ∧ (∀ x, x ∈ L ↔ x ∈ addrF c0 (i + 1).toNat) ∧ (L.length : Int) ≤ i + 1 ∧ i + 1 ≤ n0 ∧ m' = (n0 - (i + 1)).toNat := by
    intro a h0 h1 h2 h3 h4 h5
    obtain ⟨g1, g2⟩ := ins_sorted (v := mk c0 i 1) (a := a.toNat) hp (fun j hj => h3 j (by omega)) (fun h => h4 (by omega)) (by omega)
    have hlen : (L.take a.toNat ++ mk c0 i 1 :: L.drop a.toNat).length = L.length + 1 := by
      simp only [List.length_append, List.length_take, List.length_cons, List.length_drop]; omega
    refine ⟨_, ?_, _, ins_rw hq hn h0 h1, by rw [hlen]; omega, g1, fun x => ?_, by rw [hlen]; omega, by omega, rfl⟩
    · omega
    · rw [g2, hadd, hm]
      simp [h2]
  refine ⟨fun h1 => ?_, fun h1 => ?_⟩
  · refine ⟨fun a m => (∀ j : Nat, (j : Int) < a → L.getD j 0 < mk c0 i 1) ∧ a ≤ n ∧ m = (n - a).toNat, ⟨_, fun j h => by omega, by omega, rfl⟩, fun a m hb2 hJ => ?_⟩
    obtain ⟨hJ, ha, rfl⟩ := hJ
    refine ⟨fun h2 => ?_, fun h2 => ?_⟩
    · rw [hrd a hb2.1 h2]
      refine ⟨fun h3 => ⟨by omega, _, ?_, fun j hj => ?_, by omega, rfl⟩, fun h3 => ⟨fun h4 => ⟨by omega, same (.inl h4) h1⟩, fun h4 => ⟨fun h5 => ⟨by omega, same (.inr ?_) h1⟩, fun h5 => ⟨by omega, by omega, by omega, by omega, by omega, by omega, by omega, by omega, by omega, more a hb2.1 (by omega) h4 hJ (fun _ => by omega) h1⟩⟩⟩⟩
      · omega
      · by_cases e : (j : Int) = a
        · rw [show j = a.toNat by omega]; exact h3
        · exact hJ j (by omega)
      · rw [← h5, List.getD_eq_getElem?_getD, List.getElem?_eq_getElem (show a.toNat < L.length by omega), Option.getD_some]
        exact List.getElem_mem _
    · exact ⟨fun h4 => ⟨by omega, same (.inl h4) h1⟩, fun h4 => ⟨by omega, by omega, by omega, by omega, by omega, by omega, by omega, by omega, by omega, more a hb2.1 (by omega) h4 hJ (fun _ => by omega) h1⟩⟩
  · have e : i = n0 := by omega
    subst e
    have := addrL_eq hp hm
    subst this
    exact ⟨hn, hq.eq (by omega)⟩

theorem plain (i : Nat → Int) (v : Nat → Value) (ro : Nat → RO) (p : Program) : TT.hdP (rc.cx (cxOf 2)) (rlF ⟨i, fN, v, ro, p⟩ rc.res) tree ⟨i, fN, v, ro, p⟩ = P (i 0) (i 1) (i 2) := by kernel_rfl
theorem ran : TT.beq (projL (rc.pj (cxOf 2)) (runT us (fun _ _ => .auto) rc 2 rc.f rc.args ⟨[], []⟩)) tree = true := by kernel_rfl
theorem fineT : (TT.fine (rc.cx (cxOf 2)) 1000 [] tree && (rc.cx (cxOf 2)).okB 1000 && SV.vbL 1000 rc.args && TT.tidy (rc.cx (cxOf 2)) [] tree) = true := by kernel_rfl
theorem ok : RcOk (cxOf 2) rc :=
  rc_run (runT_ok us_ok (fun _ _ => .auto) rc 2) ran fineT okb fun ρ hρ hcap hpre => by
    obtain ⟨i, f, v, ro, p⟩ := ρ
    have hf : f = fN := hρ.hF
    subst hf
    rw [plain]
    exact holds (i 0) (i 1) (i 2) (hρ.hi 0 _ rfl).1 (hρ.hi 0 _ rfl).2 (hcap _ (List.mem_of_getElem? (i := 0) rfl))
end Go.Proofs.Ytlepjbacaffddaa.CRTAddrs
