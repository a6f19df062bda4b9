/-
  The law CoreSplits answers true at every input: the law is run by the engine (a symbolic run, proved sound), the tree of its answers, as a plain statement, is shown to hold. No condition.
-/
import Derived.Test.YtlhcaeakfbokmaaGreatDoorGab
import Derived.Test.YtlhcaeakfbokmaaGreatDoorGib
import Derived.Test.YtlhcaeakfbokmaaGreatDoorCCRun
import Derived.Test.YtlhcaeakfbokmaaGreatDoorCCRun0
import Derived.Test.YtlhcaeakfbokmaaGreatDoorCCDec
import Derived.Test.YtlhcaeakfbokmaaGreatDoorCRSame16
import Derived.Test.YtlhcaeakfbokmaaGreatDoorCRSame15
import Derived.Test.YtlhcaeakfbokmaaGreatDoorCAwake16
import Derived.Test.YtlhcaeakfbokmaaGreatDoorGmC
import Derived.WalkKit
import Derived.ProofKit
import Derived.OpenShut
import Derived.LaidMore
import Derived.Stop.Joined
import Derived.SevenTiedAt
import Derived.SizedLaws
import Derived.Lay
import Derived.Test.YtlhcaeakfbokmaaGreatDoorCards
import Derived.Test.YtlhcaeakfbokmaaGreatDoorTie
namespace Go.Proofs.YtlhcaeakfbokmaaGreatDoor.coreSplits
open Go.ChangeShapes Go.WideShapes Go.ChangeAt Go.Eng Go.RowKit
set_option linter.unusedVariables false
set_option linter.unusedSimpArgs false
set_option maxRecDepth 100000
def rc : Rc := ⟨4, [none, none, none, none], [.row [.int .u32] 140737488355328, .row [.int .i32] 140737488355328, .int .u8, .int .u8], [], .one, [.bool (.c 1)]⟩
theorem okb : rc.ok = true := by kernel_rfl
noncomputable def us : SMs := fun Γ ins n => smH (cxG n Γ ins) [CCRun.rk.rh, CCRun0.rk.rh] (smAnd 37 (libClone37 Γ ins n) (smR (cxG n Γ ins) [CCDec.rc, CRSame16.rc, CRSame15.rc, CAwake16.rc]))
theorem us_ok : SMsOk us := fun Γ ins n => smH_ok (tabsG n Γ ins) (rhs_cons CCRun.okh (rh_n CCRun.ok) (rhs_cons CCRun0.okh (rh_n CCRun0.ok) (rhs_nil _))) (smAnd_ok (libClone37_ok Γ ins n) (smR_ok (tabsG n Γ ins) (rcs_cons CCDec.okb (rc_n CCDec.ok) (rcs_cons CRSame16.okb (rc_n CRSame16.ok) (rcs_cons CRSame15.okb (rc_n CRSame15.ok) (rcs_cons CAwake16.okb (rc_n CAwake16.ok) (rcs_nil _)))))))
def tree : TT (List E) :=
(.br (.b .le .i64 (.v 0) (.c 200))
  (.br (.nt (.b .le .i64 (.v 1) (.c 2048)))
  (.leaf [(.c 1)])
  (.br (.b .lt .i64 (.c 2048) (.v 1))
  (.leaf [(.c 0)])
  (.br (.b .le .i64 (.v 1) (.c 1000000))
  (.br (.b .lt .i64 (.c 16384) (.v 0))
  (.leaf [(.c 0)])
  (.loop ⟨1000, [some (0, 4611686018427387904), none, some (0, 1000000)], [(.c 0), (.c 0), (.c 0)], 1010⟩
  (.br (.b .lt .i64 (.cl 1000 0 4611686018427387904) (.v 0))
  (.new 1004 (.f 67 (.w .u32 (.f 13 (.v 4) (.cl 1000 0 4611686018427387904) (.c 0))) (.c 0) (.c 0))
  (.new 1005 (.f 67 (.w .u32 (.f 13 (.v 4) (.cl 1000 0 4611686018427387904) (.c 0))) (.c 1) (.c 0))
  (.new 1006 (.f 67 (.w .u32 (.f 13 (.v 4) (.cl 1000 0 4611686018427387904) (.c 0))) (.c 2) (.c 0))
  (.new 1007 (.f 67 (.w .u32 (.f 13 (.v 4) (.cl 1000 0 4611686018427387904) (.c 0))) (.c 3) (.c 0))
  (.new 1008 (.f 67 (.w .u32 (.f 13 (.v 4) (.cl 1000 0 4611686018427387904) (.c 0))) (.c 4) (.c 0))
  (.new 1009 (.f 67 (.w .u32 (.f 13 (.v 4) (.cl 1000 0 4611686018427387904) (.c 0))) (.c 5) (.c 0))
  (.br (.b .le .i64 (.b .padd .i64 (.cl 1002 0 1000000) (.c 1)) (.c 1000000))
  (.br (.b .le .i64 (.b .padd .i64 (.cl 1000 0 4611686018427387904) (.c 1)) (.c 4611686018427387904))
  (.br (.b .le .i64 (.b .padd .i64 (.cl 1002 0 1000000) (.c 1)) (.c 1000000))
  (.back [(.b .padd .i64 (.cl 1000 0 4611686018427387904) (.c 1)), (.f 14 (.v 1001) (.cl 1002 0 1000000) (.f 11 (.cl 1004 (-32768) 65535) (.f 11 (.cl 1005 (-32768) 65535) (.f 11 (.cl 1006 (-32768) 65535) (.f 11 (.cl 1007 (-32768) 65535) (.f 11 (.cl 1008 (-32768) 65535) (.f 11 (.b .eq .i64 (.cl 1009 (-32768) 65535) (.c 0)) (.c 0) (.c 0)) (.c 0)) (.c 0)) (.c 0)) (.c 0)) (.c 0))), (.b .padd .i64 (.cl 1002 0 1000000) (.c 1))])
  (.bad 303))
  (.bad 303))
  (.bad 200))))))))
  (.exit 0))
  (.loop ⟨1012, [some (0, 4611686018427387904), none, some (0, 1000000)], [(.c 0), (.c 0), (.c 0)], 1022⟩
  (.br (.b .lt .i64 (.cl 1012 0 4611686018427387904) (.v 0))
  (.new 1016 (.f 67 (.w .u32 (.f 13 (.v 4) (.cl 1012 0 4611686018427387904) (.c 0))) (.c 0) (.c 0))
  (.new 1017 (.f 67 (.w .u32 (.f 13 (.v 4) (.cl 1012 0 4611686018427387904) (.c 0))) (.c 1) (.c 0))
  (.new 1018 (.f 67 (.w .u32 (.f 13 (.v 4) (.cl 1012 0 4611686018427387904) (.c 0))) (.c 2) (.c 0))
  (.new 1019 (.f 67 (.w .u32 (.f 13 (.v 4) (.cl 1012 0 4611686018427387904) (.c 0))) (.c 3) (.c 0))
  (.new 1020 (.f 67 (.w .u32 (.f 13 (.v 4) (.cl 1012 0 4611686018427387904) (.c 0))) (.c 4) (.c 0))
  (.new 1021 (.f 67 (.w .u32 (.f 13 (.v 4) (.cl 1012 0 4611686018427387904) (.c 0))) (.c 5) (.c 0))
  (.br (.b .le .i64 (.b .padd .i64 (.cl 1014 0 1000000) (.c 1)) (.c 1000000))
  (.br (.b .le .i64 (.b .padd .i64 (.cl 1012 0 4611686018427387904) (.c 1)) (.c 4611686018427387904))
  (.br (.b .le .i64 (.b .padd .i64 (.cl 1014 0 1000000) (.c 1)) (.c 1000000))
  (.back [(.b .padd .i64 (.cl 1012 0 4611686018427387904) (.c 1)), (.f 14 (.v 1013) (.cl 1014 0 1000000) (.f 11 (.cl 1016 (-32768) 65535) (.f 11 (.cl 1017 (-32768) 65535) (.f 11 (.cl 1018 (-32768) 65535) (.f 11 (.cl 1019 (-32768) 65535) (.f 11 (.cl 1020 (-32768) 65535) (.f 11 (.b .eq .i64 (.cl 1021 (-32768) 65535) (.c 0)) (.c 0) (.c 0)) (.c 0)) (.c 0)) (.c 0)) (.c 0)) (.c 0))), (.b .padd .i64 (.cl 1014 0 1000000) (.c 1))])
  (.bad 303))
  (.bad 303))
  (.bad 200))))))))
  (.exit 0))
  (.br (.b .le .i64 (.cl 1002 0 1000000) (.c 16384))
  (.br (.b .le .i64 (.v 1) (.c 2048))
  (.br (.f 68 (.v 1001) (.cl 1002 0 1000000) (.c 0))
  (.br (.f 76 (.f 73 (.v 1001) (.cl 1002 0 1000000) (.f 11 (.v 1) (.f 11 (.v 2) (.f 11 (.f 74 (.v 5) (.c 0) (.c 0)) (.c 0) (.c 0)) (.c 0)) (.c 0))) (.c 0) (.c 0))
  (.br (.b .le .i64 (.cl 1014 0 1000000) (.c 16384))
  (.br (.f 68 (.v 1013) (.cl 1014 0 1000000) (.c 0))
  (.br (.b .ne .i64 (.w .i64 (.b .padd .i64 (.w .i64 (.f 13 (.f 73 (.v 1001) (.cl 1002 0 1000000) (.f 11 (.v 1) (.f 11 (.v 2) (.f 11 (.f 74 (.v 5) (.c 0) (.c 0)) (.c 0) (.c 0)) (.c 0)) (.c 0))) (.c 7) (.c 0))) (.w .i64 (.f 13 (.f 73 (.v 1001) (.cl 1002 0 1000000) (.f 11 (.v 1) (.f 11 (.v 3) (.f 11 (.f 73 (.v 1001) (.cl 1002 0 1000000) (.f 11 (.v 1) (.f 11 (.v 2) (.f 11 (.f 74 (.v 5) (.c 0) (.c 0)) (.c 0) (.c 0)) (.c 0)) (.c 0))) (.c 0) (.c 0)) (.c 0)) (.c 0))) (.c 7) (.c 0))))) (.w .i64 (.f 13 (.f 73 (.v 1013) (.cl 1014 0 1000000) (.f 11 (.v 1) (.f 11 (.b .padd .i64 (.v 2) (.v 3)) (.f 11 (.f 74 (.v 5) (.c 0) (.c 0)) (.c 0) (.c 0)) (.c 0)) (.c 0))) (.c 7) (.c 0))))
  (.leaf [(.c 0)])
  (.new 1024 (.f 75 (.f 73 (.v 1001) (.cl 1002 0 1000000) (.f 11 (.v 1) (.f 11 (.v 3) (.f 11 (.f 73 (.v 1001) (.cl 1002 0 1000000) (.f 11 (.v 1) (.f 11 (.v 2) (.f 11 (.f 74 (.v 5) (.c 0) (.c 0)) (.c 0) (.c 0)) (.c 0)) (.c 0))) (.c 0) (.c 0)) (.c 0)) (.c 0))) (.c 0) (.c 0))
  (.new 1025 (.f 75 (.f 73 (.v 1013) (.cl 1014 0 1000000) (.f 11 (.v 1) (.f 11 (.b .padd .i64 (.v 2) (.v 3)) (.f 11 (.f 74 (.v 5) (.c 0) (.c 0)) (.c 0) (.c 0)) (.c 0)) (.c 0))) (.c 0) (.c 0))
  (.new 1026 (.ite (.b .eq .i64 (.cl 1024 0 999999) (.cl 1025 0 999999)) (.f 71 (.f 13 (.f 73 (.v 1001) (.cl 1002 0 1000000) (.f 11 (.v 1) (.f 11 (.v 3) (.f 11 (.f 73 (.v 1001) (.cl 1002 0 1000000) (.f 11 (.v 1) (.f 11 (.v 2) (.f 11 (.f 74 (.v 5) (.c 0) (.c 0)) (.c 0) (.c 0)) (.c 0)) (.c 0))) (.c 0) (.c 0)) (.c 0)) (.c 0))) (.c 5) (.c 0)) (.f 13 (.f 73 (.v 1013) (.cl 1014 0 1000000) (.f 11 (.v 1) (.f 11 (.b .padd .i64 (.v 2) (.v 3)) (.f 11 (.f 74 (.v 5) (.c 0) (.c 0)) (.c 0) (.c 0)) (.c 0)) (.c 0))) (.c 5) (.c 0)) (.cl 1024 0 999999)) (.c 0))
  (.br (.nt (.cl 1026 0 1))
  (.leaf [(.c 0)])
  (.new 1027 (.f 72 (.f 13 (.f 73 (.v 1001) (.cl 1002 0 1000000) (.f 11 (.v 1) (.f 11 (.v 3) (.f 11 (.f 73 (.v 1001) (.cl 1002 0 1000000) (.f 11 (.v 1) (.f 11 (.v 2) (.f 11 (.f 74 (.v 5) (.c 0) (.c 0)) (.c 0) (.c 0)) (.c 0)) (.c 0))) (.c 0) (.c 0)) (.c 0)) (.c 0))) (.c 1) (.c 0)) (.f 13 (.f 73 (.v 1013) (.cl 1014 0 1000000) (.f 11 (.v 1) (.f 11 (.b .padd .i64 (.v 2) (.v 3)) (.f 11 (.f 74 (.v 5) (.c 0) (.c 0)) (.c 0) (.c 0)) (.c 0)) (.c 0))) (.c 1) (.c 0)) (.v 1))
  (.br (.nt (.cl 1027 0 1))
  (.leaf [(.c 0)])
  (.br (.b .ne .i64 (.w .i64 (.f 13 (.f 73 (.v 1001) (.cl 1002 0 1000000) (.f 11 (.v 1) (.f 11 (.v 3) (.f 11 (.f 73 (.v 1001) (.cl 1002 0 1000000) (.f 11 (.v 1) (.f 11 (.v 2) (.f 11 (.f 74 (.v 5) (.c 0) (.c 0)) (.c 0) (.c 0)) (.c 0)) (.c 0))) (.c 0) (.c 0)) (.c 0)) (.c 0))) (.c 3) (.c 0))) (.w .i64 (.f 13 (.f 73 (.v 1013) (.cl 1014 0 1000000) (.f 11 (.v 1) (.f 11 (.b .padd .i64 (.v 2) (.v 3)) (.f 11 (.f 74 (.v 5) (.c 0) (.c 0)) (.c 0) (.c 0)) (.c 0)) (.c 0))) (.c 3) (.c 0))))
  (.leaf [(.c 0)])
  (.br (.b .ne .i64 (.w .i64 (.f 13 (.f 73 (.v 1001) (.cl 1002 0 1000000) (.f 11 (.v 1) (.f 11 (.v 3) (.f 11 (.f 73 (.v 1001) (.cl 1002 0 1000000) (.f 11 (.v 1) (.f 11 (.v 2) (.f 11 (.f 74 (.v 5) (.c 0) (.c 0)) (.c 0) (.c 0)) (.c 0)) (.c 0))) (.c 0) (.c 0)) (.c 0)) (.c 0))) (.c 2) (.c 0))) (.w .i64 (.f 13 (.f 73 (.v 1013) (.cl 1014 0 1000000) (.f 11 (.v 1) (.f 11 (.b .padd .i64 (.v 2) (.v 3)) (.f 11 (.f 74 (.v 5) (.c 0) (.c 0)) (.c 0) (.c 0)) (.c 0)) (.c 0))) (.c 2) (.c 0))))
  (.leaf [(.c 0)])
  (.loop ⟨1028, [some (0, 4611686018427387904), none], [(.c 0), (.f 13 (.f 73 (.v 1001) (.cl 1002 0 1000000) (.f 11 (.v 1) (.f 11 (.v 3) (.f 11 (.f 73 (.v 1001) (.cl 1002 0 1000000) (.f 11 (.v 1) (.f 11 (.v 2) (.f 11 (.f 74 (.v 5) (.c 0) (.c 0)) (.c 0) (.c 0)) (.c 0)) (.c 0))) (.c 0) (.c 0)) (.c 0)) (.c 0))) (.c 1) (.c 0))], 1031⟩
  (.br (.b .lt .i64 (.cl 1028 0 4611686018427387904) (.v 1))
  (.br (.b .lt .i64 (.cl 1028 0 4611686018427387904) (.c 2048))
  (.br (.b .lt .i64 (.w .i32 (.cl 1028 0 4611686018427387904)) (.c 0))
  (.exit 0)
  (.br (.b .le .i64 (.v 1) (.w .i32 (.cl 1028 0 4611686018427387904)))
  (.exit 1)
  (.br (.b .le .i64 (.c 0) (.w .i32 (.cl 1028 0 4611686018427387904)))
  (.br (.b .lt .i64 (.w .i32 (.cl 1028 0 4611686018427387904)) (.v 1))
  (.br (.b .le .i64 (.b .padd .i64 (.cl 1028 0 4611686018427387904) (.c 1)) (.c 4611686018427387904))
  (.back [(.b .padd .i64 (.cl 1028 0 4611686018427387904) (.c 1)), (.f 14 (.v 1029) (.w .i32 (.cl 1028 0 4611686018427387904)) (.w .i32 (.f 13 (.v 5) (.cl 1028 0 4611686018427387904) (.c 0))))])
  (.bad 303))
  (.bad 200))
  (.bad 200))))
  (.exit 2))
  (.exit 3))
  (.br (.b .eq .i64 (.v 1031) (.c 0))
  (.leaf [(.c 0)])
  (.br (.b .eq .i64 (.v 1031) (.c 1))
  (.leaf [(.c 0)])
  (.br (.b .eq .i64 (.v 1031) (.c 2))
  (.leaf [(.c 0)])
  (.br (.b .eq .i64 (.w .i64 (.f 13 (.f 73 (.v 1001) (.cl 1002 0 1000000) (.f 11 (.v 1) (.f 11 (.b .padd .i64 (.v 2) (.v 3)) (.f 11 (.f 74 (.v 1029) (.c 0) (.c 0)) (.c 0) (.c 0)) (.c 0)) (.c 0))) (.c 7) (.c 0))) (.w .i64 (.f 13 (.f 73 (.v 1013) (.cl 1014 0 1000000) (.f 11 (.v 1) (.f 11 (.b .padd .i64 (.v 2) (.v 3)) (.f 11 (.f 74 (.v 5) (.c 0) (.c 0)) (.c 0) (.c 0)) (.c 0)) (.c 0))) (.c 7) (.c 0))))
  (.new 1033 (.f 75 (.f 73 (.v 1001) (.cl 1002 0 1000000) (.f 11 (.v 1) (.f 11 (.b .padd .i64 (.v 2) (.v 3)) (.f 11 (.f 74 (.v 1029) (.c 0) (.c 0)) (.c 0) (.c 0)) (.c 0)) (.c 0))) (.c 0) (.c 0))
  (.new 1034 (.ite (.b .eq .i64 (.cl 1033 0 999999) (.cl 1024 0 999999)) (.f 71 (.f 13 (.f 73 (.v 1001) (.cl 1002 0 1000000) (.f 11 (.v 1) (.f 11 (.b .padd .i64 (.v 2) (.v 3)) (.f 11 (.f 74 (.v 1029) (.c 0) (.c 0)) (.c 0) (.c 0)) (.c 0)) (.c 0))) (.c 5) (.c 0)) (.f 13 (.f 73 (.v 1001) (.cl 1002 0 1000000) (.f 11 (.v 1) (.f 11 (.v 3) (.f 11 (.f 73 (.v 1001) (.cl 1002 0 1000000) (.f 11 (.v 1) (.f 11 (.v 2) (.f 11 (.f 74 (.v 5) (.c 0) (.c 0)) (.c 0) (.c 0)) (.c 0)) (.c 0))) (.c 0) (.c 0)) (.c 0)) (.c 0))) (.c 5) (.c 0)) (.cl 1033 0 999999)) (.c 0))
  (.br (.cl 1034 0 1)
  (.leaf [(.c 1)])
  (.leaf [(.c 0)]))))
  (.leaf [(.c 0)])))))))))))))))
  (.bad 200))
  (.bad 200))
  (.bad 200))
  (.bad 200))
  (.bad 200))
  (.bad 200)))))
  (.bad 200))))
  (.leaf [(.c 1)]))

def P (n0 n1 p2 p3 c0 c1 r0 r1 : Int) : Prop :=
 (((bool01 (decide (n0 ≤ 200))) ≠ 0 →
  (((bool01 ((bool01 (decide (n1 ≤ 2048))) == 0)) ≠ 0 →
   ((1 : Int) ≠ 0 ↔ (1 : Int) ≠ 0) ∧ True) ∧ ((bool01 ((bool01 (decide (n1 ≤ 2048))) == 0)) = 0 →
   (((bool01 (decide (2048 < n1))) ≠ 0 →
    ((0 : Int) ≠ 0 ↔ (1 : Int) ≠ 0) ∧ True) ∧ ((bool01 (decide (2048 < n1))) = 0 →
    (((bool01 (decide (n1 ≤ 1000000))) ≠ 0 →
     (((bool01 (decide (16384 < n0))) ≠ 0 →
      ((0 : Int) ≠ 0 ↔ (1 : Int) ≠ 0) ∧ True) ∧ ((bool01 (decide (16384 < n0))) = 0 →
      ∃ I1000 : Int → Int → Int → Nat → Prop, (∃ m, I1000 0 0 0 m) ∧
      ∀ y1000 y1001 y1002 : Int, ∀ m1000, ((0 ≤ y1000 ∧ y1000 ≤ 4611686018427387904) ∧ True ∧ (0 ≤ y1002 ∧ y1002 ≤ 1000000) ∧ True) → I1000 y1000 y1001 y1002 m1000 →
       (((bool01 (decide (y1000 < n0))) ≠ 0 →
        ∀ y1004 : Int, y1004 = (decZ (IntKind.wrap .u32 (rdZ c0 y1000)) 0) → ((-32768) ≤ y1004 ∧ y1004 ≤ 65535) →
        ∀ y1005 : Int, y1005 = (decZ (IntKind.wrap .u32 (rdZ c0 y1000)) 1) → ((-32768) ≤ y1005 ∧ y1005 ≤ 65535) →
        ∀ y1006 : Int, y1006 = (decZ (IntKind.wrap .u32 (rdZ c0 y1000)) 2) → ((-32768) ≤ y1006 ∧ y1006 ≤ 65535) →
        ∀ y1007 : Int, y1007 = (decZ (IntKind.wrap .u32 (rdZ c0 y1000)) 3) → ((-32768) ≤ y1007 ∧ y1007 ≤ 65535) →
        ∀ y1008 : Int, y1008 = (decZ (IntKind.wrap .u32 (rdZ c0 y1000)) 4) → ((-32768) ≤ y1008 ∧ y1008 ≤ 65535) →
        ∀ y1009 : Int, y1009 = (decZ (IntKind.wrap .u32 (rdZ c0 y1000)) 5) → ((-32768) ≤ y1009 ∧ y1009 ≤ 65535) →
        (((bool01 (decide ((y1002 + 1) ≤ 1000000))) ≠ 0 →
         (((bool01 (decide ((y1000 + 1) ≤ 4611686018427387904))) ≠ 0 →
          (((bool01 (decide ((y1002 + 1) ≤ 1000000))) ≠ 0 →
           ∃ m', m' < m1000 ∧ I1000 (y1000 + 1) (updZ y1001 y1002 (consZ y1004 (consZ y1005 (consZ y1006 (consZ y1007 (consZ y1008 (consZ (bool01 (y1009 == 0)) 0))))))) (y1002 + 1) m') ∧ ((bool01 (decide ((y1002 + 1) ≤ 1000000))) = 0 →
           False))) ∧ ((bool01 (decide ((y1000 + 1) ≤ 4611686018427387904))) = 0 →
          False))) ∧ ((bool01 (decide ((y1002 + 1) ≤ 1000000))) = 0 →
         False))) ∧ ((bool01 (decide (y1000 < n0))) = 0 →
        ∃ I1012 : Int → Int → Int → Nat → Prop, (∃ m, I1012 0 0 0 m) ∧
        ∀ y1012 y1013 y1014 : Int, ∀ m1012, ((0 ≤ y1012 ∧ y1012 ≤ 4611686018427387904) ∧ True ∧ (0 ≤ y1014 ∧ y1014 ≤ 1000000) ∧ True) → I1012 y1012 y1013 y1014 m1012 →
         (((bool01 (decide (y1012 < n0))) ≠ 0 →
          ∀ y1016 : Int, y1016 = (decZ (IntKind.wrap .u32 (rdZ c0 y1012)) 0) → ((-32768) ≤ y1016 ∧ y1016 ≤ 65535) →
          ∀ y1017 : Int, y1017 = (decZ (IntKind.wrap .u32 (rdZ c0 y1012)) 1) → ((-32768) ≤ y1017 ∧ y1017 ≤ 65535) →
          ∀ y1018 : Int, y1018 = (decZ (IntKind.wrap .u32 (rdZ c0 y1012)) 2) → ((-32768) ≤ y1018 ∧ y1018 ≤ 65535) →
          ∀ y1019 : Int, y1019 = (decZ (IntKind.wrap .u32 (rdZ c0 y1012)) 3) → ((-32768) ≤ y1019 ∧ y1019 ≤ 65535) →
          ∀ y1020 : Int, y1020 = (decZ (IntKind.wrap .u32 (rdZ c0 y1012)) 4) → ((-32768) ≤ y1020 ∧ y1020 ≤ 65535) →
          ∀ y1021 : Int, y1021 = (decZ (IntKind.wrap .u32 (rdZ c0 y1012)) 5) → ((-32768) ≤ y1021 ∧ y1021 ≤ 65535) →
          (((bool01 (decide ((y1014 + 1) ≤ 1000000))) ≠ 0 →
           (((bool01 (decide ((y1012 + 1) ≤ 4611686018427387904))) ≠ 0 →
            (((bool01 (decide ((y1014 + 1) ≤ 1000000))) ≠ 0 →
             ∃ m', m' < m1012 ∧ I1012 (y1012 + 1) (updZ y1013 y1014 (consZ y1016 (consZ y1017 (consZ y1018 (consZ y1019 (consZ y1020 (consZ (bool01 (y1021 == 0)) 0))))))) (y1014 + 1) m') ∧ ((bool01 (decide ((y1014 + 1) ≤ 1000000))) = 0 →
             False))) ∧ ((bool01 (decide ((y1012 + 1) ≤ 4611686018427387904))) = 0 →
            False))) ∧ ((bool01 (decide ((y1014 + 1) ≤ 1000000))) = 0 →
           False))) ∧ ((bool01 (decide (y1012 < n0))) = 0 →
          (((bool01 (decide (y1002 ≤ 16384))) ≠ 0 →
           (((bool01 (decide (n1 ≤ 2048))) ≠ 0 →
            (((okC y1001 y1002) ≠ 0 →
             (((fewM (runP y1001 y1002 (consZ n1 (consZ p2 (consZ (nuP c1) 0))))) ≠ 0 →
              (((bool01 (decide (y1014 ≤ 16384))) ≠ 0 →
               (((okC y1013 y1014) ≠ 0 →
                (((bool01 ((IntKind.wrap .i64 ((IntKind.wrap .i64 (rdZ (runP y1001 y1002 (consZ n1 (consZ p2 (consZ (nuP c1) 0)))) 7)) + (IntKind.wrap .i64 (rdZ (runP y1001 y1002 (consZ n1 (consZ p3 (consZ (runP y1001 y1002 (consZ n1 (consZ p2 (consZ (nuP c1) 0)))) 0)))) 7)))) != (IntKind.wrap .i64 (rdZ (runP y1013 y1014 (consZ n1 (consZ (p2 + p3) (consZ (nuP c1) 0)))) 7)))) ≠ 0 →
                 ((0 : Int) ≠ 0 ↔ (1 : Int) ≠ 0) ∧ True) ∧ ((bool01 ((IntKind.wrap .i64 ((IntKind.wrap .i64 (rdZ (runP y1001 y1002 (consZ n1 (consZ p2 (consZ (nuP c1) 0)))) 7)) + (IntKind.wrap .i64 (rdZ (runP y1001 y1002 (consZ n1 (consZ p3 (consZ (runP y1001 y1002 (consZ n1 (consZ p2 (consZ (nuP c1) 0)))) 0)))) 7)))) != (IntKind.wrap .i64 (rdZ (runP y1013 y1014 (consZ n1 (consZ (p2 + p3) (consZ (nuP c1) 0)))) 7)))) = 0 →
                 ∀ y1024 : Int, y1024 = (mkN (runP y1001 y1002 (consZ n1 (consZ p3 (consZ (runP y1001 y1002 (consZ n1 (consZ p2 (consZ (nuP c1) 0)))) 0))))) → (0 ≤ y1024 ∧ y1024 ≤ 999999) →
                 ∀ y1025 : Int, y1025 = (mkN (runP y1013 y1014 (consZ n1 (consZ (p2 + p3) (consZ (nuP c1) 0))))) → (0 ≤ y1025 ∧ y1025 ≤ 999999) →
                 ∀ y1026 : Int, y1026 = (iteZ (bool01 (y1024 == y1025)) (sameM (rdZ (runP y1001 y1002 (consZ n1 (consZ p3 (consZ (runP y1001 y1002 (consZ n1 (consZ p2 (consZ (nuP c1) 0)))) 0)))) 5) (rdZ (runP y1013 y1014 (consZ n1 (consZ (p2 + p3) (consZ (nuP c1) 0)))) 5) y1024) 0) → (0 ≤ y1026 ∧ y1026 ≤ 1) →
                 (((bool01 (y1026 == 0)) ≠ 0 →
                  ((0 : Int) ≠ 0 ↔ (1 : Int) ≠ 0) ∧ True) ∧ ((bool01 (y1026 == 0)) = 0 →
                  ∀ y1027 : Int, y1027 = (sameW (rdZ (runP y1001 y1002 (consZ n1 (consZ p3 (consZ (runP y1001 y1002 (consZ n1 (consZ p2 (consZ (nuP c1) 0)))) 0)))) 1) (rdZ (runP y1013 y1014 (consZ n1 (consZ (p2 + p3) (consZ (nuP c1) 0)))) 1) n1) → (0 ≤ y1027 ∧ y1027 ≤ 1) →
                  (((bool01 (y1027 == 0)) ≠ 0 →
                   ((0 : Int) ≠ 0 ↔ (1 : Int) ≠ 0) ∧ True) ∧ ((bool01 (y1027 == 0)) = 0 →
                   (((bool01 ((IntKind.wrap .i64 (rdZ (runP y1001 y1002 (consZ n1 (consZ p3 (consZ (runP y1001 y1002 (consZ n1 (consZ p2 (consZ (nuP c1) 0)))) 0)))) 3)) != (IntKind.wrap .i64 (rdZ (runP y1013 y1014 (consZ n1 (consZ (p2 + p3) (consZ (nuP c1) 0)))) 3)))) ≠ 0 →
                    ((0 : Int) ≠ 0 ↔ (1 : Int) ≠ 0) ∧ True) ∧ ((bool01 ((IntKind.wrap .i64 (rdZ (runP y1001 y1002 (consZ n1 (consZ p3 (consZ (runP y1001 y1002 (consZ n1 (consZ p2 (consZ (nuP c1) 0)))) 0)))) 3)) != (IntKind.wrap .i64 (rdZ (runP y1013 y1014 (consZ n1 (consZ (p2 + p3) (consZ (nuP c1) 0)))) 3)))) = 0 →
                    (((bool01 ((IntKind.wrap .i64 (rdZ (runP y1001 y1002 (consZ n1 (consZ p3 (consZ (runP y1001 y1002 (consZ n1 (consZ p2 (consZ (nuP c1) 0)))) 0)))) 2)) != (IntKind.wrap .i64 (rdZ (runP y1013 y1014 (consZ n1 (consZ (p2 + p3) (consZ (nuP c1) 0)))) 2)))) ≠ 0 →
                     ((0 : Int) ≠ 0 ↔ (1 : Int) ≠ 0) ∧ True) ∧ ((bool01 ((IntKind.wrap .i64 (rdZ (runP y1001 y1002 (consZ n1 (consZ p3 (consZ (runP y1001 y1002 (consZ n1 (consZ p2 (consZ (nuP c1) 0)))) 0)))) 2)) != (IntKind.wrap .i64 (rdZ (runP y1013 y1014 (consZ n1 (consZ (p2 + p3) (consZ (nuP c1) 0)))) 2)))) = 0 →
                     ∃ I1028 : Int → Int → Nat → Prop, (∃ m, I1028 0 (rdZ (runP y1001 y1002 (consZ n1 (consZ p3 (consZ (runP y1001 y1002 (consZ n1 (consZ p2 (consZ (nuP c1) 0)))) 0)))) 1) m) ∧
                     ∀ y1028 y1029 : Int, ∀ m1028, ((0 ≤ y1028 ∧ y1028 ≤ 4611686018427387904) ∧ True ∧ True) → I1028 y1028 y1029 m1028 →
                      (((bool01 (decide (y1028 < n1))) ≠ 0 →
                       (((bool01 (decide (y1028 < 2048))) ≠ 0 →
                        (((bool01 (decide ((IntKind.wrap .i32 y1028) < 0))) ≠ 0 →
                         (((bool01 ((0 : Int) == 0)) ≠ 0 →
                          ((0 : Int) ≠ 0 ↔ (1 : Int) ≠ 0) ∧ True) ∧ ((bool01 ((0 : Int) == 0)) = 0 →
                          (((bool01 ((0 : Int) == 1)) ≠ 0 →
                           ((0 : Int) ≠ 0 ↔ (1 : Int) ≠ 0) ∧ True) ∧ ((bool01 ((0 : Int) == 1)) = 0 →
                           (((bool01 ((0 : Int) == 2)) ≠ 0 →
                            ((0 : Int) ≠ 0 ↔ (1 : Int) ≠ 0) ∧ True) ∧ ((bool01 ((0 : Int) == 2)) = 0 →
                            (((bool01 ((IntKind.wrap .i64 (rdZ (runP y1001 y1002 (consZ n1 (consZ (p2 + p3) (consZ (nuP y1029) 0)))) 7)) == (IntKind.wrap .i64 (rdZ (runP y1013 y1014 (consZ n1 (consZ (p2 + p3) (consZ (nuP c1) 0)))) 7)))) ≠ 0 →
                             ∀ y1033 : Int, y1033 = (mkN (runP y1001 y1002 (consZ n1 (consZ (p2 + p3) (consZ (nuP y1029) 0))))) → (0 ≤ y1033 ∧ y1033 ≤ 999999) →
                             ∀ y1034 : Int, y1034 = (iteZ (bool01 (y1033 == y1024)) (sameM (rdZ (runP y1001 y1002 (consZ n1 (consZ (p2 + p3) (consZ (nuP y1029) 0)))) 5) (rdZ (runP y1001 y1002 (consZ n1 (consZ p3 (consZ (runP y1001 y1002 (consZ n1 (consZ p2 (consZ (nuP c1) 0)))) 0)))) 5) y1033) 0) → (0 ≤ y1034 ∧ y1034 ≤ 1) →
                             ((y1034 ≠ 0 →
                              ((1 : Int) ≠ 0 ↔ (1 : Int) ≠ 0) ∧ True) ∧ (y1034 = 0 →
                              ((0 : Int) ≠ 0 ↔ (1 : Int) ≠ 0) ∧ True))) ∧ ((bool01 ((IntKind.wrap .i64 (rdZ (runP y1001 y1002 (consZ n1 (consZ (p2 + p3) (consZ (nuP y1029) 0)))) 7)) == (IntKind.wrap .i64 (rdZ (runP y1013 y1014 (consZ n1 (consZ (p2 + p3) (consZ (nuP c1) 0)))) 7)))) = 0 →
                             ((0 : Int) ≠ 0 ↔ (1 : Int) ≠ 0) ∧ True))))))))) ∧ ((bool01 (decide ((IntKind.wrap .i32 y1028) < 0))) = 0 →
                         (((bool01 (decide (n1 ≤ (IntKind.wrap .i32 y1028)))) ≠ 0 →
                          (((bool01 ((1 : Int) == 0)) ≠ 0 →
                           ((0 : Int) ≠ 0 ↔ (1 : Int) ≠ 0) ∧ True) ∧ ((bool01 ((1 : Int) == 0)) = 0 →
                           (((bool01 ((1 : Int) == 1)) ≠ 0 →
                            ((0 : Int) ≠ 0 ↔ (1 : Int) ≠ 0) ∧ True) ∧ ((bool01 ((1 : Int) == 1)) = 0 →
                            (((bool01 ((1 : Int) == 2)) ≠ 0 →
                             ((0 : Int) ≠ 0 ↔ (1 : Int) ≠ 0) ∧ True) ∧ ((bool01 ((1 : Int) == 2)) = 0 →
                             (((bool01 ((IntKind.wrap .i64 (rdZ (runP y1001 y1002 (consZ n1 (consZ (p2 + p3) (consZ (nuP y1029) 0)))) 7)) == (IntKind.wrap .i64 (rdZ (runP y1013 y1014 (consZ n1 (consZ (p2 + p3) (consZ (nuP c1) 0)))) 7)))) ≠ 0 →
                              ∀ y1033 : Int, y1033 = (mkN (runP y1001 y1002 (consZ n1 (consZ (p2 + p3) (consZ (nuP y1029) 0))))) → (0 ≤ y1033 ∧ y1033 ≤ 999999) →
                              ∀ y1034 : Int, y1034 = (iteZ (bool01 (y1033 == y1024)) (sameM (rdZ (runP y1001 y1002 (consZ n1 (consZ (p2 + p3) (consZ (nuP y1029) 0)))) 5) (rdZ (runP y1001 y1002 (consZ n1 (consZ p3 (consZ (runP y1001 y1002 (consZ n1 (consZ p2 (consZ (nuP c1) 0)))) 0)))) 5) y1033) 0) → (0 ≤ y1034 ∧ y1034 ≤ 1) →
                              ((y1034 ≠ 0 →
                               ((1 : Int) ≠ 0 ↔ (1 : Int) ≠ 0) ∧ True) ∧ (y1034 = 0 →
                               ((0 : Int) ≠ 0 ↔ (1 : Int) ≠ 0) ∧ True))) ∧ ((bool01 ((IntKind.wrap .i64 (rdZ (runP y1001 y1002 (consZ n1 (consZ (p2 + p3) (consZ (nuP y1029) 0)))) 7)) == (IntKind.wrap .i64 (rdZ (runP y1013 y1014 (consZ n1 (consZ (p2 + p3) (consZ (nuP c1) 0)))) 7)))) = 0 →
                              ((0 : Int) ≠ 0 ↔ (1 : Int) ≠ 0) ∧ True))))))))) ∧ ((bool01 (decide (n1 ≤ (IntKind.wrap .i32 y1028)))) = 0 →
                          (((bool01 (decide (0 ≤ (IntKind.wrap .i32 y1028)))) ≠ 0 →
                           (((bool01 (decide ((IntKind.wrap .i32 y1028) < n1))) ≠ 0 →
                            (((bool01 (decide ((y1028 + 1) ≤ 4611686018427387904))) ≠ 0 →
                             ∃ m', m' < m1028 ∧ I1028 (y1028 + 1) (updZ y1029 (IntKind.wrap .i32 y1028) (IntKind.wrap .i32 (rdZ c1 y1028))) m') ∧ ((bool01 (decide ((y1028 + 1) ≤ 4611686018427387904))) = 0 →
                             False))) ∧ ((bool01 (decide ((IntKind.wrap .i32 y1028) < n1))) = 0 →
                            False))) ∧ ((bool01 (decide (0 ≤ (IntKind.wrap .i32 y1028)))) = 0 →
                           False))))))) ∧ ((bool01 (decide (y1028 < 2048))) = 0 →
                        (((bool01 ((2 : Int) == 0)) ≠ 0 →
                         ((0 : Int) ≠ 0 ↔ (1 : Int) ≠ 0) ∧ True) ∧ ((bool01 ((2 : Int) == 0)) = 0 →
                         (((bool01 ((2 : Int) == 1)) ≠ 0 →
                          ((0 : Int) ≠ 0 ↔ (1 : Int) ≠ 0) ∧ True) ∧ ((bool01 ((2 : Int) == 1)) = 0 →
                          (((bool01 ((2 : Int) == 2)) ≠ 0 →
                           ((0 : Int) ≠ 0 ↔ (1 : Int) ≠ 0) ∧ True) ∧ ((bool01 ((2 : Int) == 2)) = 0 →
                           (((bool01 ((IntKind.wrap .i64 (rdZ (runP y1001 y1002 (consZ n1 (consZ (p2 + p3) (consZ (nuP y1029) 0)))) 7)) == (IntKind.wrap .i64 (rdZ (runP y1013 y1014 (consZ n1 (consZ (p2 + p3) (consZ (nuP c1) 0)))) 7)))) ≠ 0 →
                            ∀ y1033 : Int, y1033 = (mkN (runP y1001 y1002 (consZ n1 (consZ (p2 + p3) (consZ (nuP y1029) 0))))) → (0 ≤ y1033 ∧ y1033 ≤ 999999) →
                            ∀ y1034 : Int, y1034 = (iteZ (bool01 (y1033 == y1024)) (sameM (rdZ (runP y1001 y1002 (consZ n1 (consZ (p2 + p3) (consZ (nuP y1029) 0)))) 5) (rdZ (runP y1001 y1002 (consZ n1 (consZ p3 (consZ (runP y1001 y1002 (consZ n1 (consZ p2 (consZ (nuP c1) 0)))) 0)))) 5) y1033) 0) → (0 ≤ y1034 ∧ y1034 ≤ 1) →
                            ((y1034 ≠ 0 →
                             ((1 : Int) ≠ 0 ↔ (1 : Int) ≠ 0) ∧ True) ∧ (y1034 = 0 →
                             ((0 : Int) ≠ 0 ↔ (1 : Int) ≠ 0) ∧ True))) ∧ ((bool01 ((IntKind.wrap .i64 (rdZ (runP y1001 y1002 (consZ n1 (consZ (p2 + p3) (consZ (nuP y1029) 0)))) 7)) == (IntKind.wrap .i64 (rdZ (runP y1013 y1014 (consZ n1 (consZ (p2 + p3) (consZ (nuP c1) 0)))) 7)))) = 0 →
                            ((0 : Int) ≠ 0 ↔ (1 : Int) ≠ 0) ∧ True))))))))))) ∧ ((bool01 (decide (y1028 < n1))) = 0 →
                       (((bool01 ((3 : Int) == 0)) ≠ 0 →
                        ((0 : Int) ≠ 0 ↔ (1 : Int) ≠ 0) ∧ True) ∧ ((bool01 ((3 : Int) == 0)) = 0 →
                        (((bool01 ((3 : Int) == 1)) ≠ 0 →
                         ((0 : Int) ≠ 0 ↔ (1 : Int) ≠ 0) ∧ True) ∧ ((bool01 ((3 : Int) == 1)) = 0 →
                         (((bool01 ((3 : Int) == 2)) ≠ 0 →
                          ((0 : Int) ≠ 0 ↔ (1 : Int) ≠ 0) ∧ True) ∧ ((bool01 ((3 : Int) == 2)) = 0 →
                          (((bool01 ((IntKind.wrap .i64 (rdZ (runP y1001 y1002 (consZ n1 (consZ (p2 + p3) (consZ (nuP y1029) 0)))) 7)) == (IntKind.wrap .i64 (rdZ (runP y1013 y1014 (consZ n1 (consZ (p2 + p3) (consZ (nuP c1) 0)))) 7)))) ≠ 0 →
                           ∀ y1033 : Int, y1033 = (mkN (runP y1001 y1002 (consZ n1 (consZ (p2 + p3) (consZ (nuP y1029) 0))))) → (0 ≤ y1033 ∧ y1033 ≤ 999999) →
                           ∀ y1034 : Int, y1034 = (iteZ (bool01 (y1033 == y1024)) (sameM (rdZ (runP y1001 y1002 (consZ n1 (consZ (p2 + p3) (consZ (nuP y1029) 0)))) 5) (rdZ (runP y1001 y1002 (consZ n1 (consZ p3 (consZ (runP y1001 y1002 (consZ n1 (consZ p2 (consZ (nuP c1) 0)))) 0)))) 5) y1033) 0) → (0 ≤ y1034 ∧ y1034 ≤ 1) →
                           ((y1034 ≠ 0 →
                            ((1 : Int) ≠ 0 ↔ (1 : Int) ≠ 0) ∧ True) ∧ (y1034 = 0 →
                            ((0 : Int) ≠ 0 ↔ (1 : Int) ≠ 0) ∧ True))) ∧ ((bool01 ((IntKind.wrap .i64 (rdZ (runP y1001 y1002 (consZ n1 (consZ (p2 + p3) (consZ (nuP y1029) 0)))) 7)) == (IntKind.wrap .i64 (rdZ (runP y1013 y1014 (consZ n1 (consZ (p2 + p3) (consZ (nuP c1) 0)))) 7)))) = 0 →
                           ((0 : Int) ≠ 0 ↔ (1 : Int) ≠ 0) ∧ True))))))))))))))))))))) ∧ ((okC y1013 y1014) = 0 →
                False))) ∧ ((bool01 (decide (y1014 ≤ 16384))) = 0 →
               False))) ∧ ((fewM (runP y1001 y1002 (consZ n1 (consZ p2 (consZ (nuP c1) 0))))) = 0 →
              False))) ∧ ((okC y1001 y1002) = 0 →
             False))) ∧ ((bool01 (decide (n1 ≤ 2048))) = 0 →
            False))) ∧ ((bool01 (decide (y1002 ≤ 16384))) = 0 →
           False))))))))) ∧ ((bool01 (decide (n1 ≤ 1000000))) = 0 →
     False))))))) ∧ ((bool01 (decide (n0 ≤ 200))) = 0 →
  ((1 : Int) ≠ 0 ↔ (1 : Int) ≠ 0) ∧ True))

set_option maxHeartbeats 4000000 in
theorem holds (n0 n1 p2 p3 c0 c1 r0 r1 : Int) (l_n0 : 0 ≤ n0) (u_n0 : n0 ≤ 140737488355328) (l_n1 : 0 ≤ n1) (u_n1 : n1 ≤ 140737488355328) (l_p2 : 0 ≤ p2) (u_p2 : p2 ≤ 255) (l_p3 : 0 ≤ p3) (u_p3 : p3 ≤ 255) (h_n0 : n0 ≤ r0) (h_n1 : n1 ≤ r1) : P n0 n1 p2 p3 c0 c1 r0 r1 := by
  unfold P
  simp only [b01_eq, decide_eq_true_eq, decide_eq_false_iff_not, beq_iff_eq, beq_eq_false_iff_ne, bne_iff_ne, bne_eq_false_iff_eq, Int.not_le, Int.not_lt, true_and, and_true, iteZ_ne, ne_eq, Bool.not_eq_false, Bool.not_eq_true, not_true_eq_false, not_false_eq_true, Decidable.not_not, forall_const, false_implies, true_iff, iff_true, false_iff, iff_false, Int.reduceEq, Int.reduceNeg, eq_self, if_true, if_false, reduceIte, ob_le, ob_lt, ob_p, ob_n]
  refine ⟨fun g1 => ⟨fun _ => trivial, fun g2 => ⟨fun _ => by omega, fun g3 => ⟨by omega, fun _ => by omega, fun g4 => ?_⟩⟩⟩, fun _ => trivial⟩
  refine ⟨fun i q n m => ∃ k : Nat, i = k ∧ q = decC c0 k ∧ n = k ∧ i ≤ n0 ∧ m = (n0 - i).toNat, ⟨_, 0, rfl, rfl, rfl, l_n0, rfl⟩, fun i q n m hb hI => ?_⟩
  obtain ⟨k, rfl, rfl, rfl, hi, rfl⟩ := hI
  refine ⟨fun h1 => ?_, fun h1 => ?_⟩
  · rintro _ rfl _ _ rfl _ _ rfl _ _ rfl _ _ rfl _ _ rfl _
    exact ⟨by omega, by omega, by omega, _, by omega, k + 1, by omega, rfl, by omega, by omega, rfl⟩
  refine ⟨fun i q n m => ∃ k : Nat, i = k ∧ q = decC c0 k ∧ n = k ∧ i ≤ n0 ∧ m = (n0 - i).toNat, ⟨_, 0, rfl, rfl, rfl, l_n0, rfl⟩, fun i q n m hb2 hI => ?_⟩
  obtain ⟨j, rfl, rfl, rfl, hj, rfl⟩ := hI
  refine ⟨fun h2 => ?_, fun h2 => ?_⟩
  · rintro _ rfl _ _ rfl _ _ rfl _ _ rfl _ _ rfl _ _ rfl _
    exact ⟨by omega, by omega, by omega, _, by omega, j + 1, by omega, rfl, by omega, by omega, rfl⟩
  have hkj : j = k := by omega
  subst hkj
  have hok := okC_dec c0 j
  have m0 := macM_ok (nuP c1)
  have mn : (macM (nuP c1)).nm = 0 := by rw [macM_nu]
  obtain ⟨a1, a2, a3, a4⟩ := runs_ok m0 (decC c0 j) j n1 p2.toNat
  have hs := runs_add (decC c0 j) j n1 p2.toNat (macM (nuP c1)) p3.toNat
  have ea := runP_code (decC c0 j) j n1 p2 (nuP c1)
  generalize hA : Mac.runs (decC c0 j) j n1 p2.toNat (macM (nuP c1)) = A at *
  obtain ⟨b1, b2, b3, b4⟩ := runs_ok a1 (decC c0 j) j n1 p3.toNat
  have eb := runP_code (decC c0 j) j n1 p3 (codeM A.1 A.2)
  rw [macM_code a1 (by omega)] at eb
  generalize hB : Mac.runs (decC c0 j) j n1 p3.toNat A.1 = B at *
  have ec := runP_code (decC c0 j) j n1 (p2 + p3) (nuP c1)
  have et : (p2 + p3).toNat = p2.toNat + p3.toNat := by omega
  rw [et, hs] at ec
  simp only at ec
  obtain ⟨q0, q1, q2, q3, q4, q5, q6, q7⟩ := codeM_rd A.1 A.2
  obtain ⟨r0, r1, r2, r3, r4, r5, r6, r7⟩ := codeM_rd B.1 B.2
  obtain ⟨s0, s1, s2, s3, s4, s5, s6, s7⟩ := codeM_rd B.1 ((A.2 + B.2 : Nat) : Int)
  have nb := mkN_code b1 (by omega) B.2
  have nc' := mkN_code b1 (by omega) ((A.2 + B.2 : Nat) : Int)
  have na := mkN_code a1 (by omega) A.2
  have fa : fewM (codeM A.1 A.2) ≠ 0 := by unfold fewM; rw [na, if_pos (by omega)]; decide
  simp only [ea, eb, ec, q0, q1, q2, q3, q4, q5, q6, q7, r0, r1, r2, r3, r4, r5, r6, r7, s0, s1, s2, s3, s4, s5, s6, s7, nb, nc', sameM_refl, sameW_refl]
  refine ⟨by omega, by omega, hok, fa, by omega, hok, ?_⟩
  have w1 : IntKind.wrap .i64 (A.2 : Int) = A.2 := w64 (by omega) (by omega)
  have w2 : IntKind.wrap .i64 (B.2 : Int) = B.2 := w64 (by omega) (by omega)
  have w3 : IntKind.wrap .i64 ((A.2 : Int) + B.2) = ((A.2 + B.2 : Nat) : Int) := by rw [w64 (by omega) (by omega)]; omega
  have w4 : IntKind.wrap .i64 ((A.2 + B.2 : Nat) : Int) = ((A.2 + B.2 : Nat) : Int) := w64 (by omega) (by omega)
  simp only [w1, w2, w3, w4]
  refine ⟨fun h => h trivial, fun _ => ?_⟩
  rintro _ rfl _ _ rfl _ _ rfl _
  refine ⟨fun h => by simp at h, fun _ => ?_⟩
  rintro _ rfl _
  refine ⟨fun h => by simp at h, fun _ => ⟨fun h => h trivial, fun _ => ⟨fun h => h trivial, fun _ => ?_⟩⟩⟩
  refine ⟨fun i x m => i ≤ n1 ∧ (∀ j : Int, 0 ≤ j → j < i → rdZ x j = IntKind.wrap .i32 (rdZ c1 j)) ∧ m = (n1 - i).toNat, ⟨_, l_n1, fun j h0 h => by omega, rfl⟩, fun i x m hb3 hI => ?_⟩
  obtain ⟨hi2, hx, rfl⟩ := hI
  refine ⟨fun h3 => ?_, fun h3 => ?_⟩
  · have wi : IntKind.wrap .i32 i = i := wi32 (by omega) (by omega)
    rw [wi]
    refine ⟨by omega, fun h => by omega, fun _ => ⟨fun h => by omega, fun _ => ⟨by omega, by omega, by omega, _, ?_, by omega, ?_, rfl⟩⟩⟩
    · omega
    · intro y y0 y1
      rw [rdZ_upd]
      by_cases e : y.toNat = i.toNat
      · rw [if_pos e, show y = i by omega]
      · rw [if_neg e]; exact hx y y0 (by omega)
  · have hsim : Sim n1 (macM (nuP c1)) (macM (nuP x)) := by
      rw [macM_nu, macM_nu]
      refine ⟨rfl, rfl, rfl, rfl, rfl, rfl, ?_⟩
      intro y y0 y1
      show IntKind.wrap .i32 (rdZ c1 y) = IntKind.wrap .i32 (rdZ x y)
      rw [hx y y0 (by omega), wi32_wrap]
    obtain ⟨z1, z2⟩ := sim_runs hsim (decC c0 j) j (p2.toNat + p3.toNat)
    have ed := runP_code (decC c0 j) j n1 (p2 + p3) (nuP x)
    rw [et, z2, hs] at ed
    rw [hs] at z1
    obtain ⟨y1, y2, y3, y4, y5, y6, y7⟩ := z1
    simp only at y1 y2 y3 y4 y5 y6 ed
    obtain ⟨d1, d2, d3, d4⟩ := runs_ok (macM_ok (nuP x)) (decC c0 j) j n1 (p2.toNat + p3.toNat)
    generalize hD : Mac.runs (decC c0 j) j n1 (p2.toNat + p3.toNat) (macM (nuP x)) = D at *
    have nd := mkN_code d1 (by omega) ((A.2 + B.2 : Nat) : Int)
    obtain ⟨t0, t1, t2, t3, t4, t5, t6, t7⟩ := codeM_rd D.1 ((A.2 + B.2 : Nat) : Int)
    simp only [ed, nd, t7, t5, y5, y6, sameM_refl]
    refine ⟨w4, ?_⟩
    rintro _ rfl _ _ rfl _
    simp

theorem plain (i : Nat → Int) (v : Nat → Value) (ro : Nat → RO) (p : Program) : TT.hdP (rc.cx (cxOf 2)) (rlF ⟨i, fN, v, ro, p⟩ rc.res) tree ⟨i, fN, v, ro, p⟩ = P (i 0) (i 1) (i 2) (i 3) (i 4) (i 5) (i 6) (i 7) := by kernel_rfl
theorem ran : TT.beq (projL (rc.pj (cxOf 2)) (runT us (fun _ _ => .auto) rc 2 rc.f rc.args ⟨[], []⟩)) tree = true := by kernel_rfl
theorem fineT : (TT.fine (rc.cx (cxOf 2)) 1000 [] tree && (rc.cx (cxOf 2)).okB 1000 && SV.vbL 1000 rc.args && TT.tidy (rc.cx (cxOf 2)) [] tree) = true := by kernel_rfl
theorem ok : RcOk (cxOf 2) rc :=
  rc_run (runT_ok us_ok (fun _ _ => .auto) rc 2) ran fineT okb fun ρ hρ hcap hpre => by
    obtain ⟨i, f, v, ro, p⟩ := ρ
    have hf : f = fN := hρ.hF
    subst hf
    rw [plain]
    exact holds (i 0) (i 1) (i 2) (i 3) (i 4) (i 5) (i 6) (i 7) (hρ.hi 0 _ rfl).1 (hρ.hi 0 _ rfl).2 (hρ.hi 1 _ rfl).1 (hρ.hi 1 _ rfl).2 (hρ.hi 2 _ rfl).1 (hρ.hi 2 _ rfl).2 (hρ.hi 3 _ rfl).1 (hρ.hi 3 _ rfl).2 (hcap _ (List.mem_of_getElem? (i := 0) rfl)) (hcap _ (List.mem_of_getElem? (i := 1) rfl))
theorem listE_LZ (P : Program) (l : List Int) (ro : List RO) : ∀ zs : List Int, (listE (zs.map E.c)).ev (envR P l ro) = LZ zs
  | [] => rfl
  | z :: zs => by
    have h : (listE ((z :: zs).map E.c)).ev (envR P l ro) = consZ z ((listE (zs.map E.c)).ev (envR P l ro)) := rfl
    rw [h, listE_LZ P l ro zs]
    unfold consZ
    rw [ZL_LZ]
def tab0 : List Int := [1, 1, 1, 1, 1, 1, 1, 1, 1, 1, 1, 1, 1, 1, 1, 1, 1, 3, 3, 3, 3, 2, 2, 1, 1, 1, 1, 1, 1, 1, 1, 1, 1, 2, 2, 1, 1, 1, 3, 3, 3, 1, 1]
theorem tabG0 : Tryz.prog.globalNamed "astrolabe/ops.costs" = some 0 := by kernel_rfl
theorem tabW0 : ∀ z ∈ tab0, IntKind.wrap .i64 z = z := fun z hz => by
  have h := List.all_eq_true.1 (show tab0.all (fun z => decide (IntKind.wrap .i64 z = z)) = true by kernel_rfl) z hz
  simpa using h
theorem tabIs0 {W : World} (h : laidMetH Tryz.prog Rows.coreSplitsRow.laid W) : Lib.TabIs Tryz.prog W "astrolabe/ops.costs" .i64 tab0 := by
  rw [MakeChecks.laidMetH_plain _ _ _ (by kernel_rfl)] at h
  exact Lib.tabIs_of_head (rest := []) tabG0 (t := 122) (e := 3) (n := 43) (by kernel_rfl) (by kernel_rfl) (by kernel_rfl) (by kernel_rfl) (by kernel_rfl) h

theorem walk (w : World) (a0 : RO) (k0 : a0.cks = [.int .u32]) (n0 : a0.a = none → a0.n = 0) (m0 : a0.n ≤ a0.cap) (t0 : RoAt w a0) (b0 : (a0.n : Int) ≤ 140737488355328) (a1 : RO) (k1 : a1.cks = [.int .i32]) (n1 : a1.a = none → a1.n = 0) (m1 : a1.n ≤ a1.cap) (t1 : RoAt w a1) (b1 : (a1.n : Int) ≤ 140737488355328) (a2 : Int) (w2 : (Lit.int .u8 a2).wf = true) (a3 : Int) (w3 : (Lit.int .u8 a3).wf = true) (tb0 : Lib.TabIs Tryz.prog w "astrolabe/ops.costs" .i64 tab0) :
    Calls Tryz.prog 4 #[.slice a0.a a0.n a0.cap, .slice a1.a a1.n a1.cap, .int .u8 a2, .int .u8 a3] w fun e w' => e = .returned (.bool true) ∧ Below w.heap.size w w' := by
  refine law_of (cx := cxOf 2) ok ⟨rfl, rfl, rfl⟩ (ρ := envR Tryz.prog [(a0.n : Int), (a1.n : Int), a2, a3, a0.c, a1.c, (a0.cap : Int), (a1.cap : Int)] [a0, a1, tabRo 0 .i64 tab0]) (envR_ok (cx := rc.cx (cxOf 2)) rfl rfl (bnd_cons ⟨Int.natCast_nonneg _, b0⟩ (bnd_cons ⟨Int.natCast_nonneg _, b1⟩ (bnd_cons (wf_bd w2) (bnd_cons (wf_bd w3) (bnd_nil _))))) ⟨⟨k0, rfl, (Int.toNat_natCast _).symm, (Int.toNat_natCast _).symm, n0, fun g h => by cases h⟩, ⟨⟨k1, rfl, (Int.toNat_natCast _).symm, (Int.toNat_natCast _).symm, n1, fun g h => by cases h⟩, ⟨⟨rfl, (listE_LZ _ _ _ tab0).symm, rfl, rfl, (fun h => by cases h), fun g h => by cases h; rfl⟩, trivial⟩⟩⟩) (fun d hd => by
    simp only [show lfIns rc.b rc.c rc.ls 0 0 0 = [⟨[.int .u32], .v 4, .v 0, .v 6, none⟩, ⟨[.int .i32], .v 5, .v 1, .v 7, none⟩] from rfl, List.mem_cons, List.not_mem_nil, or_false] at hd
    rcases hd with rfl | rfl
    · exact Int.ofNat_le.2 m0
    · exact Int.ofNat_le.2 m1) (roOk_of ⟨t0, ⟨t1, ⟨tabRo_at tb0 tabG0 tabW0, trivial⟩⟩⟩) ?_
  rw [show rc.args = [.sl (.inp 0) 1 (.c 0) (.v 0) (some (.v 6)), .sl (.inp 1) 1 (.c 0) (.v 1) (some (.v 7)), .int .u8 (.v 2), .int .u8 (.v 3)] from rfl]
  simp only [SV.denL, SV.den, E.ev, map_addr_zero]
  rfl
theorem lifted (os : Os) (started : os.Started) (H : Type) (enc : TypeId × Value → H) :
    ReturnsInHanded {} Tryz.checked os 4 .any (fun w args => (Rows.coreSplitsSpec.pre enc Tryz.prog Tryz.f4 Rows.coreSplitsRow.domain false w args ∧ laidMetH Tryz.prog Rows.coreSplitsRow.laid w) ∧ sizedMet enc Tryz.prog Tryz.f4 (OpenSpec.ofChange Rows.coreSplitsSpec) false w args)
      (Rows.coreSplitsSpec.post enc Tryz.prog Tryz.f4 false true false false) := by
  refine returnsInHanded_of_change_and (C := Tryz.checked) (X := fun w _ => laidMetH Tryz.prog Rows.coreSplitsRow.laid w) (fun _ _ _ hh h => h.of_heap hh) own started (by kernel_rfl) Tryz.func4
    (ChangeSpec.witness_shaped (enc := enc) (C := Tryz.checked) (os := os) (X := fun w _ => laidMetH Tryz.prog Rows.coreSplitsRow.laid w) false (World.laidAll Tryz.prog os Rows.coreSplitsRow.laid) #[.slice none 0 0, .slice none 0 0, .int .u8 0, .int .u8 0] 8 (World.laidAll_os _ _ _)
      (World.shaped_of_ZipB (by kernel_rfl) (by kernel_rfl)) (by kernel_rfl) (by kernel_rfl) (by kernel_rfl)
      (by rw [MakeChecks.laidMetH_plain _ _ _ (by kernel_rfl)]; exact laidMet_laidAll _ (by kernel_rfl) (by kernel_rfl))) ?_
  intro W base args ds gs before hval0 hW hcnd hw0 hL _
  have hval : ∀ (j : Nat) t v, Tryz.f4.params[j]? = some t → args[j]? = some v → Value.okWide Tryz.prog W .any base t v := hval0
  have hW' := hW
  obtain ⟨p, q, hA0, hV, rfl, hfz, hnd⟩ := hW
  have hA : DataW.TrodAll enc Tryz.prog W 0 (fun _ => true) true Tryz.f4.params.toList args.toList ds p := hA0
  have hw := hw0
  rw [Tryz.params4] at hA hval hw
  obtain ⟨v0, vs0, d0, ds0, p0, q0, hargs, rfl, rfl, h0, r0⟩ := trodAll_cons hA
  have h0k := h0
  obtain ⟨v1, vs1, d1, ds1, p1, q1, rfl, rfl, rfl, h1, r1⟩ := trodAll_cons r0
  have h1k := h1
  obtain ⟨v2, vs2, d2, ds2, p2, q2, rfl, rfl, rfl, h2, r2⟩ := trodAll_cons r1
  have h2k := h2
  obtain ⟨v3, vs3, d3, ds3, p3, q3, rfl, rfl, rfl, h3, r3⟩ := trodAll_cons r2
  have h3k := h3
  obtain ⟨rfl, rfl, rfl⟩ := trodAll_nil r3
  obtain rfl : args = #[v0, v1, v2, v3] := by cases args; simp_all
  obtain ⟨rfl, rfl⟩ := trodVars_none hV
  obtain ⟨a0, k0, rfl, n0, m0, t0, b0, _⟩ := Go.Eng.open_row (ks := [.int .u32]) Tryz.underlying22 (ElT.one Tryz.underlying48 (by kernel_rfl)) (by decide) (of_decide_eq_true (by kernel_rfl)) (by kernel_rfl) (hval 0 22 v0 rfl rfl) h0 (weights_of (gs := []) hw (j := 0) (t := 22) rfl rfl)
  obtain ⟨a1, k1, rfl, n1, m1, t1, b1, _⟩ := Go.Eng.open_row (ks := [.int .i32]) Tryz.underlying23 (ElT.one Tryz.underlying21 (by kernel_rfl)) (by decide) (of_decide_eq_true (by kernel_rfl)) (by kernel_rfl) (hval 1 23 v1 rfl rfl) h1 (weights_of (gs := []) hw (j := 1) (t := 23) rfl rfl)
  obtain ⟨a2, rfl, rfl, rfl, w2⟩ := open_int Tryz.underlying5 (hval 2 5 v2 rfl rfl) h2
  obtain ⟨a3, rfl, rfl, rfl, w3⟩ := open_int Tryz.underlying5 (hval 3 5 v3 rfl rfl) h3
  clear hA0 hval0
  refine (walk W a0 k0 n0 m0 t0 b0 a1 k1 n1 m1 t1 b1 a2 w2 a3 w3 (tabIs0 hL)).mono fun e W' ⟨he, hg⟩ => ?_
  subst he
  have hin0 : ∀ x ∈ p0, x ∈ p0 ++ (p1 ++ ([] ++ ([] ++ []))) ++ [] := fun x hx => by simp [hx]
  have hlt0 : ∀ x ∈ p0, x.block < W.heap.size := fun x hx => by simpa using hW'.lt x (by simp [hx])
  have hin1 : ∀ x ∈ p1, x ∈ p0 ++ (p1 ++ ([] ++ ([] ++ []))) ++ [] := fun x hx => by simp [hx]
  have hlt1 : ∀ x ∈ p1, x.block < W.heap.size := fun x hx => by simpa using hW'.lt x (by simp [hx])
  exact ⟨_, rfl, post_below (pa := _) (pv := []) hW' hg (fun _ _ _ => (trodAll_cons_mk (shut_bool Tryz.underlying4 _) trodAll_mk0)) (fun sp hsp => (trodAll_cons_mk (WideElems.Trod_stays laidOut (by kernel_rfl) (of_decide_eq_true (by kernel_rfl)) h0k (fun x hx => hg.same (hlt0 x hx)) (fun x hx => hsp x (hin0 x hx))) (trodAll_cons_mk (WideElems.Trod_stays laidOut (by kernel_rfl) (of_decide_eq_true (by kernel_rfl)) h1k (fun x hx => hg.same (hlt1 x hx)) (fun x hx => hsp x (hin1 x hx))) (trodAll_cons_mk (shut_int Tryz.underlying5 w2) (trodAll_cons_mk (shut_int Tryz.underlying5 w3) trodAll_mk0))))) (fun _ _ => rfl) (by simp)
    (ok_one (by kernel_rfl) rfl (okWide_bool_mk Tryz.underlying4 _))⟩

theorem over : Rows.coreSplitsRow.holds Tryz.pinned (OpenSpec.ofChange Rows.coreSplitsSpec) :=
  OpenClaim.holds_of_wide 4 Tryz.f4 rfl rfl rfl rfl rfl rfl rfl ⟨rfl, rfl, rfl, rfl, rfl⟩ rfl rfl rfl rfl rfl (by kernel_rfl) Tryz.func4 (by kernel_rfl)
    (of_decide_eq_true (by kernel_rfl)) (by unfold Func.isWrapper; first | (rw [if_pos (by decide +kernel)]; kernel_rfl) | (rw [if_neg (by decide +kernel)]; exact ⟨rfl, rfl⟩))
    (fun os started H enc _ => lifted os started H enc)

/-- the statement -/
theorem proved : Rows.CoreSplitsCardSaid :=
  Claim7.holds_tied_plain_at .later [] [.data] true (true, "7bdb080db6dc5a3609dbd5a4da12b96889c0bfa1a2f606d6fb63f8b31670d652") false
    over (fun _ h => by cases h) (by kernel_rfl) (fun _ h => by cases h) coreSplits_row_tie rfl ⟨rfl, rfl⟩ (by kernel_rfl) rfl
    (fun f fn hf hfn => by
      obtain rfl : f = 4 := Option.some.inj ((show Tryz.prog.funcNamed "astrolabe/astrolabelaw16.CoreSplits" = some 4 by kernel_rfl).symm.trans hf) |>.symm
      obtain rfl : fn = Tryz.f4 := (Option.some.inj (Tryz.func4.symm.trans hfn)).symm
      exact ⟨by kernel_rfl, fun j t ht => by
        rw [Tryz.params4] at ht
        have h3 : t = 5 ∨ t = 22 ∨ t = 23 := by
          rcases j with _ | _ | _ | _ | j
          · exact (.inr (.inl (by simpa using ht.symm)))
          · exact (.inr (.inr (by simpa using ht.symm)))
          · exact (.inl (by simpa using ht.symm))
          · exact (.inl (by simpa using ht.symm))
          · simp at ht
        rcases h3 with rfl | rfl | rfl
        · exact (show Tryz.prog.wantsStandIn 5 = false by kernel_rfl)
        · exact (show Tryz.prog.wantsStandIn 22 = false by kernel_rfl)
        · exact (show Tryz.prog.wantsStandIn 23 = false by kernel_rfl)⟩)
    (by kernel_rfl)
#print axioms proved
end Go.Proofs.YtlhcaeakfbokmaaGreatDoor.coreSplits
