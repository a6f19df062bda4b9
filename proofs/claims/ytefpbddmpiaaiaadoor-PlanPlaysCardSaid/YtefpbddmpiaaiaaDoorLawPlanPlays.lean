/-
  The law PlanPlays answers true at every input: the law is run by the engine (a symbolic run, proved sound), the tree of its answers, as a plain statement, is shown to hold. No condition.
-/
import Derived.Test.YtefpbddmpiaaiaaDoorGab
import Derived.Test.YtefpbddmpiaaiaaDoorGib
import Derived.Test.YtefpbddmpiaaiaaDoorCPFind
import Derived.Test.YtefpbddmpiaaiaaDoorCPAlloc
import Derived.Test.YtefpbddmpiaaiaaDoorCPAt
import Derived.Test.YtefpbddmpiaaiaaDoorCPSec
import Derived.Test.YtefpbddmpiaaiaaDoorCRFind
import Derived.Test.YtefpbddmpiaaiaaDoorCRAlloc
import Derived.Test.YtefpbddmpiaaiaaDoorCRAt
import Derived.Test.YtefpbddmpiaaiaaDoorCRUsed
import Derived.Test.YtefpbddmpiaaiaaDoorCRSec
import Derived.Test.YtefpbddmpiaaiaaDoorCRSame20
import Derived.Test.YtefpbddmpiaaiaaDoorCRBools
import Derived.Test.YtefpbddmpiaaiaaDoorCAwake20
import Derived.Test.YtefpbddmpiaaiaaDoorGmP
import Derived.WalkKit
import Derived.ProofKit
import Derived.OpenShut
import Derived.LaidMore
import Derived.Stop.Joined
import Derived.SevenTiedAt
import Derived.SizedLaws
import Derived.Lay
import Derived.Test.YtefpbddmpiaaiaaDoorCards
import Derived.Test.YtefpbddmpiaaiaaDoorTie
namespace Go.Proofs.YtefpbddmpiaaiaaDoor.planPlays
open Go.ChangeShapes Go.WideShapes Go.ChangeAt Go.Eng Go.RowKit
set_option linter.unusedVariables false
set_option linter.unusedSimpArgs false
set_option maxRecDepth 100000
def rc : Rc := ⟨3, [none, none, none, none], [.int .i64, .row [.str, .int .i64, .bool] 140737488355328, .str, .int .i64], [], .one, [.bool (.c 1)]⟩
theorem okb : rc.ok = true := by kernel_rfl
noncomputable def us : SMs := fun Γ ins n => smH (cxG n Γ ins) [CPFind.rk.rh, CPAlloc.rk.rh, CPAt.rk.rh, CPSec.rk.rh, CRFind.rk.rh, CRAlloc.rk.rh, CRAt.rk.rh, CRUsed.rk.rh, CRSec.rk.rh] (smAnd 42 (libClone42 Γ ins n) (smR (cxG n Γ ins) [CRSame20.rc, CRBools.rc, CAwake20.rc]))
theorem us_ok : SMsOk us := fun Γ ins n => smH_ok (rhs_cons CPFind.okh (rh_n CPFind.ok) (rhs_cons CPAlloc.okh (rh_n CPAlloc.ok) (rhs_cons CPAt.okh (rh_n CPAt.ok) (rhs_cons CPSec.okh (rh_n CPSec.ok) (rhs_cons CRFind.okh (rh_n CRFind.ok) (rhs_cons CRAlloc.okh (rh_n CRAlloc.ok) (rhs_cons CRAt.okh (rh_n CRAt.ok) (rhs_cons CRUsed.okh (rh_n CRUsed.ok) (rhs_cons CRSec.okh (rh_n CRSec.ok) (rhs_nil _)))))))))) (smAnd_ok (libClone42_ok Γ ins n) (smR_ok (rcs_cons CRSame20.okb (rc_n CRSame20.ok) (rcs_cons CRBools.okb (rc_n CRBools.ok) (rcs_cons CAwake20.okb (rc_n CAwake20.ok) (rcs_nil _))))))
def tree : TT (List E) :=
(.br (.b .lt .i64 (.c 60) (.v 1))
  (.leaf [(.c 1)])
  (.br (.b .lt .i64 (.v 0) (.c 0))
  (.leaf [(.c 1)])
  (.br (.b .lt .i64 (.c 2048) (.v 0))
  (.leaf [(.c 1)])
  (.loop ⟨1000, [some (0, 4611686018427387904), some (-9223372036854775808, 9223372036854775807), none, some (0, 1000000), none, some (0, 1000000)], [(.c 0), (.c 0), (.c 0), (.c 0), (.c 0), (.c 0)], 1012⟩
  (.br (.b .lt .i64 (.cl 1000 0 4611686018427387904) (.v 1))
  (.br (.b .lt .i64 (.c 100) (.f 21 (.f 13 (.f 13 (.v 3) (.cl 1000 0 4611686018427387904) (.c 0)) (.c 0) (.c 0)) (.c 0) (.c 0)))
  (.exit 0)
  (.new 1007 (.w .i64 (.f 13 (.f 13 (.v 3) (.cl 1000 0 4611686018427387904) (.c 0)) (.c 1) (.c 0)))
  (.br (.b .le .i64 (.cl 1003 0 1000000) (.c 100))
  (.new 1008 (.ite (.b .eq .i64 (.f 57 (.v 1002) (.cl 1003 0 1000000) (.f 11 (.f 13 (.f 13 (.v 3) (.cl 1000 0 4611686018427387904) (.c 0)) (.c 0) (.c 0)) (.f 11 (.cl 1007 (-9223372036854775808) 9223372036854775807) (.f 11 (.v 0) (.f 11 (.cl 1001 (-9223372036854775808) 9223372036854775807) (.c 0) (.c 0)) (.c 0)) (.c 0)) (.c 0))) (.c 0)) (.cl 1001 (-9223372036854775808) 9223372036854775807) (.c 0))
  (.new 1009 (.f 57 (.v 1002) (.cl 1003 0 1000000) (.f 11 (.f 13 (.f 13 (.v 3) (.cl 1000 0 4611686018427387904) (.c 0)) (.c 0) (.c 0)) (.f 11 (.cl 1007 (-9223372036854775808) 9223372036854775807) (.f 11 (.v 0) (.f 11 (.cl 1001 (-9223372036854775808) 9223372036854775807) (.c 0) (.c 0)) (.c 0)) (.c 0)) (.c 0)))
  (.br (.b .le .i64 (.cl 1005 0 1000000) (.c 100))
  (.new 1010 (.ite (.b .eq .i64 (.f 57 (.v 1004) (.cl 1005 0 1000000) (.f 11 (.f 13 (.f 13 (.v 3) (.cl 1000 0 4611686018427387904) (.c 0)) (.c 0) (.c 0)) (.f 11 (.cl 1007 (-9223372036854775808) 9223372036854775807) (.f 11 (.v 0) (.f 11 (.f 56 (.v 1004) (.cl 1005 0 1000000) (.c 0)) (.c 0) (.c 0)) (.c 0)) (.c 0)) (.c 0))) (.c 0)) (.f 56 (.v 1004) (.cl 1005 0 1000000) (.c 0)) (.c 0))
  (.new 1011 (.f 57 (.v 1004) (.cl 1005 0 1000000) (.f 11 (.f 13 (.f 13 (.v 3) (.cl 1000 0 4611686018427387904) (.c 0)) (.c 0) (.c 0)) (.f 11 (.cl 1007 (-9223372036854775808) 9223372036854775807) (.f 11 (.v 0) (.f 11 (.f 56 (.v 1004) (.cl 1005 0 1000000) (.c 0)) (.c 0) (.c 0)) (.c 0)) (.c 0)) (.c 0)))
  (.br (.b .ne .i64 (.cl 1008 (-9223372036854775808) 9223372036854775807) (.cl 1010 (-9223372036854775808) 9223372036854775807))
  (.exit 1)
  (.br (.b .ne .i64 (.cl 1009 0 11) (.cl 1011 0 11))
  (.exit 2)
  (.br (.b .le .i64 (.b .padd .i64 (.cl 1000 0 4611686018427387904) (.c 1)) (.c 4611686018427387904))
  (.br (.b .le .i64 (.b .padd .i64 (.cl 1003 0 1000000) (.b .eq .i64 (.f 57 (.v 1002) (.cl 1003 0 1000000) (.f 11 (.f 13 (.f 13 (.v 3) (.cl 1000 0 4611686018427387904) (.c 0)) (.c 0) (.c 0)) (.f 11 (.cl 1007 (-9223372036854775808) 9223372036854775807) (.f 11 (.v 0) (.f 11 (.cl 1001 (-9223372036854775808) 9223372036854775807) (.c 0) (.c 0)) (.c 0)) (.c 0)) (.c 0))) (.c 0))) (.c 1000000))
  (.br (.b .le .i64 (.b .padd .i64 (.cl 1005 0 1000000) (.b .eq .i64 (.f 57 (.v 1004) (.cl 1005 0 1000000) (.f 11 (.f 13 (.f 13 (.v 3) (.cl 1000 0 4611686018427387904) (.c 0)) (.c 0) (.c 0)) (.f 11 (.cl 1007 (-9223372036854775808) 9223372036854775807) (.f 11 (.v 0) (.f 11 (.f 56 (.v 1004) (.cl 1005 0 1000000) (.c 0)) (.c 0) (.c 0)) (.c 0)) (.c 0)) (.c 0))) (.c 0))) (.c 1000000))
  (.back [(.b .padd .i64 (.cl 1000 0 4611686018427387904) (.c 1)), (.ite (.b .eq .i64 (.f 57 (.v 1002) (.cl 1003 0 1000000) (.f 11 (.f 13 (.f 13 (.v 3) (.cl 1000 0 4611686018427387904) (.c 0)) (.c 0) (.c 0)) (.f 11 (.cl 1007 (-9223372036854775808) 9223372036854775807) (.f 11 (.v 0) (.f 11 (.cl 1001 (-9223372036854775808) 9223372036854775807) (.c 0) (.c 0)) (.c 0)) (.c 0)) (.c 0))) (.c 0)) (.w .i64 (.b .padd .i64 (.cl 1001 (-9223372036854775808) 9223372036854775807) (.cl 1007 (-9223372036854775808) 9223372036854775807))) (.cl 1001 (-9223372036854775808) 9223372036854775807)), (.ite (.b .eq .i64 (.f 57 (.v 1002) (.cl 1003 0 1000000) (.f 11 (.f 13 (.f 13 (.v 3) (.cl 1000 0 4611686018427387904) (.c 0)) (.c 0) (.c 0)) (.f 11 (.cl 1007 (-9223372036854775808) 9223372036854775807) (.f 11 (.v 0) (.f 11 (.cl 1001 (-9223372036854775808) 9223372036854775807) (.c 0) (.c 0)) (.c 0)) (.c 0)) (.c 0))) (.c 0)) (.f 58 (.v 1002) (.cl 1003 0 1000000) (.f 11 (.f 13 (.f 13 (.v 3) (.cl 1000 0 4611686018427387904) (.c 0)) (.c 0) (.c 0)) (.f 11 (.cl 1001 (-9223372036854775808) 9223372036854775807) (.f 11 (.cl 1007 (-9223372036854775808) 9223372036854775807) (.f 11 (.f 13 (.f 13 (.v 3) (.cl 1000 0 4611686018427387904) (.c 0)) (.c 2) (.c 0)) (.c 0) (.c 0)) (.c 0)) (.c 0)) (.c 0))) (.v 1002)), (.b .padd .i64 (.cl 1003 0 1000000) (.b .eq .i64 (.f 57 (.v 1002) (.cl 1003 0 1000000) (.f 11 (.f 13 (.f 13 (.v 3) (.cl 1000 0 4611686018427387904) (.c 0)) (.c 0) (.c 0)) (.f 11 (.cl 1007 (-9223372036854775808) 9223372036854775807) (.f 11 (.v 0) (.f 11 (.cl 1001 (-9223372036854775808) 9223372036854775807) (.c 0) (.c 0)) (.c 0)) (.c 0)) (.c 0))) (.c 0))), (.ite (.b .eq .i64 (.f 57 (.v 1004) (.cl 1005 0 1000000) (.f 11 (.f 13 (.f 13 (.v 3) (.cl 1000 0 4611686018427387904) (.c 0)) (.c 0) (.c 0)) (.f 11 (.cl 1007 (-9223372036854775808) 9223372036854775807) (.f 11 (.v 0) (.f 11 (.f 56 (.v 1004) (.cl 1005 0 1000000) (.c 0)) (.c 0) (.c 0)) (.c 0)) (.c 0)) (.c 0))) (.c 0)) (.f 58 (.v 1004) (.cl 1005 0 1000000) (.f 11 (.f 13 (.f 13 (.v 3) (.cl 1000 0 4611686018427387904) (.c 0)) (.c 0) (.c 0)) (.f 11 (.f 56 (.v 1004) (.cl 1005 0 1000000) (.c 0)) (.f 11 (.cl 1007 (-9223372036854775808) 9223372036854775807) (.f 11 (.f 13 (.f 13 (.v 3) (.cl 1000 0 4611686018427387904) (.c 0)) (.c 2) (.c 0)) (.c 0) (.c 0)) (.c 0)) (.c 0)) (.c 0))) (.v 1004)), (.b .padd .i64 (.cl 1005 0 1000000) (.b .eq .i64 (.f 57 (.v 1004) (.cl 1005 0 1000000) (.f 11 (.f 13 (.f 13 (.v 3) (.cl 1000 0 4611686018427387904) (.c 0)) (.c 0) (.c 0)) (.f 11 (.cl 1007 (-9223372036854775808) 9223372036854775807) (.f 11 (.v 0) (.f 11 (.f 56 (.v 1004) (.cl 1005 0 1000000) (.c 0)) (.c 0) (.c 0)) (.c 0)) (.c 0)) (.c 0))) (.c 0)))])
  (.bad 303))
  (.bad 303))
  (.bad 303))))))
  (.bad 200))))
  (.bad 200))))
  (.exit 3))
  (.br (.b .eq .i64 (.v 1012) (.c 0))
  (.leaf [(.c 1)])
  (.br (.b .eq .i64 (.v 1012) (.c 1))
  (.leaf [(.c 0)])
  (.br (.b .eq .i64 (.v 1012) (.c 2))
  (.leaf [(.c 0)])
  (.br (.b .le .i64 (.cl 1003 0 1000000) (.c 100))
  (.br (.b .le .i64 (.cl 1005 0 1000000) (.c 100))
  (.br (.f 59 (.v 1004) (.cl 1005 0 1000000) (.c 0))
  (.br (.nt (.ite (.f 20 (.ite (.b .le .i64 (.c 0) (.f 54 (.v 1002) (.cl 1003 0 1000000) (.v 4))) (.f 13 (.f 13 (.v 1002) (.f 54 (.v 1002) (.cl 1003 0 1000000) (.v 4)) (.c 0)) (.c 0) (.c 0)) (.c 0)) (.ite (.b .le .i64 (.c 0) (.f 54 (.v 1004) (.cl 1005 0 1000000) (.v 4))) (.f 13 (.f 13 (.v 1004) (.f 54 (.v 1004) (.cl 1005 0 1000000) (.v 4)) (.c 0)) (.c 0) (.c 0)) (.c 0)) (.c 0)) (.ite (.b .eq .i64 (.ite (.b .le .i64 (.c 0) (.f 54 (.v 1002) (.cl 1003 0 1000000) (.v 4))) (.w .i64 (.f 13 (.f 13 (.v 1002) (.f 54 (.v 1002) (.cl 1003 0 1000000) (.v 4)) (.c 0)) (.c 1) (.c 0))) (.c 0)) (.ite (.b .le .i64 (.c 0) (.f 54 (.v 1004) (.cl 1005 0 1000000) (.v 4))) (.w .i64 (.f 13 (.f 13 (.v 1004) (.f 54 (.v 1004) (.cl 1005 0 1000000) (.v 4)) (.c 0)) (.c 1) (.c 0))) (.c 0))) (.ite (.b .eq .i64 (.ite (.b .le .i64 (.c 0) (.f 54 (.v 1002) (.cl 1003 0 1000000) (.v 4))) (.w .i64 (.f 13 (.f 13 (.v 1002) (.f 54 (.v 1002) (.cl 1003 0 1000000) (.v 4)) (.c 0)) (.c 2) (.c 0))) (.c 0)) (.ite (.b .le .i64 (.c 0) (.f 54 (.v 1004) (.cl 1005 0 1000000) (.v 4))) (.w .i64 (.f 13 (.f 13 (.v 1004) (.f 54 (.v 1004) (.cl 1005 0 1000000) (.v 4)) (.c 0)) (.c 2) (.c 0))) (.c 0))) (.b .eq .i64 (.nt (.ite (.b .le .i64 (.c 0) (.f 54 (.v 1002) (.cl 1003 0 1000000) (.v 4))) (.f 13 (.f 13 (.v 1002) (.f 54 (.v 1002) (.cl 1003 0 1000000) (.v 4)) (.c 0)) (.c 3) (.c 0)) (.c 0))) (.nt (.ite (.b .le .i64 (.c 0) (.f 54 (.v 1004) (.cl 1005 0 1000000) (.v 4))) (.f 13 (.f 13 (.v 1004) (.f 54 (.v 1004) (.cl 1005 0 1000000) (.v 4)) (.c 0)) (.c 3) (.c 0)) (.c 0)))) (.c 0)) (.c 0)) (.c 0)))
  (.leaf [(.c 0)])
  (.br (.b .ne .i64 (.nt (.b .le .i64 (.c 0) (.f 54 (.v 1002) (.cl 1003 0 1000000) (.v 4)))) (.nt (.b .le .i64 (.c 0) (.f 54 (.v 1004) (.cl 1005 0 1000000) (.v 4)))))
  (.leaf [(.c 0)])
  (.br (.nt (.ite (.f 20 (.ite (.b .le .i64 (.c 0) (.f 55 (.v 1002) (.cl 1003 0 1000000) (.v 2))) (.f 13 (.f 13 (.v 1002) (.f 55 (.v 1002) (.cl 1003 0 1000000) (.v 2)) (.c 0)) (.c 0) (.c 0)) (.c 0)) (.ite (.b .le .i64 (.c 0) (.f 55 (.v 1004) (.cl 1005 0 1000000) (.v 2))) (.f 13 (.f 13 (.v 1004) (.f 55 (.v 1004) (.cl 1005 0 1000000) (.v 2)) (.c 0)) (.c 0) (.c 0)) (.c 0)) (.c 0)) (.ite (.b .eq .i64 (.ite (.b .le .i64 (.c 0) (.f 55 (.v 1002) (.cl 1003 0 1000000) (.v 2))) (.w .i64 (.f 13 (.f 13 (.v 1002) (.f 55 (.v 1002) (.cl 1003 0 1000000) (.v 2)) (.c 0)) (.c 1) (.c 0))) (.c 0)) (.ite (.b .le .i64 (.c 0) (.f 55 (.v 1004) (.cl 1005 0 1000000) (.v 2))) (.w .i64 (.f 13 (.f 13 (.v 1004) (.f 55 (.v 1004) (.cl 1005 0 1000000) (.v 2)) (.c 0)) (.c 1) (.c 0))) (.c 0))) (.ite (.b .eq .i64 (.ite (.b .le .i64 (.c 0) (.f 55 (.v 1002) (.cl 1003 0 1000000) (.v 2))) (.w .i64 (.f 13 (.f 13 (.v 1002) (.f 55 (.v 1002) (.cl 1003 0 1000000) (.v 2)) (.c 0)) (.c 2) (.c 0))) (.c 0)) (.ite (.b .le .i64 (.c 0) (.f 55 (.v 1004) (.cl 1005 0 1000000) (.v 2))) (.w .i64 (.f 13 (.f 13 (.v 1004) (.f 55 (.v 1004) (.cl 1005 0 1000000) (.v 2)) (.c 0)) (.c 2) (.c 0))) (.c 0))) (.b .eq .i64 (.nt (.ite (.b .le .i64 (.c 0) (.f 55 (.v 1002) (.cl 1003 0 1000000) (.v 2))) (.f 13 (.f 13 (.v 1002) (.f 55 (.v 1002) (.cl 1003 0 1000000) (.v 2)) (.c 0)) (.c 3) (.c 0)) (.c 0))) (.nt (.ite (.b .le .i64 (.c 0) (.f 55 (.v 1004) (.cl 1005 0 1000000) (.v 2))) (.f 13 (.f 13 (.v 1004) (.f 55 (.v 1004) (.cl 1005 0 1000000) (.v 2)) (.c 0)) (.c 3) (.c 0)) (.c 0)))) (.c 0)) (.c 0)) (.c 0)))
  (.leaf [(.c 0)])
  (.br (.b .ne .i64 (.ite (.b .le .i64 (.c 0) (.f 55 (.v 1002) (.cl 1003 0 1000000) (.v 2))) (.w .i64 (.b .psub .i64 (.v 2) (.w .i64 (.f 13 (.f 13 (.v 1002) (.f 55 (.v 1002) (.cl 1003 0 1000000) (.v 2)) (.c 0)) (.c 1) (.c 0))))) (.c 0)) (.ite (.b .le .i64 (.c 0) (.f 55 (.v 1004) (.cl 1005 0 1000000) (.v 2))) (.w .i64 (.b .psub .i64 (.v 2) (.w .i64 (.f 13 (.f 13 (.v 1004) (.f 55 (.v 1004) (.cl 1005 0 1000000) (.v 2)) (.c 0)) (.c 1) (.c 0))))) (.c 0)))
  (.leaf [(.c 0)])
  (.br (.b .ne .i64 (.nt (.b .le .i64 (.c 0) (.f 55 (.v 1002) (.cl 1003 0 1000000) (.v 2)))) (.nt (.b .le .i64 (.c 0) (.f 55 (.v 1004) (.cl 1005 0 1000000) (.v 2)))))
  (.leaf [(.c 0)])
  (.br (.b .ne .i64 (.cl 1001 (-9223372036854775808) 9223372036854775807) (.f 56 (.v 1004) (.cl 1005 0 1000000) (.c 0)))
  (.leaf [(.c 0)])
  (.br (.ite (.b .eq .i64 (.cl 1003 0 1000000) (.cl 1005 0 1000000)) (.f 61 (.v 1002) (.v 1004) (.cl 1003 0 1000000)) (.c 0))
  (.br (.f 59 (.v 1002) (.cl 1003 0 1000000) (.c 0))
  (.br (.b .le .i64 (.c 0) (.f 56 (.v 1002) (.cl 1003 0 1000000) (.c 0)))
  (.br (.b .le .i64 (.f 56 (.v 1002) (.cl 1003 0 1000000) (.c 0)) (.c 1000000))
  (.br (.b .le .i64 (.c 0) (.f 56 (.v 1004) (.cl 1005 0 1000000) (.c 0)))
  (.br (.b .le .i64 (.f 56 (.v 1004) (.cl 1005 0 1000000) (.c 0)) (.c 1000000))
  (.br (.ite (.b .eq .i64 (.f 56 (.v 1002) (.cl 1003 0 1000000) (.c 0)) (.f 56 (.v 1004) (.cl 1005 0 1000000) (.c 0))) (.f 62 (.f 60 (.v 1002) (.cl 1003 0 1000000) (.c 0)) (.f 60 (.v 1004) (.cl 1005 0 1000000) (.c 0)) (.f 56 (.v 1002) (.cl 1003 0 1000000) (.c 0))) (.c 0))
  (.leaf [(.c 1)])
  (.leaf [(.c 0)]))
  (.bad 200))
  (.bad 200))
  (.bad 200))
  (.bad 200))
  (.bad 200))
  (.leaf [(.c 0)]))))))))
  (.bad 200))
  (.bad 200))
  (.bad 200)))))))))

def P (p0 n1 p3 c1 s2 r1 : Int) : Prop :=
 (((bool01 (decide (60 < n1))) ≠ 0 →
  ((1 : Int) ≠ 0 ↔ (1 : Int) ≠ 0) ∧ True) ∧ ((bool01 (decide (60 < n1))) = 0 →
  (((bool01 (decide (p0 < 0))) ≠ 0 →
   ((1 : Int) ≠ 0 ↔ (1 : Int) ≠ 0) ∧ True) ∧ ((bool01 (decide (p0 < 0))) = 0 →
   (((bool01 (decide (2048 < p0))) ≠ 0 →
    ((1 : Int) ≠ 0 ↔ (1 : Int) ≠ 0) ∧ True) ∧ ((bool01 (decide (2048 < p0))) = 0 →
    ∃ I1000 : Int → Int → Int → Int → Int → Int → Nat → Prop, (∃ m, I1000 0 0 0 0 0 0 m) ∧
    ∀ y1000 y1001 y1002 y1003 y1004 y1005 : Int, ∀ m1000, ((0 ≤ y1000 ∧ y1000 ≤ 4611686018427387904) ∧ ((-9223372036854775808) ≤ y1001 ∧ y1001 ≤ 9223372036854775807) ∧ True ∧ (0 ≤ y1003 ∧ y1003 ≤ 1000000) ∧ True ∧ (0 ≤ y1005 ∧ y1005 ≤ 1000000) ∧ True) → I1000 y1000 y1001 y1002 y1003 y1004 y1005 m1000 →
     (((bool01 (decide (y1000 < n1))) ≠ 0 →
      (((bool01 (decide (100 < (slenZ (rdZ (rdZ c1 y1000) 0))))) ≠ 0 →
       (((bool01 ((0 : Int) == 0)) ≠ 0 →
        ((1 : Int) ≠ 0 ↔ (1 : Int) ≠ 0) ∧ True) ∧ ((bool01 ((0 : Int) == 0)) = 0 →
        (((bool01 ((0 : Int) == 1)) ≠ 0 →
         ((0 : Int) ≠ 0 ↔ (1 : Int) ≠ 0) ∧ True) ∧ ((bool01 ((0 : Int) == 1)) = 0 →
         (((bool01 ((0 : Int) == 2)) ≠ 0 →
          ((0 : Int) ≠ 0 ↔ (1 : Int) ≠ 0) ∧ True) ∧ ((bool01 ((0 : Int) == 2)) = 0 →
          (((bool01 (decide (y1003 ≤ 100))) ≠ 0 →
           (((bool01 (decide (y1005 ≤ 100))) ≠ 0 →
            (((okQ y1004 y1005) ≠ 0 →
             (((bool01 ((iteZ (seqZ (iteZ (bool01 (decide (0 ≤ (findZ y1002 y1003 s2)))) (rdZ (rdZ y1002 (findZ y1002 y1003 s2)) 0) 0) (iteZ (bool01 (decide (0 ≤ (findZ y1004 y1005 s2)))) (rdZ (rdZ y1004 (findZ y1004 y1005 s2)) 0) 0)) (iteZ (bool01 ((iteZ (bool01 (decide (0 ≤ (findZ y1002 y1003 s2)))) (IntKind.wrap .i64 (rdZ (rdZ y1002 (findZ y1002 y1003 s2)) 1)) 0) == (iteZ (bool01 (decide (0 ≤ (findZ y1004 y1005 s2)))) (IntKind.wrap .i64 (rdZ (rdZ y1004 (findZ y1004 y1005 s2)) 1)) 0))) (iteZ (bool01 ((iteZ (bool01 (decide (0 ≤ (findZ y1002 y1003 s2)))) (IntKind.wrap .i64 (rdZ (rdZ y1002 (findZ y1002 y1003 s2)) 2)) 0) == (iteZ (bool01 (decide (0 ≤ (findZ y1004 y1005 s2)))) (IntKind.wrap .i64 (rdZ (rdZ y1004 (findZ y1004 y1005 s2)) 2)) 0))) (bool01 ((bool01 ((iteZ (bool01 (decide (0 ≤ (findZ y1002 y1003 s2)))) (rdZ (rdZ y1002 (findZ y1002 y1003 s2)) 3) 0) == 0)) == (bool01 ((iteZ (bool01 (decide (0 ≤ (findZ y1004 y1005 s2)))) (rdZ (rdZ y1004 (findZ y1004 y1005 s2)) 3) 0) == 0)))) 0) 0) 0) == 0)) ≠ 0 →
              ((0 : Int) ≠ 0 ↔ (1 : Int) ≠ 0) ∧ True) ∧ ((bool01 ((iteZ (seqZ (iteZ (bool01 (decide (0 ≤ (findZ y1002 y1003 s2)))) (rdZ (rdZ y1002 (findZ y1002 y1003 s2)) 0) 0) (iteZ (bool01 (decide (0 ≤ (findZ y1004 y1005 s2)))) (rdZ (rdZ y1004 (findZ y1004 y1005 s2)) 0) 0)) (iteZ (bool01 ((iteZ (bool01 (decide (0 ≤ (findZ y1002 y1003 s2)))) (IntKind.wrap .i64 (rdZ (rdZ y1002 (findZ y1002 y1003 s2)) 1)) 0) == (iteZ (bool01 (decide (0 ≤ (findZ y1004 y1005 s2)))) (IntKind.wrap .i64 (rdZ (rdZ y1004 (findZ y1004 y1005 s2)) 1)) 0))) (iteZ (bool01 ((iteZ (bool01 (decide (0 ≤ (findZ y1002 y1003 s2)))) (IntKind.wrap .i64 (rdZ (rdZ y1002 (findZ y1002 y1003 s2)) 2)) 0) == (iteZ (bool01 (decide (0 ≤ (findZ y1004 y1005 s2)))) (IntKind.wrap .i64 (rdZ (rdZ y1004 (findZ y1004 y1005 s2)) 2)) 0))) (bool01 ((bool01 ((iteZ (bool01 (decide (0 ≤ (findZ y1002 y1003 s2)))) (rdZ (rdZ y1002 (findZ y1002 y1003 s2)) 3) 0) == 0)) == (bool01 ((iteZ (bool01 (decide (0 ≤ (findZ y1004 y1005 s2)))) (rdZ (rdZ y1004 (findZ y1004 y1005 s2)) 3) 0) == 0)))) 0) 0) 0) == 0)) = 0 →
              (((bool01 ((bool01 ((bool01 (decide (0 ≤ (findZ y1002 y1003 s2)))) == 0)) != (bool01 ((bool01 (decide (0 ≤ (findZ y1004 y1005 s2)))) == 0)))) ≠ 0 →
               ((0 : Int) ≠ 0 ↔ (1 : Int) ≠ 0) ∧ True) ∧ ((bool01 ((bool01 ((bool01 (decide (0 ≤ (findZ y1002 y1003 s2)))) == 0)) != (bool01 ((bool01 (decide (0 ≤ (findZ y1004 y1005 s2)))) == 0)))) = 0 →
               (((bool01 ((iteZ (seqZ (iteZ (bool01 (decide (0 ≤ (atZ y1002 y1003 p3)))) (rdZ (rdZ y1002 (atZ y1002 y1003 p3)) 0) 0) (iteZ (bool01 (decide (0 ≤ (atZ y1004 y1005 p3)))) (rdZ (rdZ y1004 (atZ y1004 y1005 p3)) 0) 0)) (iteZ (bool01 ((iteZ (bool01 (decide (0 ≤ (atZ y1002 y1003 p3)))) (IntKind.wrap .i64 (rdZ (rdZ y1002 (atZ y1002 y1003 p3)) 1)) 0) == (iteZ (bool01 (decide (0 ≤ (atZ y1004 y1005 p3)))) (IntKind.wrap .i64 (rdZ (rdZ y1004 (atZ y1004 y1005 p3)) 1)) 0))) (iteZ (bool01 ((iteZ (bool01 (decide (0 ≤ (atZ y1002 y1003 p3)))) (IntKind.wrap .i64 (rdZ (rdZ y1002 (atZ y1002 y1003 p3)) 2)) 0) == (iteZ (bool01 (decide (0 ≤ (atZ y1004 y1005 p3)))) (IntKind.wrap .i64 (rdZ (rdZ y1004 (atZ y1004 y1005 p3)) 2)) 0))) (bool01 ((bool01 ((iteZ (bool01 (decide (0 ≤ (atZ y1002 y1003 p3)))) (rdZ (rdZ y1002 (atZ y1002 y1003 p3)) 3) 0) == 0)) == (bool01 ((iteZ (bool01 (decide (0 ≤ (atZ y1004 y1005 p3)))) (rdZ (rdZ y1004 (atZ y1004 y1005 p3)) 3) 0) == 0)))) 0) 0) 0) == 0)) ≠ 0 →
                ((0 : Int) ≠ 0 ↔ (1 : Int) ≠ 0) ∧ True) ∧ ((bool01 ((iteZ (seqZ (iteZ (bool01 (decide (0 ≤ (atZ y1002 y1003 p3)))) (rdZ (rdZ y1002 (atZ y1002 y1003 p3)) 0) 0) (iteZ (bool01 (decide (0 ≤ (atZ y1004 y1005 p3)))) (rdZ (rdZ y1004 (atZ y1004 y1005 p3)) 0) 0)) (iteZ (bool01 ((iteZ (bool01 (decide (0 ≤ (atZ y1002 y1003 p3)))) (IntKind.wrap .i64 (rdZ (rdZ y1002 (atZ y1002 y1003 p3)) 1)) 0) == (iteZ (bool01 (decide (0 ≤ (atZ y1004 y1005 p3)))) (IntKind.wrap .i64 (rdZ (rdZ y1004 (atZ y1004 y1005 p3)) 1)) 0))) (iteZ (bool01 ((iteZ (bool01 (decide (0 ≤ (atZ y1002 y1003 p3)))) (IntKind.wrap .i64 (rdZ (rdZ y1002 (atZ y1002 y1003 p3)) 2)) 0) == (iteZ (bool01 (decide (0 ≤ (atZ y1004 y1005 p3)))) (IntKind.wrap .i64 (rdZ (rdZ y1004 (atZ y1004 y1005 p3)) 2)) 0))) (bool01 ((bool01 ((iteZ (bool01 (decide (0 ≤ (atZ y1002 y1003 p3)))) (rdZ (rdZ y1002 (atZ y1002 y1003 p3)) 3) 0) == 0)) == (bool01 ((iteZ (bool01 (decide (0 ≤ (atZ y1004 y1005 p3)))) (rdZ (rdZ y1004 (atZ y1004 y1005 p3)) 3) 0) == 0)))) 0) 0) 0) == 0)) = 0 →
                (((bool01 ((iteZ (bool01 (decide (0 ≤ (atZ y1002 y1003 p3)))) (IntKind.wrap .i64 (p3 - (IntKind.wrap .i64 (rdZ (rdZ y1002 (atZ y1002 y1003 p3)) 1)))) 0) != (iteZ (bool01 (decide (0 ≤ (atZ y1004 y1005 p3)))) (IntKind.wrap .i64 (p3 - (IntKind.wrap .i64 (rdZ (rdZ y1004 (atZ y1004 y1005 p3)) 1)))) 0))) ≠ 0 →
                 ((0 : Int) ≠ 0 ↔ (1 : Int) ≠ 0) ∧ True) ∧ ((bool01 ((iteZ (bool01 (decide (0 ≤ (atZ y1002 y1003 p3)))) (IntKind.wrap .i64 (p3 - (IntKind.wrap .i64 (rdZ (rdZ y1002 (atZ y1002 y1003 p3)) 1)))) 0) != (iteZ (bool01 (decide (0 ≤ (atZ y1004 y1005 p3)))) (IntKind.wrap .i64 (p3 - (IntKind.wrap .i64 (rdZ (rdZ y1004 (atZ y1004 y1005 p3)) 1)))) 0))) = 0 →
                 (((bool01 ((bool01 ((bool01 (decide (0 ≤ (atZ y1002 y1003 p3)))) == 0)) != (bool01 ((bool01 (decide (0 ≤ (atZ y1004 y1005 p3)))) == 0)))) ≠ 0 →
                  ((0 : Int) ≠ 0 ↔ (1 : Int) ≠ 0) ∧ True) ∧ ((bool01 ((bool01 ((bool01 (decide (0 ≤ (atZ y1002 y1003 p3)))) == 0)) != (bool01 ((bool01 (decide (0 ≤ (atZ y1004 y1005 p3)))) == 0)))) = 0 →
                  (((bool01 (y1001 != (usedZ y1004 y1005))) ≠ 0 →
                   ((0 : Int) ≠ 0 ↔ (1 : Int) ≠ 0) ∧ True) ∧ ((bool01 (y1001 != (usedZ y1004 y1005))) = 0 →
                   (((iteZ (bool01 (y1003 == y1005)) (sameRg y1002 y1004 y1003) 0) ≠ 0 →
                    (((okQ y1002 y1003) ≠ 0 →
                     (((bool01 (decide (0 ≤ (usedZ y1002 y1003)))) ≠ 0 →
                      (((bool01 (decide ((usedZ y1002 y1003) ≤ 1000000))) ≠ 0 →
                       (((bool01 (decide (0 ≤ (usedZ y1004 y1005)))) ≠ 0 →
                        (((bool01 (decide ((usedZ y1004 y1005) ≤ 1000000))) ≠ 0 →
                         (((iteZ (bool01 ((usedZ y1002 y1003) == (usedZ y1004 y1005))) (sameB (secC y1002 y1003) (secC y1004 y1005) (usedZ y1002 y1003)) 0) ≠ 0 →
                          ((1 : Int) ≠ 0 ↔ (1 : Int) ≠ 0) ∧ True) ∧ ((iteZ (bool01 ((usedZ y1002 y1003) == (usedZ y1004 y1005))) (sameB (secC y1002 y1003) (secC y1004 y1005) (usedZ y1002 y1003)) 0) = 0 →
                          ((0 : Int) ≠ 0 ↔ (1 : Int) ≠ 0) ∧ True))) ∧ ((bool01 (decide ((usedZ y1004 y1005) ≤ 1000000))) = 0 →
                         False))) ∧ ((bool01 (decide (0 ≤ (usedZ y1004 y1005)))) = 0 →
                        False))) ∧ ((bool01 (decide ((usedZ y1002 y1003) ≤ 1000000))) = 0 →
                       False))) ∧ ((bool01 (decide (0 ≤ (usedZ y1002 y1003)))) = 0 →
                      False))) ∧ ((okQ y1002 y1003) = 0 →
                     False))) ∧ ((iteZ (bool01 (y1003 == y1005)) (sameRg y1002 y1004 y1003) 0) = 0 →
                    ((0 : Int) ≠ 0 ↔ (1 : Int) ≠ 0) ∧ True))))))))))))))) ∧ ((okQ y1004 y1005) = 0 →
             False))) ∧ ((bool01 (decide (y1005 ≤ 100))) = 0 →
            False))) ∧ ((bool01 (decide (y1003 ≤ 100))) = 0 →
           False))))))))) ∧ ((bool01 (decide (100 < (slenZ (rdZ (rdZ c1 y1000) 0))))) = 0 →
       ∀ y1007 : Int, y1007 = (IntKind.wrap .i64 (rdZ (rdZ c1 y1000) 1)) → ((-9223372036854775808) ≤ y1007 ∧ y1007 ≤ 9223372036854775807) →
       (((bool01 (decide (y1003 ≤ 100))) ≠ 0 →
        ∀ y1008 : Int, y1008 = (iteZ (bool01 ((allE y1002 y1003 (consZ (rdZ (rdZ c1 y1000) 0) (consZ y1007 (consZ p0 (consZ y1001 0))))) == 0)) y1001 0) → ((-9223372036854775808) ≤ y1008 ∧ y1008 ≤ 9223372036854775807) →
        ∀ y1009 : Int, y1009 = (allE y1002 y1003 (consZ (rdZ (rdZ c1 y1000) 0) (consZ y1007 (consZ p0 (consZ y1001 0))))) → (0 ≤ y1009 ∧ y1009 ≤ 11) →
        (((bool01 (decide (y1005 ≤ 100))) ≠ 0 →
         ∀ y1010 : Int, y1010 = (iteZ (bool01 ((allE y1004 y1005 (consZ (rdZ (rdZ c1 y1000) 0) (consZ y1007 (consZ p0 (consZ (usedZ y1004 y1005) 0))))) == 0)) (usedZ y1004 y1005) 0) → ((-9223372036854775808) ≤ y1010 ∧ y1010 ≤ 9223372036854775807) →
         ∀ y1011 : Int, y1011 = (allE y1004 y1005 (consZ (rdZ (rdZ c1 y1000) 0) (consZ y1007 (consZ p0 (consZ (usedZ y1004 y1005) 0))))) → (0 ≤ y1011 ∧ y1011 ≤ 11) →
         (((bool01 (y1008 != y1010)) ≠ 0 →
          (((bool01 ((1 : Int) == 0)) ≠ 0 →
           ((1 : Int) ≠ 0 ↔ (1 : Int) ≠ 0) ∧ True) ∧ ((bool01 ((1 : Int) == 0)) = 0 →
           (((bool01 ((1 : Int) == 1)) ≠ 0 →
            ((0 : Int) ≠ 0 ↔ (1 : Int) ≠ 0) ∧ True) ∧ ((bool01 ((1 : Int) == 1)) = 0 →
            (((bool01 ((1 : Int) == 2)) ≠ 0 →
             ((0 : Int) ≠ 0 ↔ (1 : Int) ≠ 0) ∧ True) ∧ ((bool01 ((1 : Int) == 2)) = 0 →
             (((bool01 (decide (y1003 ≤ 100))) ≠ 0 →
              (((bool01 (decide (y1005 ≤ 100))) ≠ 0 →
               (((okQ y1004 y1005) ≠ 0 →
                (((bool01 ((iteZ (seqZ (iteZ (bool01 (decide (0 ≤ (findZ y1002 y1003 s2)))) (rdZ (rdZ y1002 (findZ y1002 y1003 s2)) 0) 0) (iteZ (bool01 (decide (0 ≤ (findZ y1004 y1005 s2)))) (rdZ (rdZ y1004 (findZ y1004 y1005 s2)) 0) 0)) (iteZ (bool01 ((iteZ (bool01 (decide (0 ≤ (findZ y1002 y1003 s2)))) (IntKind.wrap .i64 (rdZ (rdZ y1002 (findZ y1002 y1003 s2)) 1)) 0) == (iteZ (bool01 (decide (0 ≤ (findZ y1004 y1005 s2)))) (IntKind.wrap .i64 (rdZ (rdZ y1004 (findZ y1004 y1005 s2)) 1)) 0))) (iteZ (bool01 ((iteZ (bool01 (decide (0 ≤ (findZ y1002 y1003 s2)))) (IntKind.wrap .i64 (rdZ (rdZ y1002 (findZ y1002 y1003 s2)) 2)) 0) == (iteZ (bool01 (decide (0 ≤ (findZ y1004 y1005 s2)))) (IntKind.wrap .i64 (rdZ (rdZ y1004 (findZ y1004 y1005 s2)) 2)) 0))) (bool01 ((bool01 ((iteZ (bool01 (decide (0 ≤ (findZ y1002 y1003 s2)))) (rdZ (rdZ y1002 (findZ y1002 y1003 s2)) 3) 0) == 0)) == (bool01 ((iteZ (bool01 (decide (0 ≤ (findZ y1004 y1005 s2)))) (rdZ (rdZ y1004 (findZ y1004 y1005 s2)) 3) 0) == 0)))) 0) 0) 0) == 0)) ≠ 0 →
                 ((0 : Int) ≠ 0 ↔ (1 : Int) ≠ 0) ∧ True) ∧ ((bool01 ((iteZ (seqZ (iteZ (bool01 (decide (0 ≤ (findZ y1002 y1003 s2)))) (rdZ (rdZ y1002 (findZ y1002 y1003 s2)) 0) 0) (iteZ (bool01 (decide (0 ≤ (findZ y1004 y1005 s2)))) (rdZ (rdZ y1004 (findZ y1004 y1005 s2)) 0) 0)) (iteZ (bool01 ((iteZ (bool01 (decide (0 ≤ (findZ y1002 y1003 s2)))) (IntKind.wrap .i64 (rdZ (rdZ y1002 (findZ y1002 y1003 s2)) 1)) 0) == (iteZ (bool01 (decide (0 ≤ (findZ y1004 y1005 s2)))) (IntKind.wrap .i64 (rdZ (rdZ y1004 (findZ y1004 y1005 s2)) 1)) 0))) (iteZ (bool01 ((iteZ (bool01 (decide (0 ≤ (findZ y1002 y1003 s2)))) (IntKind.wrap .i64 (rdZ (rdZ y1002 (findZ y1002 y1003 s2)) 2)) 0) == (iteZ (bool01 (decide (0 ≤ (findZ y1004 y1005 s2)))) (IntKind.wrap .i64 (rdZ (rdZ y1004 (findZ y1004 y1005 s2)) 2)) 0))) (bool01 ((bool01 ((iteZ (bool01 (decide (0 ≤ (findZ y1002 y1003 s2)))) (rdZ (rdZ y1002 (findZ y1002 y1003 s2)) 3) 0) == 0)) == (bool01 ((iteZ (bool01 (decide (0 ≤ (findZ y1004 y1005 s2)))) (rdZ (rdZ y1004 (findZ y1004 y1005 s2)) 3) 0) == 0)))) 0) 0) 0) == 0)) = 0 →
                 (((bool01 ((bool01 ((bool01 (decide (0 ≤ (findZ y1002 y1003 s2)))) == 0)) != (bool01 ((bool01 (decide (0 ≤ (findZ y1004 y1005 s2)))) == 0)))) ≠ 0 →
                  ((0 : Int) ≠ 0 ↔ (1 : Int) ≠ 0) ∧ True) ∧ ((bool01 ((bool01 ((bool01 (decide (0 ≤ (findZ y1002 y1003 s2)))) == 0)) != (bool01 ((bool01 (decide (0 ≤ (findZ y1004 y1005 s2)))) == 0)))) = 0 →
                  (((bool01 ((iteZ (seqZ (iteZ (bool01 (decide (0 ≤ (atZ y1002 y1003 p3)))) (rdZ (rdZ y1002 (atZ y1002 y1003 p3)) 0) 0) (iteZ (bool01 (decide (0 ≤ (atZ y1004 y1005 p3)))) (rdZ (rdZ y1004 (atZ y1004 y1005 p3)) 0) 0)) (iteZ (bool01 ((iteZ (bool01 (decide (0 ≤ (atZ y1002 y1003 p3)))) (IntKind.wrap .i64 (rdZ (rdZ y1002 (atZ y1002 y1003 p3)) 1)) 0) == (iteZ (bool01 (decide (0 ≤ (atZ y1004 y1005 p3)))) (IntKind.wrap .i64 (rdZ (rdZ y1004 (atZ y1004 y1005 p3)) 1)) 0))) (iteZ (bool01 ((iteZ (bool01 (decide (0 ≤ (atZ y1002 y1003 p3)))) (IntKind.wrap .i64 (rdZ (rdZ y1002 (atZ y1002 y1003 p3)) 2)) 0) == (iteZ (bool01 (decide (0 ≤ (atZ y1004 y1005 p3)))) (IntKind.wrap .i64 (rdZ (rdZ y1004 (atZ y1004 y1005 p3)) 2)) 0))) (bool01 ((bool01 ((iteZ (bool01 (decide (0 ≤ (atZ y1002 y1003 p3)))) (rdZ (rdZ y1002 (atZ y1002 y1003 p3)) 3) 0) == 0)) == (bool01 ((iteZ (bool01 (decide (0 ≤ (atZ y1004 y1005 p3)))) (rdZ (rdZ y1004 (atZ y1004 y1005 p3)) 3) 0) == 0)))) 0) 0) 0) == 0)) ≠ 0 →
                   ((0 : Int) ≠ 0 ↔ (1 : Int) ≠ 0) ∧ True) ∧ ((bool01 ((iteZ (seqZ (iteZ (bool01 (decide (0 ≤ (atZ y1002 y1003 p3)))) (rdZ (rdZ y1002 (atZ y1002 y1003 p3)) 0) 0) (iteZ (bool01 (decide (0 ≤ (atZ y1004 y1005 p3)))) (rdZ (rdZ y1004 (atZ y1004 y1005 p3)) 0) 0)) (iteZ (bool01 ((iteZ (bool01 (decide (0 ≤ (atZ y1002 y1003 p3)))) (IntKind.wrap .i64 (rdZ (rdZ y1002 (atZ y1002 y1003 p3)) 1)) 0) == (iteZ (bool01 (decide (0 ≤ (atZ y1004 y1005 p3)))) (IntKind.wrap .i64 (rdZ (rdZ y1004 (atZ y1004 y1005 p3)) 1)) 0))) (iteZ (bool01 ((iteZ (bool01 (decide (0 ≤ (atZ y1002 y1003 p3)))) (IntKind.wrap .i64 (rdZ (rdZ y1002 (atZ y1002 y1003 p3)) 2)) 0) == (iteZ (bool01 (decide (0 ≤ (atZ y1004 y1005 p3)))) (IntKind.wrap .i64 (rdZ (rdZ y1004 (atZ y1004 y1005 p3)) 2)) 0))) (bool01 ((bool01 ((iteZ (bool01 (decide (0 ≤ (atZ y1002 y1003 p3)))) (rdZ (rdZ y1002 (atZ y1002 y1003 p3)) 3) 0) == 0)) == (bool01 ((iteZ (bool01 (decide (0 ≤ (atZ y1004 y1005 p3)))) (rdZ (rdZ y1004 (atZ y1004 y1005 p3)) 3) 0) == 0)))) 0) 0) 0) == 0)) = 0 →
                   (((bool01 ((iteZ (bool01 (decide (0 ≤ (atZ y1002 y1003 p3)))) (IntKind.wrap .i64 (p3 - (IntKind.wrap .i64 (rdZ (rdZ y1002 (atZ y1002 y1003 p3)) 1)))) 0) != (iteZ (bool01 (decide (0 ≤ (atZ y1004 y1005 p3)))) (IntKind.wrap .i64 (p3 - (IntKind.wrap .i64 (rdZ (rdZ y1004 (atZ y1004 y1005 p3)) 1)))) 0))) ≠ 0 →
                    ((0 : Int) ≠ 0 ↔ (1 : Int) ≠ 0) ∧ True) ∧ ((bool01 ((iteZ (bool01 (decide (0 ≤ (atZ y1002 y1003 p3)))) (IntKind.wrap .i64 (p3 - (IntKind.wrap .i64 (rdZ (rdZ y1002 (atZ y1002 y1003 p3)) 1)))) 0) != (iteZ (bool01 (decide (0 ≤ (atZ y1004 y1005 p3)))) (IntKind.wrap .i64 (p3 - (IntKind.wrap .i64 (rdZ (rdZ y1004 (atZ y1004 y1005 p3)) 1)))) 0))) = 0 →
                    (((bool01 ((bool01 ((bool01 (decide (0 ≤ (atZ y1002 y1003 p3)))) == 0)) != (bool01 ((bool01 (decide (0 ≤ (atZ y1004 y1005 p3)))) == 0)))) ≠ 0 →
                     ((0 : Int) ≠ 0 ↔ (1 : Int) ≠ 0) ∧ True) ∧ ((bool01 ((bool01 ((bool01 (decide (0 ≤ (atZ y1002 y1003 p3)))) == 0)) != (bool01 ((bool01 (decide (0 ≤ (atZ y1004 y1005 p3)))) == 0)))) = 0 →
                     (((bool01 (y1001 != (usedZ y1004 y1005))) ≠ 0 →
                      ((0 : Int) ≠ 0 ↔ (1 : Int) ≠ 0) ∧ True) ∧ ((bool01 (y1001 != (usedZ y1004 y1005))) = 0 →
                      (((iteZ (bool01 (y1003 == y1005)) (sameRg y1002 y1004 y1003) 0) ≠ 0 →
                       (((okQ y1002 y1003) ≠ 0 →
                        (((bool01 (decide (0 ≤ (usedZ y1002 y1003)))) ≠ 0 →
                         (((bool01 (decide ((usedZ y1002 y1003) ≤ 1000000))) ≠ 0 →
                          (((bool01 (decide (0 ≤ (usedZ y1004 y1005)))) ≠ 0 →
                           (((bool01 (decide ((usedZ y1004 y1005) ≤ 1000000))) ≠ 0 →
                            (((iteZ (bool01 ((usedZ y1002 y1003) == (usedZ y1004 y1005))) (sameB (secC y1002 y1003) (secC y1004 y1005) (usedZ y1002 y1003)) 0) ≠ 0 →
                             ((1 : Int) ≠ 0 ↔ (1 : Int) ≠ 0) ∧ True) ∧ ((iteZ (bool01 ((usedZ y1002 y1003) == (usedZ y1004 y1005))) (sameB (secC y1002 y1003) (secC y1004 y1005) (usedZ y1002 y1003)) 0) = 0 →
                             ((0 : Int) ≠ 0 ↔ (1 : Int) ≠ 0) ∧ True))) ∧ ((bool01 (decide ((usedZ y1004 y1005) ≤ 1000000))) = 0 →
                            False))) ∧ ((bool01 (decide (0 ≤ (usedZ y1004 y1005)))) = 0 →
                           False))) ∧ ((bool01 (decide ((usedZ y1002 y1003) ≤ 1000000))) = 0 →
                          False))) ∧ ((bool01 (decide (0 ≤ (usedZ y1002 y1003)))) = 0 →
                         False))) ∧ ((okQ y1002 y1003) = 0 →
                        False))) ∧ ((iteZ (bool01 (y1003 == y1005)) (sameRg y1002 y1004 y1003) 0) = 0 →
                       ((0 : Int) ≠ 0 ↔ (1 : Int) ≠ 0) ∧ True))))))))))))))) ∧ ((okQ y1004 y1005) = 0 →
                False))) ∧ ((bool01 (decide (y1005 ≤ 100))) = 0 →
               False))) ∧ ((bool01 (decide (y1003 ≤ 100))) = 0 →
              False))))))))) ∧ ((bool01 (y1008 != y1010)) = 0 →
          (((bool01 (y1009 != y1011)) ≠ 0 →
           (((bool01 ((2 : Int) == 0)) ≠ 0 →
            ((1 : Int) ≠ 0 ↔ (1 : Int) ≠ 0) ∧ True) ∧ ((bool01 ((2 : Int) == 0)) = 0 →
            (((bool01 ((2 : Int) == 1)) ≠ 0 →
             ((0 : Int) ≠ 0 ↔ (1 : Int) ≠ 0) ∧ True) ∧ ((bool01 ((2 : Int) == 1)) = 0 →
             (((bool01 ((2 : Int) == 2)) ≠ 0 →
              ((0 : Int) ≠ 0 ↔ (1 : Int) ≠ 0) ∧ True) ∧ ((bool01 ((2 : Int) == 2)) = 0 →
              (((bool01 (decide (y1003 ≤ 100))) ≠ 0 →
               (((bool01 (decide (y1005 ≤ 100))) ≠ 0 →
                (((okQ y1004 y1005) ≠ 0 →
                 (((bool01 ((iteZ (seqZ (iteZ (bool01 (decide (0 ≤ (findZ y1002 y1003 s2)))) (rdZ (rdZ y1002 (findZ y1002 y1003 s2)) 0) 0) (iteZ (bool01 (decide (0 ≤ (findZ y1004 y1005 s2)))) (rdZ (rdZ y1004 (findZ y1004 y1005 s2)) 0) 0)) (iteZ (bool01 ((iteZ (bool01 (decide (0 ≤ (findZ y1002 y1003 s2)))) (IntKind.wrap .i64 (rdZ (rdZ y1002 (findZ y1002 y1003 s2)) 1)) 0) == (iteZ (bool01 (decide (0 ≤ (findZ y1004 y1005 s2)))) (IntKind.wrap .i64 (rdZ (rdZ y1004 (findZ y1004 y1005 s2)) 1)) 0))) (iteZ (bool01 ((iteZ (bool01 (decide (0 ≤ (findZ y1002 y1003 s2)))) (IntKind.wrap .i64 (rdZ (rdZ y1002 (findZ y1002 y1003 s2)) 2)) 0) == (iteZ (bool01 (decide (0 ≤ (findZ y1004 y1005 s2)))) (IntKind.wrap .i64 (rdZ (rdZ y1004 (findZ y1004 y1005 s2)) 2)) 0))) (bool01 ((bool01 ((iteZ (bool01 (decide (0 ≤ (findZ y1002 y1003 s2)))) (rdZ (rdZ y1002 (findZ y1002 y1003 s2)) 3) 0) == 0)) == (bool01 ((iteZ (bool01 (decide (0 ≤ (findZ y1004 y1005 s2)))) (rdZ (rdZ y1004 (findZ y1004 y1005 s2)) 3) 0) == 0)))) 0) 0) 0) == 0)) ≠ 0 →
                  ((0 : Int) ≠ 0 ↔ (1 : Int) ≠ 0) ∧ True) ∧ ((bool01 ((iteZ (seqZ (iteZ (bool01 (decide (0 ≤ (findZ y1002 y1003 s2)))) (rdZ (rdZ y1002 (findZ y1002 y1003 s2)) 0) 0) (iteZ (bool01 (decide (0 ≤ (findZ y1004 y1005 s2)))) (rdZ (rdZ y1004 (findZ y1004 y1005 s2)) 0) 0)) (iteZ (bool01 ((iteZ (bool01 (decide (0 ≤ (findZ y1002 y1003 s2)))) (IntKind.wrap .i64 (rdZ (rdZ y1002 (findZ y1002 y1003 s2)) 1)) 0) == (iteZ (bool01 (decide (0 ≤ (findZ y1004 y1005 s2)))) (IntKind.wrap .i64 (rdZ (rdZ y1004 (findZ y1004 y1005 s2)) 1)) 0))) (iteZ (bool01 ((iteZ (bool01 (decide (0 ≤ (findZ y1002 y1003 s2)))) (IntKind.wrap .i64 (rdZ (rdZ y1002 (findZ y1002 y1003 s2)) 2)) 0) == (iteZ (bool01 (decide (0 ≤ (findZ y1004 y1005 s2)))) (IntKind.wrap .i64 (rdZ (rdZ y1004 (findZ y1004 y1005 s2)) 2)) 0))) (bool01 ((bool01 ((iteZ (bool01 (decide (0 ≤ (findZ y1002 y1003 s2)))) (rdZ (rdZ y1002 (findZ y1002 y1003 s2)) 3) 0) == 0)) == (bool01 ((iteZ (bool01 (decide (0 ≤ (findZ y1004 y1005 s2)))) (rdZ (rdZ y1004 (findZ y1004 y1005 s2)) 3) 0) == 0)))) 0) 0) 0) == 0)) = 0 →
                  (((bool01 ((bool01 ((bool01 (decide (0 ≤ (findZ y1002 y1003 s2)))) == 0)) != (bool01 ((bool01 (decide (0 ≤ (findZ y1004 y1005 s2)))) == 0)))) ≠ 0 →
                   ((0 : Int) ≠ 0 ↔ (1 : Int) ≠ 0) ∧ True) ∧ ((bool01 ((bool01 ((bool01 (decide (0 ≤ (findZ y1002 y1003 s2)))) == 0)) != (bool01 ((bool01 (decide (0 ≤ (findZ y1004 y1005 s2)))) == 0)))) = 0 →
                   (((bool01 ((iteZ (seqZ (iteZ (bool01 (decide (0 ≤ (atZ y1002 y1003 p3)))) (rdZ (rdZ y1002 (atZ y1002 y1003 p3)) 0) 0) (iteZ (bool01 (decide (0 ≤ (atZ y1004 y1005 p3)))) (rdZ (rdZ y1004 (atZ y1004 y1005 p3)) 0) 0)) (iteZ (bool01 ((iteZ (bool01 (decide (0 ≤ (atZ y1002 y1003 p3)))) (IntKind.wrap .i64 (rdZ (rdZ y1002 (atZ y1002 y1003 p3)) 1)) 0) == (iteZ (bool01 (decide (0 ≤ (atZ y1004 y1005 p3)))) (IntKind.wrap .i64 (rdZ (rdZ y1004 (atZ y1004 y1005 p3)) 1)) 0))) (iteZ (bool01 ((iteZ (bool01 (decide (0 ≤ (atZ y1002 y1003 p3)))) (IntKind.wrap .i64 (rdZ (rdZ y1002 (atZ y1002 y1003 p3)) 2)) 0) == (iteZ (bool01 (decide (0 ≤ (atZ y1004 y1005 p3)))) (IntKind.wrap .i64 (rdZ (rdZ y1004 (atZ y1004 y1005 p3)) 2)) 0))) (bool01 ((bool01 ((iteZ (bool01 (decide (0 ≤ (atZ y1002 y1003 p3)))) (rdZ (rdZ y1002 (atZ y1002 y1003 p3)) 3) 0) == 0)) == (bool01 ((iteZ (bool01 (decide (0 ≤ (atZ y1004 y1005 p3)))) (rdZ (rdZ y1004 (atZ y1004 y1005 p3)) 3) 0) == 0)))) 0) 0) 0) == 0)) ≠ 0 →
                    ((0 : Int) ≠ 0 ↔ (1 : Int) ≠ 0) ∧ True) ∧ ((bool01 ((iteZ (seqZ (iteZ (bool01 (decide (0 ≤ (atZ y1002 y1003 p3)))) (rdZ (rdZ y1002 (atZ y1002 y1003 p3)) 0) 0) (iteZ (bool01 (decide (0 ≤ (atZ y1004 y1005 p3)))) (rdZ (rdZ y1004 (atZ y1004 y1005 p3)) 0) 0)) (iteZ (bool01 ((iteZ (bool01 (decide (0 ≤ (atZ y1002 y1003 p3)))) (IntKind.wrap .i64 (rdZ (rdZ y1002 (atZ y1002 y1003 p3)) 1)) 0) == (iteZ (bool01 (decide (0 ≤ (atZ y1004 y1005 p3)))) (IntKind.wrap .i64 (rdZ (rdZ y1004 (atZ y1004 y1005 p3)) 1)) 0))) (iteZ (bool01 ((iteZ (bool01 (decide (0 ≤ (atZ y1002 y1003 p3)))) (IntKind.wrap .i64 (rdZ (rdZ y1002 (atZ y1002 y1003 p3)) 2)) 0) == (iteZ (bool01 (decide (0 ≤ (atZ y1004 y1005 p3)))) (IntKind.wrap .i64 (rdZ (rdZ y1004 (atZ y1004 y1005 p3)) 2)) 0))) (bool01 ((bool01 ((iteZ (bool01 (decide (0 ≤ (atZ y1002 y1003 p3)))) (rdZ (rdZ y1002 (atZ y1002 y1003 p3)) 3) 0) == 0)) == (bool01 ((iteZ (bool01 (decide (0 ≤ (atZ y1004 y1005 p3)))) (rdZ (rdZ y1004 (atZ y1004 y1005 p3)) 3) 0) == 0)))) 0) 0) 0) == 0)) = 0 →
                    (((bool01 ((iteZ (bool01 (decide (0 ≤ (atZ y1002 y1003 p3)))) (IntKind.wrap .i64 (p3 - (IntKind.wrap .i64 (rdZ (rdZ y1002 (atZ y1002 y1003 p3)) 1)))) 0) != (iteZ (bool01 (decide (0 ≤ (atZ y1004 y1005 p3)))) (IntKind.wrap .i64 (p3 - (IntKind.wrap .i64 (rdZ (rdZ y1004 (atZ y1004 y1005 p3)) 1)))) 0))) ≠ 0 →
                     ((0 : Int) ≠ 0 ↔ (1 : Int) ≠ 0) ∧ True) ∧ ((bool01 ((iteZ (bool01 (decide (0 ≤ (atZ y1002 y1003 p3)))) (IntKind.wrap .i64 (p3 - (IntKind.wrap .i64 (rdZ (rdZ y1002 (atZ y1002 y1003 p3)) 1)))) 0) != (iteZ (bool01 (decide (0 ≤ (atZ y1004 y1005 p3)))) (IntKind.wrap .i64 (p3 - (IntKind.wrap .i64 (rdZ (rdZ y1004 (atZ y1004 y1005 p3)) 1)))) 0))) = 0 →
                     (((bool01 ((bool01 ((bool01 (decide (0 ≤ (atZ y1002 y1003 p3)))) == 0)) != (bool01 ((bool01 (decide (0 ≤ (atZ y1004 y1005 p3)))) == 0)))) ≠ 0 →
                      ((0 : Int) ≠ 0 ↔ (1 : Int) ≠ 0) ∧ True) ∧ ((bool01 ((bool01 ((bool01 (decide (0 ≤ (atZ y1002 y1003 p3)))) == 0)) != (bool01 ((bool01 (decide (0 ≤ (atZ y1004 y1005 p3)))) == 0)))) = 0 →
                      (((bool01 (y1001 != (usedZ y1004 y1005))) ≠ 0 →
                       ((0 : Int) ≠ 0 ↔ (1 : Int) ≠ 0) ∧ True) ∧ ((bool01 (y1001 != (usedZ y1004 y1005))) = 0 →
                       (((iteZ (bool01 (y1003 == y1005)) (sameRg y1002 y1004 y1003) 0) ≠ 0 →
                        (((okQ y1002 y1003) ≠ 0 →
                         (((bool01 (decide (0 ≤ (usedZ y1002 y1003)))) ≠ 0 →
                          (((bool01 (decide ((usedZ y1002 y1003) ≤ 1000000))) ≠ 0 →
                           (((bool01 (decide (0 ≤ (usedZ y1004 y1005)))) ≠ 0 →
                            (((bool01 (decide ((usedZ y1004 y1005) ≤ 1000000))) ≠ 0 →
                             (((iteZ (bool01 ((usedZ y1002 y1003) == (usedZ y1004 y1005))) (sameB (secC y1002 y1003) (secC y1004 y1005) (usedZ y1002 y1003)) 0) ≠ 0 →
                              ((1 : Int) ≠ 0 ↔ (1 : Int) ≠ 0) ∧ True) ∧ ((iteZ (bool01 ((usedZ y1002 y1003) == (usedZ y1004 y1005))) (sameB (secC y1002 y1003) (secC y1004 y1005) (usedZ y1002 y1003)) 0) = 0 →
                              ((0 : Int) ≠ 0 ↔ (1 : Int) ≠ 0) ∧ True))) ∧ ((bool01 (decide ((usedZ y1004 y1005) ≤ 1000000))) = 0 →
                             False))) ∧ ((bool01 (decide (0 ≤ (usedZ y1004 y1005)))) = 0 →
                            False))) ∧ ((bool01 (decide ((usedZ y1002 y1003) ≤ 1000000))) = 0 →
                           False))) ∧ ((bool01 (decide (0 ≤ (usedZ y1002 y1003)))) = 0 →
                          False))) ∧ ((okQ y1002 y1003) = 0 →
                         False))) ∧ ((iteZ (bool01 (y1003 == y1005)) (sameRg y1002 y1004 y1003) 0) = 0 →
                        ((0 : Int) ≠ 0 ↔ (1 : Int) ≠ 0) ∧ True))))))))))))))) ∧ ((okQ y1004 y1005) = 0 →
                 False))) ∧ ((bool01 (decide (y1005 ≤ 100))) = 0 →
                False))) ∧ ((bool01 (decide (y1003 ≤ 100))) = 0 →
               False))))))))) ∧ ((bool01 (y1009 != y1011)) = 0 →
           (((bool01 (decide ((y1000 + 1) ≤ 4611686018427387904))) ≠ 0 →
            (((bool01 (decide ((y1003 + (bool01 ((allE y1002 y1003 (consZ (rdZ (rdZ c1 y1000) 0) (consZ y1007 (consZ p0 (consZ y1001 0))))) == 0))) ≤ 1000000))) ≠ 0 →
             (((bool01 (decide ((y1005 + (bool01 ((allE y1004 y1005 (consZ (rdZ (rdZ c1 y1000) 0) (consZ y1007 (consZ p0 (consZ (usedZ y1004 y1005) 0))))) == 0))) ≤ 1000000))) ≠ 0 →
              ∃ m', m' < m1000 ∧ I1000 (y1000 + 1) (iteZ (bool01 ((allE y1002 y1003 (consZ (rdZ (rdZ c1 y1000) 0) (consZ y1007 (consZ p0 (consZ y1001 0))))) == 0)) (IntKind.wrap .i64 (y1001 + y1007)) y1001) (iteZ (bool01 ((allE y1002 y1003 (consZ (rdZ (rdZ c1 y1000) 0) (consZ y1007 (consZ p0 (consZ y1001 0))))) == 0)) (allQ y1002 y1003 (consZ (rdZ (rdZ c1 y1000) 0) (consZ y1001 (consZ y1007 (consZ (rdZ (rdZ c1 y1000) 2) 0))))) y1002) (y1003 + (bool01 ((allE y1002 y1003 (consZ (rdZ (rdZ c1 y1000) 0) (consZ y1007 (consZ p0 (consZ y1001 0))))) == 0))) (iteZ (bool01 ((allE y1004 y1005 (consZ (rdZ (rdZ c1 y1000) 0) (consZ y1007 (consZ p0 (consZ (usedZ y1004 y1005) 0))))) == 0)) (allQ y1004 y1005 (consZ (rdZ (rdZ c1 y1000) 0) (consZ (usedZ y1004 y1005) (consZ y1007 (consZ (rdZ (rdZ c1 y1000) 2) 0))))) y1004) (y1005 + (bool01 ((allE y1004 y1005 (consZ (rdZ (rdZ c1 y1000) 0) (consZ y1007 (consZ p0 (consZ (usedZ y1004 y1005) 0))))) == 0))) m') ∧ ((bool01 (decide ((y1005 + (bool01 ((allE y1004 y1005 (consZ (rdZ (rdZ c1 y1000) 0) (consZ y1007 (consZ p0 (consZ (usedZ y1004 y1005) 0))))) == 0))) ≤ 1000000))) = 0 →
              False))) ∧ ((bool01 (decide ((y1003 + (bool01 ((allE y1002 y1003 (consZ (rdZ (rdZ c1 y1000) 0) (consZ y1007 (consZ p0 (consZ y1001 0))))) == 0))) ≤ 1000000))) = 0 →
             False))) ∧ ((bool01 (decide ((y1000 + 1) ≤ 4611686018427387904))) = 0 →
            False))))))) ∧ ((bool01 (decide (y1005 ≤ 100))) = 0 →
         False))) ∧ ((bool01 (decide (y1003 ≤ 100))) = 0 →
        False))))) ∧ ((bool01 (decide (y1000 < n1))) = 0 →
      (((bool01 ((3 : Int) == 0)) ≠ 0 →
       ((1 : Int) ≠ 0 ↔ (1 : Int) ≠ 0) ∧ True) ∧ ((bool01 ((3 : Int) == 0)) = 0 →
       (((bool01 ((3 : Int) == 1)) ≠ 0 →
        ((0 : Int) ≠ 0 ↔ (1 : Int) ≠ 0) ∧ True) ∧ ((bool01 ((3 : Int) == 1)) = 0 →
        (((bool01 ((3 : Int) == 2)) ≠ 0 →
         ((0 : Int) ≠ 0 ↔ (1 : Int) ≠ 0) ∧ True) ∧ ((bool01 ((3 : Int) == 2)) = 0 →
         (((bool01 (decide (y1003 ≤ 100))) ≠ 0 →
          (((bool01 (decide (y1005 ≤ 100))) ≠ 0 →
           (((okQ y1004 y1005) ≠ 0 →
            (((bool01 ((iteZ (seqZ (iteZ (bool01 (decide (0 ≤ (findZ y1002 y1003 s2)))) (rdZ (rdZ y1002 (findZ y1002 y1003 s2)) 0) 0) (iteZ (bool01 (decide (0 ≤ (findZ y1004 y1005 s2)))) (rdZ (rdZ y1004 (findZ y1004 y1005 s2)) 0) 0)) (iteZ (bool01 ((iteZ (bool01 (decide (0 ≤ (findZ y1002 y1003 s2)))) (IntKind.wrap .i64 (rdZ (rdZ y1002 (findZ y1002 y1003 s2)) 1)) 0) == (iteZ (bool01 (decide (0 ≤ (findZ y1004 y1005 s2)))) (IntKind.wrap .i64 (rdZ (rdZ y1004 (findZ y1004 y1005 s2)) 1)) 0))) (iteZ (bool01 ((iteZ (bool01 (decide (0 ≤ (findZ y1002 y1003 s2)))) (IntKind.wrap .i64 (rdZ (rdZ y1002 (findZ y1002 y1003 s2)) 2)) 0) == (iteZ (bool01 (decide (0 ≤ (findZ y1004 y1005 s2)))) (IntKind.wrap .i64 (rdZ (rdZ y1004 (findZ y1004 y1005 s2)) 2)) 0))) (bool01 ((bool01 ((iteZ (bool01 (decide (0 ≤ (findZ y1002 y1003 s2)))) (rdZ (rdZ y1002 (findZ y1002 y1003 s2)) 3) 0) == 0)) == (bool01 ((iteZ (bool01 (decide (0 ≤ (findZ y1004 y1005 s2)))) (rdZ (rdZ y1004 (findZ y1004 y1005 s2)) 3) 0) == 0)))) 0) 0) 0) == 0)) ≠ 0 →
             ((0 : Int) ≠ 0 ↔ (1 : Int) ≠ 0) ∧ True) ∧ ((bool01 ((iteZ (seqZ (iteZ (bool01 (decide (0 ≤ (findZ y1002 y1003 s2)))) (rdZ (rdZ y1002 (findZ y1002 y1003 s2)) 0) 0) (iteZ (bool01 (decide (0 ≤ (findZ y1004 y1005 s2)))) (rdZ (rdZ y1004 (findZ y1004 y1005 s2)) 0) 0)) (iteZ (bool01 ((iteZ (bool01 (decide (0 ≤ (findZ y1002 y1003 s2)))) (IntKind.wrap .i64 (rdZ (rdZ y1002 (findZ y1002 y1003 s2)) 1)) 0) == (iteZ (bool01 (decide (0 ≤ (findZ y1004 y1005 s2)))) (IntKind.wrap .i64 (rdZ (rdZ y1004 (findZ y1004 y1005 s2)) 1)) 0))) (iteZ (bool01 ((iteZ (bool01 (decide (0 ≤ (findZ y1002 y1003 s2)))) (IntKind.wrap .i64 (rdZ (rdZ y1002 (findZ y1002 y1003 s2)) 2)) 0) == (iteZ (bool01 (decide (0 ≤ (findZ y1004 y1005 s2)))) (IntKind.wrap .i64 (rdZ (rdZ y1004 (findZ y1004 y1005 s2)) 2)) 0))) (bool01 ((bool01 ((iteZ (bool01 (decide (0 ≤ (findZ y1002 y1003 s2)))) (rdZ (rdZ y1002 (findZ y1002 y1003 s2)) 3) 0) == 0)) == (bool01 ((iteZ (bool01 (decide (0 ≤ (findZ y1004 y1005 s2)))) (rdZ (rdZ y1004 (findZ y1004 y1005 s2)) 3) 0) == 0)))) 0) 0) 0) == 0)) = 0 →
             (((bool01 ((bool01 ((bool01 (decide (0 ≤ (findZ y1002 y1003 s2)))) == 0)) != (bool01 ((bool01 (decide (0 ≤ (findZ y1004 y1005 s2)))) == 0)))) ≠ 0 →
              ((0 : Int) ≠ 0 ↔ (1 : Int) ≠ 0) ∧ True) ∧ ((bool01 ((bool01 ((bool01 (decide (0 ≤ (findZ y1002 y1003 s2)))) == 0)) != (bool01 ((bool01 (decide (0 ≤ (findZ y1004 y1005 s2)))) == 0)))) = 0 →
              (((bool01 ((iteZ (seqZ (iteZ (bool01 (decide (0 ≤ (atZ y1002 y1003 p3)))) (rdZ (rdZ y1002 (atZ y1002 y1003 p3)) 0) 0) (iteZ (bool01 (decide (0 ≤ (atZ y1004 y1005 p3)))) (rdZ (rdZ y1004 (atZ y1004 y1005 p3)) 0) 0)) (iteZ (bool01 ((iteZ (bool01 (decide (0 ≤ (atZ y1002 y1003 p3)))) (IntKind.wrap .i64 (rdZ (rdZ y1002 (atZ y1002 y1003 p3)) 1)) 0) == (iteZ (bool01 (decide (0 ≤ (atZ y1004 y1005 p3)))) (IntKind.wrap .i64 (rdZ (rdZ y1004 (atZ y1004 y1005 p3)) 1)) 0))) (iteZ (bool01 ((iteZ (bool01 (decide (0 ≤ (atZ y1002 y1003 p3)))) (IntKind.wrap .i64 (rdZ (rdZ y1002 (atZ y1002 y1003 p3)) 2)) 0) == (iteZ (bool01 (decide (0 ≤ (atZ y1004 y1005 p3)))) (IntKind.wrap .i64 (rdZ (rdZ y1004 (atZ y1004 y1005 p3)) 2)) 0))) (bool01 ((bool01 ((iteZ (bool01 (decide (0 ≤ (atZ y1002 y1003 p3)))) (rdZ (rdZ y1002 (atZ y1002 y1003 p3)) 3) 0) == 0)) == (bool01 ((iteZ (bool01 (decide (0 ≤ (atZ y1004 y1005 p3)))) (rdZ (rdZ y1004 (atZ y1004 y1005 p3)) 3) 0) == 0)))) 0) 0) 0) == 0)) ≠ 0 →
               ((0 : Int) ≠ 0 ↔ (1 : Int) ≠ 0) ∧ True) ∧ ((bool01 ((iteZ (seqZ (iteZ (bool01 (decide (0 ≤ (atZ y1002 y1003 p3)))) (rdZ (rdZ y1002 (atZ y1002 y1003 p3)) 0) 0) (iteZ (bool01 (decide (0 ≤ (atZ y1004 y1005 p3)))) (rdZ (rdZ y1004 (atZ y1004 y1005 p3)) 0) 0)) (iteZ (bool01 ((iteZ (bool01 (decide (0 ≤ (atZ y1002 y1003 p3)))) (IntKind.wrap .i64 (rdZ (rdZ y1002 (atZ y1002 y1003 p3)) 1)) 0) == (iteZ (bool01 (decide (0 ≤ (atZ y1004 y1005 p3)))) (IntKind.wrap .i64 (rdZ (rdZ y1004 (atZ y1004 y1005 p3)) 1)) 0))) (iteZ (bool01 ((iteZ (bool01 (decide (0 ≤ (atZ y1002 y1003 p3)))) (IntKind.wrap .i64 (rdZ (rdZ y1002 (atZ y1002 y1003 p3)) 2)) 0) == (iteZ (bool01 (decide (0 ≤ (atZ y1004 y1005 p3)))) (IntKind.wrap .i64 (rdZ (rdZ y1004 (atZ y1004 y1005 p3)) 2)) 0))) (bool01 ((bool01 ((iteZ (bool01 (decide (0 ≤ (atZ y1002 y1003 p3)))) (rdZ (rdZ y1002 (atZ y1002 y1003 p3)) 3) 0) == 0)) == (bool01 ((iteZ (bool01 (decide (0 ≤ (atZ y1004 y1005 p3)))) (rdZ (rdZ y1004 (atZ y1004 y1005 p3)) 3) 0) == 0)))) 0) 0) 0) == 0)) = 0 →
               (((bool01 ((iteZ (bool01 (decide (0 ≤ (atZ y1002 y1003 p3)))) (IntKind.wrap .i64 (p3 - (IntKind.wrap .i64 (rdZ (rdZ y1002 (atZ y1002 y1003 p3)) 1)))) 0) != (iteZ (bool01 (decide (0 ≤ (atZ y1004 y1005 p3)))) (IntKind.wrap .i64 (p3 - (IntKind.wrap .i64 (rdZ (rdZ y1004 (atZ y1004 y1005 p3)) 1)))) 0))) ≠ 0 →
                ((0 : Int) ≠ 0 ↔ (1 : Int) ≠ 0) ∧ True) ∧ ((bool01 ((iteZ (bool01 (decide (0 ≤ (atZ y1002 y1003 p3)))) (IntKind.wrap .i64 (p3 - (IntKind.wrap .i64 (rdZ (rdZ y1002 (atZ y1002 y1003 p3)) 1)))) 0) != (iteZ (bool01 (decide (0 ≤ (atZ y1004 y1005 p3)))) (IntKind.wrap .i64 (p3 - (IntKind.wrap .i64 (rdZ (rdZ y1004 (atZ y1004 y1005 p3)) 1)))) 0))) = 0 →
                (((bool01 ((bool01 ((bool01 (decide (0 ≤ (atZ y1002 y1003 p3)))) == 0)) != (bool01 ((bool01 (decide (0 ≤ (atZ y1004 y1005 p3)))) == 0)))) ≠ 0 →
                 ((0 : Int) ≠ 0 ↔ (1 : Int) ≠ 0) ∧ True) ∧ ((bool01 ((bool01 ((bool01 (decide (0 ≤ (atZ y1002 y1003 p3)))) == 0)) != (bool01 ((bool01 (decide (0 ≤ (atZ y1004 y1005 p3)))) == 0)))) = 0 →
                 (((bool01 (y1001 != (usedZ y1004 y1005))) ≠ 0 →
                  ((0 : Int) ≠ 0 ↔ (1 : Int) ≠ 0) ∧ True) ∧ ((bool01 (y1001 != (usedZ y1004 y1005))) = 0 →
                  (((iteZ (bool01 (y1003 == y1005)) (sameRg y1002 y1004 y1003) 0) ≠ 0 →
                   (((okQ y1002 y1003) ≠ 0 →
                    (((bool01 (decide (0 ≤ (usedZ y1002 y1003)))) ≠ 0 →
                     (((bool01 (decide ((usedZ y1002 y1003) ≤ 1000000))) ≠ 0 →
                      (((bool01 (decide (0 ≤ (usedZ y1004 y1005)))) ≠ 0 →
                       (((bool01 (decide ((usedZ y1004 y1005) ≤ 1000000))) ≠ 0 →
                        (((iteZ (bool01 ((usedZ y1002 y1003) == (usedZ y1004 y1005))) (sameB (secC y1002 y1003) (secC y1004 y1005) (usedZ y1002 y1003)) 0) ≠ 0 →
                         ((1 : Int) ≠ 0 ↔ (1 : Int) ≠ 0) ∧ True) ∧ ((iteZ (bool01 ((usedZ y1002 y1003) == (usedZ y1004 y1005))) (sameB (secC y1002 y1003) (secC y1004 y1005) (usedZ y1002 y1003)) 0) = 0 →
                         ((0 : Int) ≠ 0 ↔ (1 : Int) ≠ 0) ∧ True))) ∧ ((bool01 (decide ((usedZ y1004 y1005) ≤ 1000000))) = 0 →
                        False))) ∧ ((bool01 (decide (0 ≤ (usedZ y1004 y1005)))) = 0 →
                       False))) ∧ ((bool01 (decide ((usedZ y1002 y1003) ≤ 1000000))) = 0 →
                      False))) ∧ ((bool01 (decide (0 ≤ (usedZ y1002 y1003)))) = 0 →
                     False))) ∧ ((okQ y1002 y1003) = 0 →
                    False))) ∧ ((iteZ (bool01 (y1003 == y1005)) (sameRg y1002 y1004 y1003) 0) = 0 →
                   ((0 : Int) ≠ 0 ↔ (1 : Int) ≠ 0) ∧ True))))))))))))))) ∧ ((okQ y1004 y1005) = 0 →
            False))) ∧ ((bool01 (decide (y1005 ≤ 100))) = 0 →
           False))) ∧ ((bool01 (decide (y1003 ≤ 100))) = 0 →
          False))))))))))))))))

theorem holds (p0 n1 p3 c1 s2 r1 : Int) (l_p0 : -9223372036854775808 ≤ p0) (u_p0 : p0 ≤ 9223372036854775807) (l_n1 : 0 ≤ n1) (u_n1 : n1 ≤ 140737488355328) (l_p3 : -9223372036854775808 ≤ p3) (u_p3 : p3 ≤ 9223372036854775807) (h_n1 : n1 ≤ r1) : P p0 n1 p3 c1 s2 r1 := by
  unfold P
  simp only [b01_eq, decide_eq_true_eq, decide_eq_false_iff_not, beq_iff_eq, beq_eq_false_iff_ne, bne_iff_ne, bne_eq_false_iff_eq, Int.not_le, Int.not_lt, true_and, and_true, iteZ_ne, ne_eq, Bool.not_eq_false, Bool.not_eq_true, not_true_eq_false, not_false_eq_true, Decidable.not_not, forall_const, false_implies, true_iff, iff_true, false_iff, iff_false, Int.reduceEq, Int.reduceNeg, eq_self, if_true, if_false, reduceIte]
  refine ⟨fun _ => trivial, fun h1 => ⟨fun _ => trivial, fun h2 => ⟨fun _ => trivial, fun h3 => ⟨fun i u q n q2 n2 m => q2 = q ∧ n2 = n ∧ u = usedZ q n ∧ okRg q n ∧ 0 ≤ n ∧ n ≤ i ∧ i ≤ n1 ∧ usedZ q n ≤ p0 ∧ m = (n1 - i).toNat, ⟨_, rfl, rfl, rfl, okRg_nil _, by omega, by omega, l_n1, h2, rfl⟩, fun i u q n q2 n2 m hb hI => ?_⟩⟩⟩⟩
  obtain ⟨rfl, rfl, rfl, hok, hn0, hni, hi, hu, rfl⟩ := hI
  have hl := okRg_le hok hn0
  have hok1 : okQ _ _ ≠ 0 := (okQ_ne _ _).2 hok
  simp only [seqZ_refl, sameRg_refl, sameB_refl, b01_eq, decide_eq_true_eq, decide_eq_false_iff_not, beq_iff_eq, beq_eq_false_iff_ne, bne_iff_ne, bne_eq_false_iff_eq, Int.not_le, Int.not_lt, true_and, and_true, iteZ_ne, ne_eq, Bool.not_eq_false, Bool.not_eq_true, not_true_eq_false, not_false_eq_true, Decidable.not_not, forall_const, false_implies, true_iff, iff_true, false_iff, iff_false, Int.reduceEq, Int.reduceNeg, eq_self, if_true, if_false, reduceIte]
  refine ⟨fun g1 => ⟨fun _ => trivial, fun g2 k hk hkb => ⟨fun _ a ha _ e he _ => ⟨fun _ a' ha' _ e' he' _ => ⟨fun h => absurd (ha.trans ha'.symm) h, fun _ => ⟨fun h => absurd (he.trans he'.symm) h, fun _ => ?_⟩⟩, fun _ => by omega⟩, fun _ => by omega⟩⟩, fun g1 => ?_⟩
  · clear ha ha' he he' hk
    have hE := allE_zero (q := q2) (n := n2) (nm := rdZ (rdZ c1 i) 0) (k := k) (size := p0) (used := usedZ q2 n2)
    generalize allE q2 n2 (consZ (rdZ (rdZ c1 i) 0) (consZ k (consZ p0 (consZ (usedZ q2 n2) 0)))) = E at hE ⊢
    by_cases hz : E = 0
    · subst hz
      have hk := hE rfl hl.1 hu h3
      have sn := okRg_snoc (nm := rdZ (rdZ c1 i) 0) (sec := rdZ (rdZ c1 i) 2) hok hn0 hk.1 (by omega)
      simp only [if_true, beq_self_eq_true, show bool01 true = 1 from rfl]
      rw [w64 (by omega) (by omega)]
      exact ⟨fun _ => ⟨fun _ => ⟨fun _ => ⟨_, by omega, sn.2.symm, sn.1, by omega, by omega, by omega, by rw [sn.2]; omega, rfl⟩, fun _ => by omega⟩, fun _ => by omega⟩, fun _ => by omega⟩
    · simp only [if_neg hz, show (E == 0) = false by simpa using hz, show bool01 false = 0 from rfl, Int.add_zero]
      exact ⟨fun _ => ⟨fun _ => ⟨fun _ => ⟨_, by omega, trivial, hok, by omega, by omega, by omega, hu, rfl⟩, fun _ => by omega⟩, fun _ => by omega⟩, fun _ => by omega⟩
  · repeat' (first | exact trivial | omega | apply And.intro | intro _)
    all_goals (rename_i h; exact absurd h hok1)

theorem plain (i : Nat → Int) (v : Nat → Value) (ro : Nat → RO) (p : Program) : TT.hdP (rc.cx (cxOf 2)) (rlF ⟨i, fN, v, ro, p⟩ rc.res) tree ⟨i, fN, v, ro, p⟩ = P (i 0) (i 1) (i 2) (i 3) (i 4) (i 5) := by kernel_rfl
theorem ran : TT.beq (projL (rc.pj (cxOf 2)) (runT us (fun _ _ => .auto) rc 2 rc.f rc.args ⟨[], []⟩)) tree = true := by kernel_rfl
theorem fineT : (TT.fine (rc.cx (cxOf 2)) 1000 [] tree && (rc.cx (cxOf 2)).okB 1000 && SV.vbL 1000 rc.args && TT.tidy (rc.cx (cxOf 2)) [] tree) = true := by kernel_rfl
theorem ok : RcOk (cxOf 2) rc :=
  rc_run (runT_ok us_ok (fun _ _ => .auto) rc 2) ran fineT okb fun ρ hρ hcap hpre => by
    obtain ⟨i, f, v, ro, p⟩ := ρ
    have hf : f = fN := hρ.hF
    subst hf
    rw [plain]
    exact holds (i 0) (i 1) (i 2) (i 3) (i 4) (i 5) (hρ.hi 0 _ rfl).1 (hρ.hi 0 _ rfl).2 (hρ.hi 1 _ rfl).1 (hρ.hi 1 _ rfl).2 (hρ.hi 2 _ rfl).1 (hρ.hi 2 _ rfl).2 (hcap _ (List.mem_of_getElem? (i := 0) rfl))

theorem walk (w : World) (a0 : Int) (w0 : (Lit.int .i64 a0).wf = true) (a1 : RO) (k1 : a1.cks = [.str, .int .i64, .bool]) (n1 : a1.a = none → a1.n = 0) (m1 : a1.n ≤ a1.cap) (t1 : RoAt w a1) (b1 : (a1.n : Int) ≤ 140737488355328) (a2 : Int) (a3 : Int) (w3 : (Lit.int .i64 a3).wf = true) :
    Calls Tryd.prog 3 #[.int .i64 a0, .slice a1.a a1.n a1.cap, .string (strOf a2), .int .i64 a3] w fun e w' => e = .returned (.bool true) ∧ Below w.heap.size w w' := by
  refine law_of (cx := cxOf 2) ok ⟨rfl, rfl, rfl⟩ (ρ := envR Tryd.prog [a0, (a1.n : Int), a3, a1.c, a2, (a1.cap : Int)] [a1]) (envR_ok (cx := rc.cx (cxOf 2)) rfl rfl (bnd_cons (wf_bd w0) (bnd_cons ⟨Int.natCast_nonneg _, b1⟩ (bnd_cons (wf_bd w3) (bnd_nil _)))) ⟨⟨k1, rfl, (Int.toNat_natCast _).symm, (Int.toNat_natCast _).symm, n1, fun g h => by cases h⟩, trivial⟩) (fun d hd => by
    simp only [show lfIns rc.b rc.c rc.ls 0 0 0 = [⟨[.str, .int .i64, .bool], .v 3, .v 1, .v 5, none⟩] from rfl, List.mem_cons, List.not_mem_nil, or_false] at hd
    rcases hd with rfl
    · exact Int.ofNat_le.2 m1) (roOk_of ⟨t1, trivial⟩) ?_
  rw [show rc.args = [.int .i64 (.v 0), .sl (.inp 0) 3 (.c 0) (.v 1) (some (.v 5)), .str (.v 4), .int .i64 (.v 2)] from rfl]
  simp only [SV.denL, SV.den, E.ev, map_addr_zero]
  rfl
theorem lifted (os : Os) (started : os.Started) (H : Type) (enc : TypeId × Value → H) :
    ReturnsInHanded {} Tryd.checked os 3 .any (fun w args => (Rows.planPlaysSpec.pre enc Tryd.prog Tryd.f3 Rows.planPlaysRow.domain false w args ∧ laidMetH Tryd.prog Rows.planPlaysRow.laid w) ∧ sizedMet enc Tryd.prog Tryd.f3 (OpenSpec.ofChange Rows.planPlaysSpec) false w args)
      (Rows.planPlaysSpec.post enc Tryd.prog Tryd.f3 false true false false) := by
  refine returnsInHanded_of_change_and (C := Tryd.checked) (X := fun w _ => laidMetH Tryd.prog Rows.planPlaysRow.laid w) (fun _ _ _ hh h => h.of_heap hh) own started (by kernel_rfl) Tryd.func3
    (ChangeSpec.witness_shaped (enc := enc) (C := Tryd.checked) (os := os) (X := fun w _ => laidMetH Tryd.prog Rows.planPlaysRow.laid w) false (World.laidAll Tryd.prog os Rows.planPlaysRow.laid) #[.int .i64 0, .slice none 0 0, .string ⟨#[]⟩, .int .i64 0] 8 (World.laidAll_os _ _ _)
      (World.shaped_of_ZipB (by kernel_rfl) (by kernel_rfl)) (by kernel_rfl) (by kernel_rfl) (by kernel_rfl)
      (by rw [MakeChecks.laidMetH_plain _ _ _ (by kernel_rfl)]; exact laidMet_laidAll _ (by kernel_rfl) (by kernel_rfl))) ?_
  intro W base args ds gs before hval0 hW hcnd hw0 _ _
  have hval : ∀ (j : Nat) t v, Tryd.f3.params[j]? = some t → args[j]? = some v → Value.okWide Tryd.prog W .any base t v := hval0
  have hW' := hW
  obtain ⟨p, q, hA0, hV, rfl, hfz, hnd⟩ := hW
  have hA : DataW.TrodAll enc Tryd.prog W 0 (fun _ => true) true Tryd.f3.params.toList args.toList ds p := hA0
  have hw := hw0
  rw [Tryd.params3] at hA hval hw
  obtain ⟨v0, vs0, d0, ds0, p0, q0, hargs, rfl, rfl, h0, r0⟩ := trodAll_cons hA
  have h0k := h0
  obtain ⟨v1, vs1, d1, ds1, p1, q1, rfl, rfl, rfl, h1, r1⟩ := trodAll_cons r0
  have h1k := h1
  obtain ⟨v2, vs2, d2, ds2, p2, q2, rfl, rfl, rfl, h2, r2⟩ := trodAll_cons r1
  have h2k := h2
  obtain ⟨v3, vs3, d3, ds3, p3, q3, rfl, rfl, rfl, h3, r3⟩ := trodAll_cons r2
  have h3k := h3
  obtain ⟨rfl, rfl, rfl⟩ := trodAll_nil r3
  obtain rfl : args = #[v0, v1, v2, v3] := by cases args; simp_all
  obtain ⟨rfl, rfl⟩ := trodVars_none hV
  obtain ⟨a0, rfl, rfl, rfl, w0⟩ := open_int Tryd.underlying3 (hval 0 3 v0 rfl rfl) h0
  obtain ⟨a1, k1, rfl, n1, m1, t1, b1, _⟩ := Go.Eng.open_row (ks := [.str, .int .i64, .bool]) Tryd.underlying22 (ElT.struct Tryd.underlying33 (by kernel_rfl) (by kernel_rfl) (by first | exact ⟨by simp only [CkT]; kernel_rfl, by simp only [CkT]; kernel_rfl, by simp only [CkT]; kernel_rfl, trivial⟩) (by decide)) (by decide) (of_decide_eq_true (by kernel_rfl)) (by kernel_rfl) (hval 1 22 v1 rfl rfl) h1 (weights_of (gs := []) hw (j := 1) (t := 22) rfl rfl)
  obtain ⟨a2, rfl⟩ := Go.Eng.open_str Tryd.underlying9 (hval 2 9 v2 rfl rfl) h2 (weights_of (gs := []) hw (j := 2) (t := 9) rfl rfl)
  obtain ⟨a3, rfl, rfl, rfl, w3⟩ := open_int Tryd.underlying3 (hval 3 3 v3 rfl rfl) h3
  clear hA0 hval0
  refine (walk W a0 w0 a1 k1 n1 m1 t1 b1 a2 a3 w3).mono fun e W' ⟨he, hg⟩ => ?_
  subst he
  have hin1 : ∀ x ∈ p1, x ∈ [] ++ (p1 ++ (p2 ++ ([] ++ []))) ++ [] := fun x hx => by simp [hx]
  have hlt1 : ∀ x ∈ p1, x.block < W.heap.size := fun x hx => by simpa using hW'.lt x (by simp [hx])
  have hin2 : ∀ x ∈ p2, x ∈ [] ++ (p1 ++ (p2 ++ ([] ++ []))) ++ [] := fun x hx => by simp [hx]
  have hlt2 : ∀ x ∈ p2, x.block < W.heap.size := fun x hx => by simpa using hW'.lt x (by simp [hx])
  exact ⟨_, rfl, post_below (pa := _) (pv := []) hW' hg (fun _ _ _ => (trodAll_cons_mk (shut_bool Tryd.underlying4 _) trodAll_mk0)) (fun sp hsp => (trodAll_cons_mk (shut_int Tryd.underlying3 w0) (trodAll_cons_mk (WideElems.Trod_stays laidOut (by kernel_rfl) (of_decide_eq_true (by kernel_rfl)) h1k (fun x hx => hg.same (hlt1 x hx)) (fun x hx => hsp x (hin1 x hx))) (trodAll_cons_mk (WideElems.Trod_stays laidOut (by kernel_rfl) (of_decide_eq_true (by kernel_rfl)) h2k (fun x hx => hg.same (hlt2 x hx)) (fun x hx => hsp x (hin2 x hx))) (trodAll_cons_mk (shut_int Tryd.underlying3 w3) trodAll_mk0))))) (fun _ _ => rfl) (by simp)
    (ok_one (by kernel_rfl) rfl (okWide_bool_mk Tryd.underlying4 _))⟩

theorem over : Rows.planPlaysRow.holds Tryd.pinned (OpenSpec.ofChange Rows.planPlaysSpec) :=
  OpenClaim.holds_of_wide 3 Tryd.f3 rfl rfl rfl rfl rfl rfl rfl ⟨rfl, rfl, rfl, rfl, rfl⟩ rfl rfl rfl rfl rfl (by kernel_rfl) Tryd.func3 (by kernel_rfl)
    (of_decide_eq_true (by kernel_rfl)) (by unfold Func.isWrapper; first | (rw [if_pos (by decide +kernel)]; kernel_rfl) | (rw [if_neg (by decide +kernel)]; exact ⟨rfl, rfl⟩))
    (fun os started H enc _ => lifted os started H enc)

/-- the statement -/
theorem proved : Rows.PlanPlaysCardSaid :=
  Claim7.holds_tied_plain_at .later [] [.data, .pinned] true (true, "3af9951820d07a131011abb214dee3234aae3cc238946aa47dc37e3b05040692") true
    over (fun _ h => by cases h) (by kernel_rfl) (fun _ h => by cases h) planPlays_row_tie rfl ⟨rfl, rfl⟩ (by kernel_rfl) rfl
    (fun f fn hf hfn => by
      obtain rfl : f = 3 := Option.some.inj ((show Tryd.prog.funcNamed "astrolabe/astrolabelaw20.PlanPlays" = some 3 by kernel_rfl).symm.trans hf) |>.symm
      obtain rfl : fn = Tryd.f3 := (Option.some.inj (Tryd.func3.symm.trans hfn)).symm
      exact ⟨by kernel_rfl, fun j t ht => by
        rw [Tryd.params3] at ht
        have h3 : t = 3 ∨ t = 9 ∨ t = 22 := by
          rcases j with _ | _ | _ | _ | j
          · exact (.inl (by simpa using ht.symm))
          · exact (.inr (.inr (by simpa using ht.symm)))
          · exact (.inr (.inl (by simpa using ht.symm)))
          · exact (.inl (by simpa using ht.symm))
          · simp at ht
        rcases h3 with rfl | rfl | rfl
        · exact (show Tryd.prog.wantsStandIn 3 = false by kernel_rfl)
        · exact (show Tryd.prog.wantsStandIn 9 = false by kernel_rfl)
        · exact (show Tryd.prog.wantsStandIn 22 = false by kernel_rfl)⟩)
    (by kernel_rfl)
#print axioms proved
end Go.Proofs.YtefpbddmpiaaiaaDoor.planPlays
