/-
  The law PlanSides answers true at every input: the law is run by the engine (a symbolic run, proved sound), the tree of its answers, as a plain statement, is shown to hold. No condition.
-/
import Derived.Test.YtefpbddmpiaaiaaDoorGab
import Derived.Test.YtefpbddmpiaaiaaDoorGib
import Derived.Test.YtefpbddmpiaaiaaDoorCPAlloc
import Derived.Test.YtefpbddmpiaaiaaDoorCPAt
import Derived.Test.YtefpbddmpiaaiaaDoorCPSec
import Derived.Test.YtefpbddmpiaaiaaDoorCAwake20
import Derived.Test.YtefpbddmpiaaiaaDoorGmP
import Derived.WalkKit
import Derived.ProofKit
import Derived.OpenShut
import Derived.LaidMore
import Derived.Stop.Joined
import Derived.SevenTiedAt
import Derived.SizedLaws
import Derived.Lay
import Derived.Test.YtefpbddmpiaaiaaDoorCards
import Derived.Test.YtefpbddmpiaaiaaDoorTie
namespace Go.Proofs.YtefpbddmpiaaiaaDoor.planSides
open Go.ChangeShapes Go.WideShapes Go.ChangeAt Go.Eng Go.RowKit
set_option linter.unusedVariables false
set_option linter.unusedSimpArgs false
set_option maxRecDepth 100000
def rc : Rc := ⟨4, [none, none], [.int .i64, .row [.str, .int .i64, .bool] 140737488355328], [], .one, [.bool (.c 1)]⟩
theorem okb : rc.ok = true := by kernel_rfl
def mk7 : Marks := [([0, 7], .num (0) (4611686018427387904)), ([0, 35], .wild), ([0, 36], .wild), ([0, 37], .wild), ([0, 38], .wild), ([0, 39], .wild), ([0, 40], .wild), ([0, 41], .wild), ([0, 42], .wild), ([0, 43], .wild), ([0, 44], .wild), ([0, 45], .wild), ([0, 46], .wild), ([0, 47], .wild), ([0, 48], .wild), ([0, 49], .wild), ([0, 50], .wild), ([0, 51], .wild), ([0, 52], .wild), ([0, 53], .wild), ([0, 54], .wild), ([0, 55], .wild), ([0, 56], .wild), ([0, 57], .wild), ([1, 0, 1], .num (-9223372036854775808) (9223372036854775807)), ([1, 0, 2], .arr [.str, .int .i64, .int .i64, .bool] 37)]
def mk18 : Marks := [([0, 11], .num (0) (4611686018427387904)), ([0, 12], .num (0) (4611686018427387904)), ([0, 78], .wild), ([0, 79], .wild), ([0, 80], .wild), ([0, 81], .wild), ([0, 82], .wild), ([0, 83], .wild), ([0, 84], .wild), ([0, 85], .wild), ([0, 86], .wild), ([0, 87], .wild), ([0, 88], .wild), ([0, 89], .wild), ([0, 90], .wild), ([0, 91], .wild), ([0, 92], .wild), ([0, 93], .wild), ([0, 94], .wild), ([0, 95], .wild), ([0, 96], .wild), ([0, 97], .wild), ([0, 98], .wild), ([0, 99], .wild), ([0, 100], .wild), ([0, 101], .wild), ([0, 102], .wild), ([0, 103], .wild), ([0, 104], .wild), ([0, 105], .wild), ([0, 106], .wild), ([0, 107], .wild)]
def mk14 : Marks := [([0, 10], .num (-1) (4611686018427387904)), ([0, 119], .wild), ([0, 120], .wild), ([0, 121], .wild), ([0, 122], .wild), ([0, 138], .wild), ([0, 139], .wild), ([0, 140], .wild), ([0, 141], .wild), ([0, 142], .wild), ([0, 143], .wild), ([0, 144], .wild), ([0, 145], .wild), ([0, 146], .wild), ([0, 147], .wild), ([0, 148], .wild), ([0, 149], .wild), ([0, 150], .wild), ([0, 151], .wild), ([0, 152], .wild), ([0, 11], .wild), ([0, 12], .wild), ([0, 13], .wild), ([0, 14], .wild), ([0, 15], .wild), ([0, 73], .wild), ([0, 74], .wild), ([0, 75], .wild), ([0, 76], .wild), ([0, 77], .wild), ([0, 78], .wild), ([0, 79], .wild), ([0, 80], .wild), ([0, 81], .wild), ([0, 82], .wild), ([0, 83], .wild), ([0, 84], .wild), ([0, 85], .wild), ([0, 86], .wild), ([0, 87], .wild), ([0, 88], .wild), ([0, 89], .wild), ([0, 90], .wild), ([0, 91], .wild), ([0, 92], .wild), ([0, 93], .wild), ([0, 94], .wild), ([0, 95], .wild), ([0, 96], .wild), ([0, 97], .wild), ([0, 98], .wild), ([0, 99], .wild), ([0, 100], .wild), ([0, 101], .wild), ([0, 102], .wild), ([0, 103], .wild), ([0, 104], .wild), ([0, 105], .wild), ([0, 106], .wild), ([0, 107], .wild), ([0, 108], .wild), ([0, 109], .wild), ([0, 110], .wild), ([0, 111], .wild), ([0, 112], .wild), ([0, 113], .wild), ([0, 114], .wild), ([0, 115], .wild), ([0, 116], .wild), ([0, 117], .wild), ([0, 118], .wild), ([0, 123], .wild), ([0, 124], .wild), ([0, 125], .wild), ([0, 126], .wild), ([0, 127], .wild), ([0, 128], .wild), ([0, 129], .wild), ([0, 130], .wild), ([0, 131], .wild), ([0, 132], .wild), ([0, 133], .wild), ([0, 134], .wild), ([0, 135], .wild), ([0, 136], .wild), ([0, 137], .wild), ([0, 153], .wild), ([0, 154], .wild)]
noncomputable def us : SMs := fun Γ ins n => smH (cxG n Γ ins) [CPAlloc.rk.rh, CPAt.rk.rh, CPSec.rk.rh] (smAnd 42 (libClone42 Γ ins n) (smR (cxG n Γ ins) [CAwake20.rc]))
theorem us_ok : SMsOk us := fun Γ ins n => smH_ok (rhs_cons CPAlloc.okh (rh_n CPAlloc.ok) (rhs_cons CPAt.okh (rh_n CPAt.ok) (rhs_cons CPSec.okh (rh_n CPSec.ok) (rhs_nil _)))) (smAnd_ok (libClone42_ok Γ ins n) (smR_ok (rcs_cons CAwake20.okb (rc_n CAwake20.ok) (rcs_nil _))))
def tree : TT (List E) :=
(.br (.b .lt .i64 (.c 60) (.v 1))
  (.leaf [(.c 1)])
  (.br (.b .lt .i64 (.v 0) (.c 0))
  (.leaf [(.c 1)])
  (.br (.b .lt .i64 (.c 300) (.v 0))
  (.leaf [(.c 1)])
  (.br (.b .lt .i64 (.c 2048) (.v 0))
  (.leaf [(.c 0)])
  (.loop ⟨1000, [some (0, 4611686018427387904), some (-9223372036854775808, 9223372036854775807), none, some (0, 1000000)], [(.c 0), (.c 0), (.c 0), (.c 0)], 1008⟩
  (.br (.b .lt .i64 (.cl 1000 0 4611686018427387904) (.v 1))
  (.new 1005 (.w .i64 (.f 13 (.f 13 (.v 2) (.cl 1000 0 4611686018427387904) (.c 0)) (.c 1) (.c 0)))
  (.br (.b .le .i64 (.cl 1003 0 1000000) (.c 100))
  (.new 1006 (.ite (.b .eq .i64 (.f 57 (.v 1002) (.cl 1003 0 1000000) (.f 11 (.f 13 (.f 13 (.v 2) (.cl 1000 0 4611686018427387904) (.c 0)) (.c 0) (.c 0)) (.f 11 (.cl 1005 (-9223372036854775808) 9223372036854775807) (.f 11 (.v 0) (.f 11 (.cl 1001 (-9223372036854775808) 9223372036854775807) (.c 0) (.c 0)) (.c 0)) (.c 0)) (.c 0))) (.c 0)) (.cl 1001 (-9223372036854775808) 9223372036854775807) (.c 0))
  (.new 1007 (.f 57 (.v 1002) (.cl 1003 0 1000000) (.f 11 (.f 13 (.f 13 (.v 2) (.cl 1000 0 4611686018427387904) (.c 0)) (.c 0) (.c 0)) (.f 11 (.cl 1005 (-9223372036854775808) 9223372036854775807) (.f 11 (.v 0) (.f 11 (.cl 1001 (-9223372036854775808) 9223372036854775807) (.c 0) (.c 0)) (.c 0)) (.c 0)) (.c 0)))
  (.br (.b .le .i64 (.b .padd .i64 (.cl 1000 0 4611686018427387904) (.c 1)) (.c 4611686018427387904))
  (.br (.b .le .i64 (.b .padd .i64 (.cl 1003 0 1000000) (.b .eq .i64 (.f 57 (.v 1002) (.cl 1003 0 1000000) (.f 11 (.f 13 (.f 13 (.v 2) (.cl 1000 0 4611686018427387904) (.c 0)) (.c 0) (.c 0)) (.f 11 (.cl 1005 (-9223372036854775808) 9223372036854775807) (.f 11 (.v 0) (.f 11 (.cl 1001 (-9223372036854775808) 9223372036854775807) (.c 0) (.c 0)) (.c 0)) (.c 0)) (.c 0))) (.c 0))) (.c 1000000))
  (.back [(.b .padd .i64 (.cl 1000 0 4611686018427387904) (.c 1)), (.ite (.b .eq .i64 (.f 57 (.v 1002) (.cl 1003 0 1000000) (.f 11 (.f 13 (.f 13 (.v 2) (.cl 1000 0 4611686018427387904) (.c 0)) (.c 0) (.c 0)) (.f 11 (.cl 1005 (-9223372036854775808) 9223372036854775807) (.f 11 (.v 0) (.f 11 (.cl 1001 (-9223372036854775808) 9223372036854775807) (.c 0) (.c 0)) (.c 0)) (.c 0)) (.c 0))) (.c 0)) (.w .i64 (.b .padd .i64 (.cl 1001 (-9223372036854775808) 9223372036854775807) (.cl 1005 (-9223372036854775808) 9223372036854775807))) (.cl 1001 (-9223372036854775808) 9223372036854775807)), (.ite (.b .eq .i64 (.f 57 (.v 1002) (.cl 1003 0 1000000) (.f 11 (.f 13 (.f 13 (.v 2) (.cl 1000 0 4611686018427387904) (.c 0)) (.c 0) (.c 0)) (.f 11 (.cl 1005 (-9223372036854775808) 9223372036854775807) (.f 11 (.v 0) (.f 11 (.cl 1001 (-9223372036854775808) 9223372036854775807) (.c 0) (.c 0)) (.c 0)) (.c 0)) (.c 0))) (.c 0)) (.f 58 (.v 1002) (.cl 1003 0 1000000) (.f 11 (.f 13 (.f 13 (.v 2) (.cl 1000 0 4611686018427387904) (.c 0)) (.c 0) (.c 0)) (.f 11 (.cl 1001 (-9223372036854775808) 9223372036854775807) (.f 11 (.cl 1005 (-9223372036854775808) 9223372036854775807) (.f 11 (.f 13 (.f 13 (.v 2) (.cl 1000 0 4611686018427387904) (.c 0)) (.c 2) (.c 0)) (.c 0) (.c 0)) (.c 0)) (.c 0)) (.c 0))) (.v 1002)), (.b .padd .i64 (.cl 1003 0 1000000) (.b .eq .i64 (.f 57 (.v 1002) (.cl 1003 0 1000000) (.f 11 (.f 13 (.f 13 (.v 2) (.cl 1000 0 4611686018427387904) (.c 0)) (.c 0) (.c 0)) (.f 11 (.cl 1005 (-9223372036854775808) 9223372036854775807) (.f 11 (.v 0) (.f 11 (.cl 1001 (-9223372036854775808) 9223372036854775807) (.c 0) (.c 0)) (.c 0)) (.c 0)) (.c 0))) (.c 0)))])
  (.bad 303))
  (.bad 303))))
  (.bad 200)))
  (.exit 0))
  (.br (.b .le .i64 (.cl 1003 0 1000000) (.c 100))
  (.br (.f 59 (.v 1002) (.cl 1003 0 1000000) (.c 0))
  (.br (.b .lt .i64 (.v 0) (.cl 1001 (-9223372036854775808) 9223372036854775807))
  (.leaf [(.c 0)])
  (.br (.b .le .i64 (.c 0) (.f 56 (.v 1002) (.cl 1003 0 1000000) (.c 0)))
  (.br (.b .ne .i64 (.f 56 (.v 1002) (.cl 1003 0 1000000) (.c 0)) (.cl 1001 (-9223372036854775808) 9223372036854775807))
  (.leaf [(.c 0)])
  (.loop ⟨1010, [some (-1, 4611686018427387904)], [(.c (-1))], 1021⟩
  (.br (.b .le .i64 (.cl 1010 (-1) 4611686018427387904) (.v 0))
  (.loop ⟨1012, [some (0, 4611686018427387904), some (0, 4611686018427387904)], [(.c 0), (.c 0)], 1017⟩
  (.br (.b .lt .i64 (.cl 1013 0 4611686018427387904) (.cl 1003 0 1000000))
  (.new 1015 (.w .i64 (.f 13 (.f 13 (.v 1002) (.cl 1013 0 4611686018427387904) (.c 0)) (.c 1) (.c 0)))
  (.br (.b .le .i64 (.cl 1015 (-9223372036854775808) 9223372036854775807) (.cl 1010 (-1) 4611686018427387904))
  (.new 1016 (.w .i64 (.f 13 (.f 13 (.v 1002) (.cl 1013 0 4611686018427387904) (.c 0)) (.c 2) (.c 0)))
  (.br (.b .lt .i64 (.cl 1010 (-1) 4611686018427387904) (.w .i64 (.b .padd .i64 (.cl 1015 (-9223372036854775808) 9223372036854775807) (.cl 1016 (-9223372036854775808) 9223372036854775807))))
  (.br (.b .le .i64 (.b .padd .i64 (.cl 1012 0 4611686018427387904) (.c 1)) (.c 4611686018427387904))
  (.br (.b .le .i64 (.b .padd .i64 (.cl 1013 0 4611686018427387904) (.c 1)) (.c 4611686018427387904))
  (.back [(.b .padd .i64 (.cl 1012 0 4611686018427387904) (.c 1)), (.b .padd .i64 (.cl 1013 0 4611686018427387904) (.c 1))])
  (.bad 303))
  (.bad 303))
  (.br (.b .le .i64 (.b .padd .i64 (.cl 1013 0 4611686018427387904) (.c 1)) (.c 4611686018427387904))
  (.back [(.cl 1012 0 4611686018427387904), (.b .padd .i64 (.cl 1013 0 4611686018427387904) (.c 1))])
  (.bad 303))))
  (.br (.b .le .i64 (.b .padd .i64 (.cl 1013 0 4611686018427387904) (.c 1)) (.c 4611686018427387904))
  (.back [(.cl 1012 0 4611686018427387904), (.b .padd .i64 (.cl 1013 0 4611686018427387904) (.c 1))])
  (.bad 303))))
  (.exit 0))
  (.br (.b .le .i64 (.c 0) (.cl 1010 (-1) 4611686018427387904))
  (.br (.b .ne .i64 (.nt (.b .le .i64 (.c 0) (.f 55 (.v 1002) (.cl 1003 0 1000000) (.cl 1010 (-1) 4611686018427387904)))) (.nt (.b .lt .i64 (.cl 1010 (-1) 4611686018427387904) (.cl 1001 (-9223372036854775808) 9223372036854775807))))
  (.exit 0)
  (.br (.b .ne .i64 (.nt (.b .le .i64 (.c 0) (.f 55 (.v 1002) (.cl 1003 0 1000000) (.cl 1010 (-1) 4611686018427387904)))) (.b .ne .i64 (.cl 1012 0 4611686018427387904) (.c 1)))
  (.exit 1)
  (.br (.b .lt .i64 (.c 1) (.cl 1012 0 4611686018427387904))
  (.exit 2)
  (.br (.b .le .i64 (.c 0) (.f 55 (.v 1002) (.cl 1003 0 1000000) (.cl 1010 (-1) 4611686018427387904)))
  (.new 1019 (.ite (.b .le .i64 (.c 0) (.f 55 (.v 1002) (.cl 1003 0 1000000) (.cl 1010 (-1) 4611686018427387904))) (.w .i64 (.f 13 (.f 13 (.v 1002) (.f 55 (.v 1002) (.cl 1003 0 1000000) (.cl 1010 (-1) 4611686018427387904)) (.c 0)) (.c 1) (.c 0))) (.c 0))
  (.new 1020 (.ite (.b .le .i64 (.c 0) (.f 55 (.v 1002) (.cl 1003 0 1000000) (.cl 1010 (-1) 4611686018427387904))) (.w .i64 (.b .psub .i64 (.cl 1010 (-1) 4611686018427387904) (.w .i64 (.f 13 (.f 13 (.v 1002) (.f 55 (.v 1002) (.cl 1003 0 1000000) (.cl 1010 (-1) 4611686018427387904)) (.c 0)) (.c 1) (.c 0))))) (.c 0))
  (.br (.b .ne .i64 (.w .i64 (.b .padd .i64 (.cl 1019 (-9223372036854775808) 9223372036854775807) (.cl 1020 (-9223372036854775808) 9223372036854775807))) (.cl 1010 (-1) 4611686018427387904))
  (.exit 3)
  (.br (.b .lt .i64 (.cl 1010 (-1) 4611686018427387904) (.f 56 (.v 1002) (.cl 1003 0 1000000) (.c 0)))
  (.br (.b .ne .i64 (.nt (.ite (.b .le .i64 (.c 0) (.f 55 (.v 1002) (.cl 1003 0 1000000) (.cl 1010 (-1) 4611686018427387904))) (.f 13 (.f 13 (.v 1002) (.f 55 (.v 1002) (.cl 1003 0 1000000) (.cl 1010 (-1) 4611686018427387904)) (.c 0)) (.c 3) (.c 0)) (.c 0))) (.nt (.f 13 (.f 60 (.v 1002) (.cl 1003 0 1000000) (.c 0)) (.cl 1010 (-1) 4611686018427387904) (.c 0))))
  (.exit 4)
  (.br (.b .le .i64 (.b .padd .i64 (.cl 1010 (-1) 4611686018427387904) (.c 1)) (.c 4611686018427387904))
  (.back [(.b .padd .i64 (.cl 1010 (-1) 4611686018427387904) (.c 1))])
  (.bad 303)))
  (.bad 200)))))
  (.br (.b .le .i64 (.b .padd .i64 (.cl 1010 (-1) 4611686018427387904) (.c 1)) (.c 4611686018427387904))
  (.back [(.b .padd .i64 (.cl 1010 (-1) 4611686018427387904) (.c 1))])
  (.bad 303))))))
  (.br (.b .ne .i64 (.nt (.b .le .i64 (.c 0) (.f 55 (.v 1002) (.cl 1003 0 1000000) (.cl 1010 (-1) 4611686018427387904)))) (.c 1))
  (.exit 5)
  (.br (.b .ne .i64 (.nt (.b .le .i64 (.c 0) (.f 55 (.v 1002) (.cl 1003 0 1000000) (.cl 1010 (-1) 4611686018427387904)))) (.b .ne .i64 (.cl 1012 0 4611686018427387904) (.c 1)))
  (.exit 6)
  (.br (.b .lt .i64 (.c 1) (.cl 1012 0 4611686018427387904))
  (.exit 7)
  (.br (.b .le .i64 (.c 0) (.f 55 (.v 1002) (.cl 1003 0 1000000) (.cl 1010 (-1) 4611686018427387904)))
  (.new 1019 (.ite (.b .le .i64 (.c 0) (.f 55 (.v 1002) (.cl 1003 0 1000000) (.cl 1010 (-1) 4611686018427387904))) (.w .i64 (.f 13 (.f 13 (.v 1002) (.f 55 (.v 1002) (.cl 1003 0 1000000) (.cl 1010 (-1) 4611686018427387904)) (.c 0)) (.c 1) (.c 0))) (.c 0))
  (.new 1020 (.ite (.b .le .i64 (.c 0) (.f 55 (.v 1002) (.cl 1003 0 1000000) (.cl 1010 (-1) 4611686018427387904))) (.w .i64 (.b .psub .i64 (.cl 1010 (-1) 4611686018427387904) (.w .i64 (.f 13 (.f 13 (.v 1002) (.f 55 (.v 1002) (.cl 1003 0 1000000) (.cl 1010 (-1) 4611686018427387904)) (.c 0)) (.c 1) (.c 0))))) (.c 0))
  (.br (.b .ne .i64 (.w .i64 (.b .padd .i64 (.cl 1019 (-9223372036854775808) 9223372036854775807) (.cl 1020 (-9223372036854775808) 9223372036854775807))) (.cl 1010 (-1) 4611686018427387904))
  (.exit 8)
  (.bad 200))))
  (.br (.b .le .i64 (.b .padd .i64 (.cl 1010 (-1) 4611686018427387904) (.c 1)) (.c 4611686018427387904))
  (.back [(.b .padd .i64 (.cl 1010 (-1) 4611686018427387904) (.c 1))])
  (.bad 303))))))))
  (.exit 9))
  (.br (.b .eq .i64 (.v 1021) (.c 0))
  (.leaf [(.c 0)])
  (.br (.b .eq .i64 (.v 1021) (.c 1))
  (.leaf [(.c 0)])
  (.br (.b .eq .i64 (.v 1021) (.c 2))
  (.leaf [(.c 0)])
  (.br (.b .eq .i64 (.v 1021) (.c 3))
  (.leaf [(.c 0)])
  (.br (.b .eq .i64 (.v 1021) (.c 4))
  (.leaf [(.c 0)])
  (.br (.b .eq .i64 (.v 1021) (.c 5))
  (.leaf [(.c 0)])
  (.br (.b .eq .i64 (.v 1021) (.c 6))
  (.leaf [(.c 0)])
  (.br (.b .eq .i64 (.v 1021) (.c 7))
  (.leaf [(.c 0)])
  (.br (.b .eq .i64 (.v 1021) (.c 8))
  (.leaf [(.c 0)])
  (.leaf [(.c 1)]))))))))))))
  (.bad 200)))
  (.bad 200))
  (.bad 200)))))))

def P (p0 n1 c1 r1 : Int) : Prop :=
 (((bool01 (decide (60 < n1))) ≠ 0 →
  ((1 : Int) ≠ 0 ↔ (1 : Int) ≠ 0) ∧ True) ∧ ((bool01 (decide (60 < n1))) = 0 →
  (((bool01 (decide (p0 < 0))) ≠ 0 →
   ((1 : Int) ≠ 0 ↔ (1 : Int) ≠ 0) ∧ True) ∧ ((bool01 (decide (p0 < 0))) = 0 →
   (((bool01 (decide (300 < p0))) ≠ 0 →
    ((1 : Int) ≠ 0 ↔ (1 : Int) ≠ 0) ∧ True) ∧ ((bool01 (decide (300 < p0))) = 0 →
    (((bool01 (decide (2048 < p0))) ≠ 0 →
     ((0 : Int) ≠ 0 ↔ (1 : Int) ≠ 0) ∧ True) ∧ ((bool01 (decide (2048 < p0))) = 0 →
     ∃ I1000 : Int → Int → Int → Int → Nat → Prop, (∃ m, I1000 0 0 0 0 m) ∧
     ∀ y1000 y1001 y1002 y1003 : Int, ∀ m1000, ((0 ≤ y1000 ∧ y1000 ≤ 4611686018427387904) ∧ ((-9223372036854775808) ≤ y1001 ∧ y1001 ≤ 9223372036854775807) ∧ True ∧ (0 ≤ y1003 ∧ y1003 ≤ 1000000) ∧ True) → I1000 y1000 y1001 y1002 y1003 m1000 →
      (((bool01 (decide (y1000 < n1))) ≠ 0 →
       ∀ y1005 : Int, y1005 = (IntKind.wrap .i64 (rdZ (rdZ c1 y1000) 1)) → ((-9223372036854775808) ≤ y1005 ∧ y1005 ≤ 9223372036854775807) →
       (((bool01 (decide (y1003 ≤ 100))) ≠ 0 →
        ∀ y1006 : Int, y1006 = (iteZ (bool01 ((allE y1002 y1003 (consZ (rdZ (rdZ c1 y1000) 0) (consZ y1005 (consZ p0 (consZ y1001 0))))) == 0)) y1001 0) → ((-9223372036854775808) ≤ y1006 ∧ y1006 ≤ 9223372036854775807) →
        ∀ y1007 : Int, y1007 = (allE y1002 y1003 (consZ (rdZ (rdZ c1 y1000) 0) (consZ y1005 (consZ p0 (consZ y1001 0))))) → (0 ≤ y1007 ∧ y1007 ≤ 11) →
        (((bool01 (decide ((y1000 + 1) ≤ 4611686018427387904))) ≠ 0 →
         (((bool01 (decide ((y1003 + (bool01 ((allE y1002 y1003 (consZ (rdZ (rdZ c1 y1000) 0) (consZ y1005 (consZ p0 (consZ y1001 0))))) == 0))) ≤ 1000000))) ≠ 0 →
          ∃ m', m' < m1000 ∧ I1000 (y1000 + 1) (iteZ (bool01 ((allE y1002 y1003 (consZ (rdZ (rdZ c1 y1000) 0) (consZ y1005 (consZ p0 (consZ y1001 0))))) == 0)) (IntKind.wrap .i64 (y1001 + y1005)) y1001) (iteZ (bool01 ((allE y1002 y1003 (consZ (rdZ (rdZ c1 y1000) 0) (consZ y1005 (consZ p0 (consZ y1001 0))))) == 0)) (allQ y1002 y1003 (consZ (rdZ (rdZ c1 y1000) 0) (consZ y1001 (consZ y1005 (consZ (rdZ (rdZ c1 y1000) 2) 0))))) y1002) (y1003 + (bool01 ((allE y1002 y1003 (consZ (rdZ (rdZ c1 y1000) 0) (consZ y1005 (consZ p0 (consZ y1001 0))))) == 0))) m') ∧ ((bool01 (decide ((y1003 + (bool01 ((allE y1002 y1003 (consZ (rdZ (rdZ c1 y1000) 0) (consZ y1005 (consZ p0 (consZ y1001 0))))) == 0))) ≤ 1000000))) = 0 →
          False))) ∧ ((bool01 (decide ((y1000 + 1) ≤ 4611686018427387904))) = 0 →
         False))) ∧ ((bool01 (decide (y1003 ≤ 100))) = 0 →
        False))) ∧ ((bool01 (decide (y1000 < n1))) = 0 →
       (((bool01 (decide (y1003 ≤ 100))) ≠ 0 →
        (((okQ y1002 y1003) ≠ 0 →
         (((bool01 (decide (p0 < y1001))) ≠ 0 →
          ((0 : Int) ≠ 0 ↔ (1 : Int) ≠ 0) ∧ True) ∧ ((bool01 (decide (p0 < y1001))) = 0 →
          (((bool01 (decide (0 ≤ (usedZ y1002 y1003)))) ≠ 0 →
           (((bool01 ((usedZ y1002 y1003) != y1001)) ≠ 0 →
            ((0 : Int) ≠ 0 ↔ (1 : Int) ≠ 0) ∧ True) ∧ ((bool01 ((usedZ y1002 y1003) != y1001)) = 0 →
            ∃ I1010 : Int → Nat → Prop, (∃ m, I1010 (-1) m) ∧
            ∀ y1010 : Int, ∀ m1010, (((-1) ≤ y1010 ∧ y1010 ≤ 4611686018427387904) ∧ True) → I1010 y1010 m1010 →
             (((bool01 (decide (y1010 ≤ p0))) ≠ 0 →
              ∃ I1012 : Int → Int → Nat → Prop, (∃ m, I1012 0 0 m) ∧
              ∀ y1012 y1013 : Int, ∀ m1012, ((0 ≤ y1012 ∧ y1012 ≤ 4611686018427387904) ∧ (0 ≤ y1013 ∧ y1013 ≤ 4611686018427387904) ∧ True) → I1012 y1012 y1013 m1012 →
               (((bool01 (decide (y1013 < y1003))) ≠ 0 →
                ∀ y1015 : Int, y1015 = (IntKind.wrap .i64 (rdZ (rdZ y1002 y1013) 1)) → ((-9223372036854775808) ≤ y1015 ∧ y1015 ≤ 9223372036854775807) →
                (((bool01 (decide (y1015 ≤ y1010))) ≠ 0 →
                 ∀ y1016 : Int, y1016 = (IntKind.wrap .i64 (rdZ (rdZ y1002 y1013) 2)) → ((-9223372036854775808) ≤ y1016 ∧ y1016 ≤ 9223372036854775807) →
                 (((bool01 (decide (y1010 < (IntKind.wrap .i64 (y1015 + y1016))))) ≠ 0 →
                  (((bool01 (decide ((y1012 + 1) ≤ 4611686018427387904))) ≠ 0 →
                   (((bool01 (decide ((y1013 + 1) ≤ 4611686018427387904))) ≠ 0 →
                    ∃ m', m' < m1012 ∧ I1012 (y1012 + 1) (y1013 + 1) m') ∧ ((bool01 (decide ((y1013 + 1) ≤ 4611686018427387904))) = 0 →
                    False))) ∧ ((bool01 (decide ((y1012 + 1) ≤ 4611686018427387904))) = 0 →
                   False))) ∧ ((bool01 (decide (y1010 < (IntKind.wrap .i64 (y1015 + y1016))))) = 0 →
                  (((bool01 (decide ((y1013 + 1) ≤ 4611686018427387904))) ≠ 0 →
                   ∃ m', m' < m1012 ∧ I1012 y1012 (y1013 + 1) m') ∧ ((bool01 (decide ((y1013 + 1) ≤ 4611686018427387904))) = 0 →
                   False))))) ∧ ((bool01 (decide (y1015 ≤ y1010))) = 0 →
                 (((bool01 (decide ((y1013 + 1) ≤ 4611686018427387904))) ≠ 0 →
                  ∃ m', m' < m1012 ∧ I1012 y1012 (y1013 + 1) m') ∧ ((bool01 (decide ((y1013 + 1) ≤ 4611686018427387904))) = 0 →
                  False))))) ∧ ((bool01 (decide (y1013 < y1003))) = 0 →
                (((bool01 (decide (0 ≤ y1010))) ≠ 0 →
                 (((bool01 ((bool01 ((bool01 (decide (0 ≤ (atZ y1002 y1003 y1010)))) == 0)) != (bool01 ((bool01 (decide (y1010 < y1001))) == 0)))) ≠ 0 →
                  (((bool01 ((0 : Int) == 0)) ≠ 0 →
                   ((0 : Int) ≠ 0 ↔ (1 : Int) ≠ 0) ∧ True) ∧ ((bool01 ((0 : Int) == 0)) = 0 →
                   (((bool01 ((0 : Int) == 1)) ≠ 0 →
                    ((0 : Int) ≠ 0 ↔ (1 : Int) ≠ 0) ∧ True) ∧ ((bool01 ((0 : Int) == 1)) = 0 →
                    (((bool01 ((0 : Int) == 2)) ≠ 0 →
                     ((0 : Int) ≠ 0 ↔ (1 : Int) ≠ 0) ∧ True) ∧ ((bool01 ((0 : Int) == 2)) = 0 →
                     (((bool01 ((0 : Int) == 3)) ≠ 0 →
                      ((0 : Int) ≠ 0 ↔ (1 : Int) ≠ 0) ∧ True) ∧ ((bool01 ((0 : Int) == 3)) = 0 →
                      (((bool01 ((0 : Int) == 4)) ≠ 0 →
                       ((0 : Int) ≠ 0 ↔ (1 : Int) ≠ 0) ∧ True) ∧ ((bool01 ((0 : Int) == 4)) = 0 →
                       (((bool01 ((0 : Int) == 5)) ≠ 0 →
                        ((0 : Int) ≠ 0 ↔ (1 : Int) ≠ 0) ∧ True) ∧ ((bool01 ((0 : Int) == 5)) = 0 →
                        (((bool01 ((0 : Int) == 6)) ≠ 0 →
                         ((0 : Int) ≠ 0 ↔ (1 : Int) ≠ 0) ∧ True) ∧ ((bool01 ((0 : Int) == 6)) = 0 →
                         (((bool01 ((0 : Int) == 7)) ≠ 0 →
                          ((0 : Int) ≠ 0 ↔ (1 : Int) ≠ 0) ∧ True) ∧ ((bool01 ((0 : Int) == 7)) = 0 →
                          (((bool01 ((0 : Int) == 8)) ≠ 0 →
                           ((0 : Int) ≠ 0 ↔ (1 : Int) ≠ 0) ∧ True) ∧ ((bool01 ((0 : Int) == 8)) = 0 →
                           ((1 : Int) ≠ 0 ↔ (1 : Int) ≠ 0) ∧ True))))))))))))))))))) ∧ ((bool01 ((bool01 ((bool01 (decide (0 ≤ (atZ y1002 y1003 y1010)))) == 0)) != (bool01 ((bool01 (decide (y1010 < y1001))) == 0)))) = 0 →
                  (((bool01 ((bool01 ((bool01 (decide (0 ≤ (atZ y1002 y1003 y1010)))) == 0)) != (bool01 (y1012 != 1)))) ≠ 0 →
                   (((bool01 ((1 : Int) == 0)) ≠ 0 →
                    ((0 : Int) ≠ 0 ↔ (1 : Int) ≠ 0) ∧ True) ∧ ((bool01 ((1 : Int) == 0)) = 0 →
                    (((bool01 ((1 : Int) == 1)) ≠ 0 →
                     ((0 : Int) ≠ 0 ↔ (1 : Int) ≠ 0) ∧ True) ∧ ((bool01 ((1 : Int) == 1)) = 0 →
                     (((bool01 ((1 : Int) == 2)) ≠ 0 →
                      ((0 : Int) ≠ 0 ↔ (1 : Int) ≠ 0) ∧ True) ∧ ((bool01 ((1 : Int) == 2)) = 0 →
                      (((bool01 ((1 : Int) == 3)) ≠ 0 →
                       ((0 : Int) ≠ 0 ↔ (1 : Int) ≠ 0) ∧ True) ∧ ((bool01 ((1 : Int) == 3)) = 0 →
                       (((bool01 ((1 : Int) == 4)) ≠ 0 →
                        ((0 : Int) ≠ 0 ↔ (1 : Int) ≠ 0) ∧ True) ∧ ((bool01 ((1 : Int) == 4)) = 0 →
                        (((bool01 ((1 : Int) == 5)) ≠ 0 →
                         ((0 : Int) ≠ 0 ↔ (1 : Int) ≠ 0) ∧ True) ∧ ((bool01 ((1 : Int) == 5)) = 0 →
                         (((bool01 ((1 : Int) == 6)) ≠ 0 →
                          ((0 : Int) ≠ 0 ↔ (1 : Int) ≠ 0) ∧ True) ∧ ((bool01 ((1 : Int) == 6)) = 0 →
                          (((bool01 ((1 : Int) == 7)) ≠ 0 →
                           ((0 : Int) ≠ 0 ↔ (1 : Int) ≠ 0) ∧ True) ∧ ((bool01 ((1 : Int) == 7)) = 0 →
                           (((bool01 ((1 : Int) == 8)) ≠ 0 →
                            ((0 : Int) ≠ 0 ↔ (1 : Int) ≠ 0) ∧ True) ∧ ((bool01 ((1 : Int) == 8)) = 0 →
                            ((1 : Int) ≠ 0 ↔ (1 : Int) ≠ 0) ∧ True))))))))))))))))))) ∧ ((bool01 ((bool01 ((bool01 (decide (0 ≤ (atZ y1002 y1003 y1010)))) == 0)) != (bool01 (y1012 != 1)))) = 0 →
                   (((bool01 (decide (1 < y1012))) ≠ 0 →
                    (((bool01 ((2 : Int) == 0)) ≠ 0 →
                     ((0 : Int) ≠ 0 ↔ (1 : Int) ≠ 0) ∧ True) ∧ ((bool01 ((2 : Int) == 0)) = 0 →
                     (((bool01 ((2 : Int) == 1)) ≠ 0 →
                      ((0 : Int) ≠ 0 ↔ (1 : Int) ≠ 0) ∧ True) ∧ ((bool01 ((2 : Int) == 1)) = 0 →
                      (((bool01 ((2 : Int) == 2)) ≠ 0 →
                       ((0 : Int) ≠ 0 ↔ (1 : Int) ≠ 0) ∧ True) ∧ ((bool01 ((2 : Int) == 2)) = 0 →
                       (((bool01 ((2 : Int) == 3)) ≠ 0 →
                        ((0 : Int) ≠ 0 ↔ (1 : Int) ≠ 0) ∧ True) ∧ ((bool01 ((2 : Int) == 3)) = 0 →
                        (((bool01 ((2 : Int) == 4)) ≠ 0 →
                         ((0 : Int) ≠ 0 ↔ (1 : Int) ≠ 0) ∧ True) ∧ ((bool01 ((2 : Int) == 4)) = 0 →
                         (((bool01 ((2 : Int) == 5)) ≠ 0 →
                          ((0 : Int) ≠ 0 ↔ (1 : Int) ≠ 0) ∧ True) ∧ ((bool01 ((2 : Int) == 5)) = 0 →
                          (((bool01 ((2 : Int) == 6)) ≠ 0 →
                           ((0 : Int) ≠ 0 ↔ (1 : Int) ≠ 0) ∧ True) ∧ ((bool01 ((2 : Int) == 6)) = 0 →
                           (((bool01 ((2 : Int) == 7)) ≠ 0 →
                            ((0 : Int) ≠ 0 ↔ (1 : Int) ≠ 0) ∧ True) ∧ ((bool01 ((2 : Int) == 7)) = 0 →
                            (((bool01 ((2 : Int) == 8)) ≠ 0 →
                             ((0 : Int) ≠ 0 ↔ (1 : Int) ≠ 0) ∧ True) ∧ ((bool01 ((2 : Int) == 8)) = 0 →
                             ((1 : Int) ≠ 0 ↔ (1 : Int) ≠ 0) ∧ True))))))))))))))))))) ∧ ((bool01 (decide (1 < y1012))) = 0 →
                    (((bool01 (decide (0 ≤ (atZ y1002 y1003 y1010)))) ≠ 0 →
                     ∀ y1019 : Int, y1019 = (iteZ (bool01 (decide (0 ≤ (atZ y1002 y1003 y1010)))) (IntKind.wrap .i64 (rdZ (rdZ y1002 (atZ y1002 y1003 y1010)) 1)) 0) → ((-9223372036854775808) ≤ y1019 ∧ y1019 ≤ 9223372036854775807) →
                     ∀ y1020 : Int, y1020 = (iteZ (bool01 (decide (0 ≤ (atZ y1002 y1003 y1010)))) (IntKind.wrap .i64 (y1010 - (IntKind.wrap .i64 (rdZ (rdZ y1002 (atZ y1002 y1003 y1010)) 1)))) 0) → ((-9223372036854775808) ≤ y1020 ∧ y1020 ≤ 9223372036854775807) →
                     (((bool01 ((IntKind.wrap .i64 (y1019 + y1020)) != y1010)) ≠ 0 →
                      (((bool01 ((3 : Int) == 0)) ≠ 0 →
                       ((0 : Int) ≠ 0 ↔ (1 : Int) ≠ 0) ∧ True) ∧ ((bool01 ((3 : Int) == 0)) = 0 →
                       (((bool01 ((3 : Int) == 1)) ≠ 0 →
                        ((0 : Int) ≠ 0 ↔ (1 : Int) ≠ 0) ∧ True) ∧ ((bool01 ((3 : Int) == 1)) = 0 →
                        (((bool01 ((3 : Int) == 2)) ≠ 0 →
                         ((0 : Int) ≠ 0 ↔ (1 : Int) ≠ 0) ∧ True) ∧ ((bool01 ((3 : Int) == 2)) = 0 →
                         (((bool01 ((3 : Int) == 3)) ≠ 0 →
                          ((0 : Int) ≠ 0 ↔ (1 : Int) ≠ 0) ∧ True) ∧ ((bool01 ((3 : Int) == 3)) = 0 →
                          (((bool01 ((3 : Int) == 4)) ≠ 0 →
                           ((0 : Int) ≠ 0 ↔ (1 : Int) ≠ 0) ∧ True) ∧ ((bool01 ((3 : Int) == 4)) = 0 →
                           (((bool01 ((3 : Int) == 5)) ≠ 0 →
                            ((0 : Int) ≠ 0 ↔ (1 : Int) ≠ 0) ∧ True) ∧ ((bool01 ((3 : Int) == 5)) = 0 →
                            (((bool01 ((3 : Int) == 6)) ≠ 0 →
                             ((0 : Int) ≠ 0 ↔ (1 : Int) ≠ 0) ∧ True) ∧ ((bool01 ((3 : Int) == 6)) = 0 →
                             (((bool01 ((3 : Int) == 7)) ≠ 0 →
                              ((0 : Int) ≠ 0 ↔ (1 : Int) ≠ 0) ∧ True) ∧ ((bool01 ((3 : Int) == 7)) = 0 →
                              (((bool01 ((3 : Int) == 8)) ≠ 0 →
                               ((0 : Int) ≠ 0 ↔ (1 : Int) ≠ 0) ∧ True) ∧ ((bool01 ((3 : Int) == 8)) = 0 →
                               ((1 : Int) ≠ 0 ↔ (1 : Int) ≠ 0) ∧ True))))))))))))))))))) ∧ ((bool01 ((IntKind.wrap .i64 (y1019 + y1020)) != y1010)) = 0 →
                      (((bool01 (decide (y1010 < (usedZ y1002 y1003)))) ≠ 0 →
                       (((bool01 ((bool01 ((iteZ (bool01 (decide (0 ≤ (atZ y1002 y1003 y1010)))) (rdZ (rdZ y1002 (atZ y1002 y1003 y1010)) 3) 0) == 0)) != (bool01 ((rdZ (secC y1002 y1003) y1010) == 0)))) ≠ 0 →
                        (((bool01 ((4 : Int) == 0)) ≠ 0 →
                         ((0 : Int) ≠ 0 ↔ (1 : Int) ≠ 0) ∧ True) ∧ ((bool01 ((4 : Int) == 0)) = 0 →
                         (((bool01 ((4 : Int) == 1)) ≠ 0 →
                          ((0 : Int) ≠ 0 ↔ (1 : Int) ≠ 0) ∧ True) ∧ ((bool01 ((4 : Int) == 1)) = 0 →
                          (((bool01 ((4 : Int) == 2)) ≠ 0 →
                           ((0 : Int) ≠ 0 ↔ (1 : Int) ≠ 0) ∧ True) ∧ ((bool01 ((4 : Int) == 2)) = 0 →
                           (((bool01 ((4 : Int) == 3)) ≠ 0 →
                            ((0 : Int) ≠ 0 ↔ (1 : Int) ≠ 0) ∧ True) ∧ ((bool01 ((4 : Int) == 3)) = 0 →
                            (((bool01 ((4 : Int) == 4)) ≠ 0 →
                             ((0 : Int) ≠ 0 ↔ (1 : Int) ≠ 0) ∧ True) ∧ ((bool01 ((4 : Int) == 4)) = 0 →
                             (((bool01 ((4 : Int) == 5)) ≠ 0 →
                              ((0 : Int) ≠ 0 ↔ (1 : Int) ≠ 0) ∧ True) ∧ ((bool01 ((4 : Int) == 5)) = 0 →
                              (((bool01 ((4 : Int) == 6)) ≠ 0 →
                               ((0 : Int) ≠ 0 ↔ (1 : Int) ≠ 0) ∧ True) ∧ ((bool01 ((4 : Int) == 6)) = 0 →
                               (((bool01 ((4 : Int) == 7)) ≠ 0 →
                                ((0 : Int) ≠ 0 ↔ (1 : Int) ≠ 0) ∧ True) ∧ ((bool01 ((4 : Int) == 7)) = 0 →
                                (((bool01 ((4 : Int) == 8)) ≠ 0 →
                                 ((0 : Int) ≠ 0 ↔ (1 : Int) ≠ 0) ∧ True) ∧ ((bool01 ((4 : Int) == 8)) = 0 →
                                 ((1 : Int) ≠ 0 ↔ (1 : Int) ≠ 0) ∧ True))))))))))))))))))) ∧ ((bool01 ((bool01 ((iteZ (bool01 (decide (0 ≤ (atZ y1002 y1003 y1010)))) (rdZ (rdZ y1002 (atZ y1002 y1003 y1010)) 3) 0) == 0)) != (bool01 ((rdZ (secC y1002 y1003) y1010) == 0)))) = 0 →
                        (((bool01 (decide ((y1010 + 1) ≤ 4611686018427387904))) ≠ 0 →
                         ∃ m', m' < m1010 ∧ I1010 (y1010 + 1) m') ∧ ((bool01 (decide ((y1010 + 1) ≤ 4611686018427387904))) = 0 →
                         False))))) ∧ ((bool01 (decide (y1010 < (usedZ y1002 y1003)))) = 0 →
                       False))))) ∧ ((bool01 (decide (0 ≤ (atZ y1002 y1003 y1010)))) = 0 →
                     (((bool01 (decide ((y1010 + 1) ≤ 4611686018427387904))) ≠ 0 →
                      ∃ m', m' < m1010 ∧ I1010 (y1010 + 1) m') ∧ ((bool01 (decide ((y1010 + 1) ≤ 4611686018427387904))) = 0 →
                      False))))))))))) ∧ ((bool01 (decide (0 ≤ y1010))) = 0 →
                 (((bool01 ((bool01 ((bool01 (decide (0 ≤ (atZ y1002 y1003 y1010)))) == 0)) != 1)) ≠ 0 →
                  (((bool01 ((5 : Int) == 0)) ≠ 0 →
                   ((0 : Int) ≠ 0 ↔ (1 : Int) ≠ 0) ∧ True) ∧ ((bool01 ((5 : Int) == 0)) = 0 →
                   (((bool01 ((5 : Int) == 1)) ≠ 0 →
                    ((0 : Int) ≠ 0 ↔ (1 : Int) ≠ 0) ∧ True) ∧ ((bool01 ((5 : Int) == 1)) = 0 →
                    (((bool01 ((5 : Int) == 2)) ≠ 0 →
                     ((0 : Int) ≠ 0 ↔ (1 : Int) ≠ 0) ∧ True) ∧ ((bool01 ((5 : Int) == 2)) = 0 →
                     (((bool01 ((5 : Int) == 3)) ≠ 0 →
                      ((0 : Int) ≠ 0 ↔ (1 : Int) ≠ 0) ∧ True) ∧ ((bool01 ((5 : Int) == 3)) = 0 →
                      (((bool01 ((5 : Int) == 4)) ≠ 0 →
                       ((0 : Int) ≠ 0 ↔ (1 : Int) ≠ 0) ∧ True) ∧ ((bool01 ((5 : Int) == 4)) = 0 →
                       (((bool01 ((5 : Int) == 5)) ≠ 0 →
                        ((0 : Int) ≠ 0 ↔ (1 : Int) ≠ 0) ∧ True) ∧ ((bool01 ((5 : Int) == 5)) = 0 →
                        (((bool01 ((5 : Int) == 6)) ≠ 0 →
                         ((0 : Int) ≠ 0 ↔ (1 : Int) ≠ 0) ∧ True) ∧ ((bool01 ((5 : Int) == 6)) = 0 →
                         (((bool01 ((5 : Int) == 7)) ≠ 0 →
                          ((0 : Int) ≠ 0 ↔ (1 : Int) ≠ 0) ∧ True) ∧ ((bool01 ((5 : Int) == 7)) = 0 →
                          (((bool01 ((5 : Int) == 8)) ≠ 0 →
                           ((0 : Int) ≠ 0 ↔ (1 : Int) ≠ 0) ∧ True) ∧ ((bool01 ((5 : Int) == 8)) = 0 →
                           ((1 : Int) ≠ 0 ↔ (1 : Int) ≠ 0) ∧ True))))))))))))))))))) ∧ ((bool01 ((bool01 ((bool01 (decide (0 ≤ (atZ y1002 y1003 y1010)))) == 0)) != 1)) = 0 →
                  (((bool01 ((bool01 ((bool01 (decide (0 ≤ (atZ y1002 y1003 y1010)))) == 0)) != (bool01 (y1012 != 1)))) ≠ 0 →
                   (((bool01 ((6 : Int) == 0)) ≠ 0 →
                    ((0 : Int) ≠ 0 ↔ (1 : Int) ≠ 0) ∧ True) ∧ ((bool01 ((6 : Int) == 0)) = 0 →
                    (((bool01 ((6 : Int) == 1)) ≠ 0 →
                     ((0 : Int) ≠ 0 ↔ (1 : Int) ≠ 0) ∧ True) ∧ ((bool01 ((6 : Int) == 1)) = 0 →
                     (((bool01 ((6 : Int) == 2)) ≠ 0 →
                      ((0 : Int) ≠ 0 ↔ (1 : Int) ≠ 0) ∧ True) ∧ ((bool01 ((6 : Int) == 2)) = 0 →
                      (((bool01 ((6 : Int) == 3)) ≠ 0 →
                       ((0 : Int) ≠ 0 ↔ (1 : Int) ≠ 0) ∧ True) ∧ ((bool01 ((6 : Int) == 3)) = 0 →
                       (((bool01 ((6 : Int) == 4)) ≠ 0 →
                        ((0 : Int) ≠ 0 ↔ (1 : Int) ≠ 0) ∧ True) ∧ ((bool01 ((6 : Int) == 4)) = 0 →
                        (((bool01 ((6 : Int) == 5)) ≠ 0 →
                         ((0 : Int) ≠ 0 ↔ (1 : Int) ≠ 0) ∧ True) ∧ ((bool01 ((6 : Int) == 5)) = 0 →
                         (((bool01 ((6 : Int) == 6)) ≠ 0 →
                          ((0 : Int) ≠ 0 ↔ (1 : Int) ≠ 0) ∧ True) ∧ ((bool01 ((6 : Int) == 6)) = 0 →
                          (((bool01 ((6 : Int) == 7)) ≠ 0 →
                           ((0 : Int) ≠ 0 ↔ (1 : Int) ≠ 0) ∧ True) ∧ ((bool01 ((6 : Int) == 7)) = 0 →
                           (((bool01 ((6 : Int) == 8)) ≠ 0 →
                            ((0 : Int) ≠ 0 ↔ (1 : Int) ≠ 0) ∧ True) ∧ ((bool01 ((6 : Int) == 8)) = 0 →
                            ((1 : Int) ≠ 0 ↔ (1 : Int) ≠ 0) ∧ True))))))))))))))))))) ∧ ((bool01 ((bool01 ((bool01 (decide (0 ≤ (atZ y1002 y1003 y1010)))) == 0)) != (bool01 (y1012 != 1)))) = 0 →
                   (((bool01 (decide (1 < y1012))) ≠ 0 →
                    (((bool01 ((7 : Int) == 0)) ≠ 0 →
                     ((0 : Int) ≠ 0 ↔ (1 : Int) ≠ 0) ∧ True) ∧ ((bool01 ((7 : Int) == 0)) = 0 →
                     (((bool01 ((7 : Int) == 1)) ≠ 0 →
                      ((0 : Int) ≠ 0 ↔ (1 : Int) ≠ 0) ∧ True) ∧ ((bool01 ((7 : Int) == 1)) = 0 →
                      (((bool01 ((7 : Int) == 2)) ≠ 0 →
                       ((0 : Int) ≠ 0 ↔ (1 : Int) ≠ 0) ∧ True) ∧ ((bool01 ((7 : Int) == 2)) = 0 →
                       (((bool01 ((7 : Int) == 3)) ≠ 0 →
                        ((0 : Int) ≠ 0 ↔ (1 : Int) ≠ 0) ∧ True) ∧ ((bool01 ((7 : Int) == 3)) = 0 →
                        (((bool01 ((7 : Int) == 4)) ≠ 0 →
                         ((0 : Int) ≠ 0 ↔ (1 : Int) ≠ 0) ∧ True) ∧ ((bool01 ((7 : Int) == 4)) = 0 →
                         (((bool01 ((7 : Int) == 5)) ≠ 0 →
                          ((0 : Int) ≠ 0 ↔ (1 : Int) ≠ 0) ∧ True) ∧ ((bool01 ((7 : Int) == 5)) = 0 →
                          (((bool01 ((7 : Int) == 6)) ≠ 0 →
                           ((0 : Int) ≠ 0 ↔ (1 : Int) ≠ 0) ∧ True) ∧ ((bool01 ((7 : Int) == 6)) = 0 →
                           (((bool01 ((7 : Int) == 7)) ≠ 0 →
                            ((0 : Int) ≠ 0 ↔ (1 : Int) ≠ 0) ∧ True) ∧ ((bool01 ((7 : Int) == 7)) = 0 →
                            (((bool01 ((7 : Int) == 8)) ≠ 0 →
                             ((0 : Int) ≠ 0 ↔ (1 : Int) ≠ 0) ∧ True) ∧ ((bool01 ((7 : Int) == 8)) = 0 →
                             ((1 : Int) ≠ 0 ↔ (1 : Int) ≠ 0) ∧ True))))))))))))))))))) ∧ ((bool01 (decide (1 < y1012))) = 0 →
                    (((bool01 (decide (0 ≤ (atZ y1002 y1003 y1010)))) ≠ 0 →
                     ∀ y1019 : Int, y1019 = (iteZ (bool01 (decide (0 ≤ (atZ y1002 y1003 y1010)))) (IntKind.wrap .i64 (rdZ (rdZ y1002 (atZ y1002 y1003 y1010)) 1)) 0) → ((-9223372036854775808) ≤ y1019 ∧ y1019 ≤ 9223372036854775807) →
                     ∀ y1020 : Int, y1020 = (iteZ (bool01 (decide (0 ≤ (atZ y1002 y1003 y1010)))) (IntKind.wrap .i64 (y1010 - (IntKind.wrap .i64 (rdZ (rdZ y1002 (atZ y1002 y1003 y1010)) 1)))) 0) → ((-9223372036854775808) ≤ y1020 ∧ y1020 ≤ 9223372036854775807) →
                     (((bool01 ((IntKind.wrap .i64 (y1019 + y1020)) != y1010)) ≠ 0 →
                      (((bool01 ((8 : Int) == 0)) ≠ 0 →
                       ((0 : Int) ≠ 0 ↔ (1 : Int) ≠ 0) ∧ True) ∧ ((bool01 ((8 : Int) == 0)) = 0 →
                       (((bool01 ((8 : Int) == 1)) ≠ 0 →
                        ((0 : Int) ≠ 0 ↔ (1 : Int) ≠ 0) ∧ True) ∧ ((bool01 ((8 : Int) == 1)) = 0 →
                        (((bool01 ((8 : Int) == 2)) ≠ 0 →
                         ((0 : Int) ≠ 0 ↔ (1 : Int) ≠ 0) ∧ True) ∧ ((bool01 ((8 : Int) == 2)) = 0 →
                         (((bool01 ((8 : Int) == 3)) ≠ 0 →
                          ((0 : Int) ≠ 0 ↔ (1 : Int) ≠ 0) ∧ True) ∧ ((bool01 ((8 : Int) == 3)) = 0 →
                          (((bool01 ((8 : Int) == 4)) ≠ 0 →
                           ((0 : Int) ≠ 0 ↔ (1 : Int) ≠ 0) ∧ True) ∧ ((bool01 ((8 : Int) == 4)) = 0 →
                           (((bool01 ((8 : Int) == 5)) ≠ 0 →
                            ((0 : Int) ≠ 0 ↔ (1 : Int) ≠ 0) ∧ True) ∧ ((bool01 ((8 : Int) == 5)) = 0 →
                            (((bool01 ((8 : Int) == 6)) ≠ 0 →
                             ((0 : Int) ≠ 0 ↔ (1 : Int) ≠ 0) ∧ True) ∧ ((bool01 ((8 : Int) == 6)) = 0 →
                             (((bool01 ((8 : Int) == 7)) ≠ 0 →
                              ((0 : Int) ≠ 0 ↔ (1 : Int) ≠ 0) ∧ True) ∧ ((bool01 ((8 : Int) == 7)) = 0 →
                              (((bool01 ((8 : Int) == 8)) ≠ 0 →
                               ((0 : Int) ≠ 0 ↔ (1 : Int) ≠ 0) ∧ True) ∧ ((bool01 ((8 : Int) == 8)) = 0 →
                               ((1 : Int) ≠ 0 ↔ (1 : Int) ≠ 0) ∧ True))))))))))))))))))) ∧ ((bool01 ((IntKind.wrap .i64 (y1019 + y1020)) != y1010)) = 0 →
                      False))) ∧ ((bool01 (decide (0 ≤ (atZ y1002 y1003 y1010)))) = 0 →
                     (((bool01 (decide ((y1010 + 1) ≤ 4611686018427387904))) ≠ 0 →
                      ∃ m', m' < m1010 ∧ I1010 (y1010 + 1) m') ∧ ((bool01 (decide ((y1010 + 1) ≤ 4611686018427387904))) = 0 →
                      False))))))))))))))) ∧ ((bool01 (decide (y1010 ≤ p0))) = 0 →
              (((bool01 ((9 : Int) == 0)) ≠ 0 →
               ((0 : Int) ≠ 0 ↔ (1 : Int) ≠ 0) ∧ True) ∧ ((bool01 ((9 : Int) == 0)) = 0 →
               (((bool01 ((9 : Int) == 1)) ≠ 0 →
                ((0 : Int) ≠ 0 ↔ (1 : Int) ≠ 0) ∧ True) ∧ ((bool01 ((9 : Int) == 1)) = 0 →
                (((bool01 ((9 : Int) == 2)) ≠ 0 →
                 ((0 : Int) ≠ 0 ↔ (1 : Int) ≠ 0) ∧ True) ∧ ((bool01 ((9 : Int) == 2)) = 0 →
                 (((bool01 ((9 : Int) == 3)) ≠ 0 →
                  ((0 : Int) ≠ 0 ↔ (1 : Int) ≠ 0) ∧ True) ∧ ((bool01 ((9 : Int) == 3)) = 0 →
                  (((bool01 ((9 : Int) == 4)) ≠ 0 →
                   ((0 : Int) ≠ 0 ↔ (1 : Int) ≠ 0) ∧ True) ∧ ((bool01 ((9 : Int) == 4)) = 0 →
                   (((bool01 ((9 : Int) == 5)) ≠ 0 →
                    ((0 : Int) ≠ 0 ↔ (1 : Int) ≠ 0) ∧ True) ∧ ((bool01 ((9 : Int) == 5)) = 0 →
                    (((bool01 ((9 : Int) == 6)) ≠ 0 →
                     ((0 : Int) ≠ 0 ↔ (1 : Int) ≠ 0) ∧ True) ∧ ((bool01 ((9 : Int) == 6)) = 0 →
                     (((bool01 ((9 : Int) == 7)) ≠ 0 →
                      ((0 : Int) ≠ 0 ↔ (1 : Int) ≠ 0) ∧ True) ∧ ((bool01 ((9 : Int) == 7)) = 0 →
                      (((bool01 ((9 : Int) == 8)) ≠ 0 →
                       ((0 : Int) ≠ 0 ↔ (1 : Int) ≠ 0) ∧ True) ∧ ((bool01 ((9 : Int) == 8)) = 0 →
                       ((1 : Int) ≠ 0 ↔ (1 : Int) ≠ 0) ∧ True))))))))))))))))))))))) ∧ ((bool01 (decide (0 ≤ (usedZ y1002 y1003)))) = 0 →
           False))))) ∧ ((okQ y1002 y1003) = 0 →
         False))) ∧ ((bool01 (decide (y1003 ≤ 100))) = 0 →
        False))))))))))))

theorem holds (p0 n1 c1 r1 : Int) (l_p0 : -9223372036854775808 ≤ p0) (u_p0 : p0 ≤ 9223372036854775807) (l_n1 : 0 ≤ n1) (u_n1 : n1 ≤ 140737488355328) (h_n1 : n1 ≤ r1) : P p0 n1 c1 r1 := by
  unfold P
  simp only [b01_eq, decide_eq_true_eq, decide_eq_false_iff_not, beq_iff_eq, beq_eq_false_iff_ne, bne_iff_ne, bne_eq_false_iff_eq, Int.not_le, Int.not_lt, true_and, and_true, iteZ_ne, ne_eq, Bool.not_eq_false, Bool.not_eq_true, not_true_eq_false, not_false_eq_true, Decidable.not_not, forall_const, false_implies, true_iff, iff_true, false_iff, iff_false, Int.reduceEq, Int.reduceNeg, eq_self, if_true, if_false, reduceIte]
  refine ⟨fun _ => trivial, fun h1 => ⟨fun _ => trivial, fun h2 => ⟨fun _ => trivial, fun h3 => ⟨fun h4 => by omega, fun _ => ⟨fun i u q n m => u = usedZ q n ∧ okRg q n ∧ 0 ≤ n ∧ n ≤ i ∧ i ≤ n1 ∧ usedZ q n ≤ p0 ∧ m = (n1 - i).toNat, ⟨_, rfl, okRg_nil _, by omega, by omega, l_n1, h2, rfl⟩, fun i u q n m hb hI => ?_⟩⟩⟩⟩⟩
  obtain ⟨rfl, hok, hn0, hni, hi, hu, rfl⟩ := hI
  have hl := okRg_le hok hn0
  have hok1 : okQ q n ≠ 0 := (okQ_ne _ _).2 hok
  refine ⟨fun g1 k hk hkb => ⟨fun _ a ha _ e he _ => ?_, fun _ => by omega⟩, fun g1 => ?_⟩
  · clear ha he hk
    have hE := allE_zero (q := q) (n := n) (nm := rdZ (rdZ c1 i) 0) (k := k) (size := p0) (used := usedZ q n)
    generalize allE q n (consZ (rdZ (rdZ c1 i) 0) (consZ k (consZ p0 (consZ (usedZ q n) 0)))) = E at hE ⊢
    by_cases hz : E = 0
    · subst hz
      have hk := hE rfl hl.1 hu (by omega)
      have sn := okRg_snoc (nm := rdZ (rdZ c1 i) 0) (sec := rdZ (rdZ c1 i) 2) hok hn0 hk.1 (by omega)
      simp only [if_true, beq_self_eq_true, show bool01 true = 1 from rfl]
      rw [w64 (by omega) (by omega)]
      exact ⟨fun _ => ⟨fun _ => ⟨_, by omega, sn.2.symm, sn.1, by omega, by omega, by omega, by rw [sn.2]; omega, rfl⟩, fun _ => by omega⟩, fun _ => by omega⟩
    · simp only [if_neg hz, show (E == 0) = false by simpa using hz, show bool01 false = 0 from rfl, Int.add_zero]
      exact ⟨fun _ => ⟨fun _ => ⟨_, by omega, trivial, hok, by omega, by omega, by omega, hu, rfl⟩, fun _ => by omega⟩, fun _ => by omega⟩
  · refine ⟨fun _ => ⟨fun _ => ⟨fun _ => by omega, fun _ => ⟨fun _ => ⟨fun h => absurd rfl h, fun _ => ⟨fun a m => a ≤ p0 + 1 ∧ m = (p0 + 1 - a).toNat, ⟨_, by omega, rfl⟩, fun a m hab hI => ?_⟩⟩, fun _ => by omega⟩⟩, fun h => absurd h hok1⟩, fun _ => by omega⟩
    obtain ⟨ha1, rfl⟩ := hI
    refine ⟨fun ga => ?_, fun _ => trivial⟩
    refine ⟨fun c j m => c = (if 0 ≤ a ∧ a < usedF q j.toNat then 1 else 0) ∧ j ≤ n ∧ m = (n - j).toNat, ⟨_, by rw [if_neg]; simp [usedF], hn0, rfl⟩, fun c j m hcj hI => ?_⟩
    obtain ⟨hc, hj, rfl⟩ := hI
    have hj0 := nat_i hcj.2.1
    refine ⟨fun gj x hx _ => ?_, fun gj => ?_⟩
    · have hq := hok j.toNat (by omega)
      have hs := usedF_succ hok (i := j.toNat) (by omega)
      have hv := okRg_used hok j.toNat (by omega)
      rw [hj0] at hq hs
      have hx : x = mk q j 1 := hx
      refine ⟨fun gx y hy _ => ?_, fun gx => ⟨fun _ => ⟨_, ?_, ?_, ?_, rfl⟩, fun _ => by omega⟩⟩
      · have hy : y = mk q j 2 := hy
        rw [w64 (x := x + y) (by omega) (by omega)]
        refine ⟨fun gy => ⟨fun _ => ⟨fun _ => ⟨_, ?_, ?_, ?_, rfl⟩, fun _ => by omega⟩, fun _ => by (split at hc <;> omega)⟩, fun gy => ⟨fun _ => ⟨_, ?_, ?_, ?_, rfl⟩, fun _ => by omega⟩⟩
        · omega
        · rw [succ_i hcj.2.1, hs, if_pos (by omega), hc, if_neg (by omega)]; rfl
        · omega
        · omega
        · rw [succ_i hcj.2.1, hs, hc]
          by_cases g : 0 ≤ a ∧ a < usedF q j.toNat
          · rw [if_pos g, if_pos (by omega)]
          · rw [if_neg g, if_neg (by omega)]
        · omega
      · omega
      · rw [succ_i hcj.2.1, hs, hc]
        by_cases g : 0 ≤ a ∧ a < usedF q j.toNat
        · rw [if_pos g, if_pos (by omega)]
        · rw [if_neg g, if_neg (by omega)]
      · omega
    · have e : j = n := by omega
      subst e
      have hat := atZ_ok hok hn0 (a := a) (by omega) (by omega)
      have hc1 : c = 1 ↔ 0 ≤ atZ q j a := by rw [hat.1, hc]; unfold usedZ; split <;> simp_all
      have hc2 : c ≤ 1 := by rw [hc]; split <;> omega
      clear hc
      simp only [b01_is0, b01_eqb, b01_one, int_bne, nd_eq, nd_true]
      by_cases hT : 0 ≤ atZ q j a
      · obtain ⟨t1, t2, t3, t4⟩ := hat.2 hT
        have hsec := secC_at hok hT t1 t2 t3
        have hu2 := okRg_used hok (atZ q j a).toNat (by omega)
        have t5 : IntKind.wrap .i64 (rdZ (rdZ q (atZ q j a)) 1) = usedF q (atZ q j a).toNat := t4
        have h6 := hat.1.1 hT
        have h7 : IntKind.wrap .i64 (usedF q (atZ q j a).toNat + IntKind.wrap .i64 (a - usedF q (atZ q j a).toNat)) = a := by
          rw [w64 (x := a - _) (by omega) (by omega), show usedF q (atZ q j a).toNat + (a - usedF q (atZ q j a).toNat) = a by omega, w64 (by omega) (by omega)]
        simp only [if_pos hT, t5]
        refine ⟨fun g0 => ⟨fun h => h ⟨fun _ => h6.2, fun _ => hT⟩, fun _ => ⟨fun h => h ⟨hc1.2, hc1.1⟩, fun _ => ⟨fun h => by omega, fun _ => ⟨fun _ x hx _ y hy _ => ?_, fun h => by omega⟩⟩⟩⟩, fun g0 => by omega⟩
        subst hx hy
        refine ⟨fun h => h h7, fun _ => ⟨fun _ => ⟨fun h => h (by rw [hsec]), fun _ => ⟨fun _ => ⟨_, by omega, by omega, rfl⟩, fun _ => by omega⟩⟩, fun h => by omega⟩⟩
      · refine ⟨fun g0 => ⟨fun h => h ⟨fun h => absurd h hT, fun h => absurd (hat.1.2 ⟨g0, h⟩) hT⟩, fun _ => ⟨fun h => h ⟨fun h => absurd h hT, fun h => absurd (hc1.1 h) hT⟩, fun _ => ⟨fun h => by omega, fun _ => ⟨fun h => absurd h hT, fun _ => ⟨fun _ => ⟨_, by omega, by omega, rfl⟩, fun _ => by omega⟩⟩⟩⟩⟩,
          fun g0 => ⟨fun h => h hT, fun _ => ⟨fun h => h ⟨fun h => absurd h hT, fun h => absurd (hc1.1 h) hT⟩, fun _ => ⟨fun h => by omega, fun _ => ⟨fun h => absurd h hT, fun _ => ⟨fun _ => ⟨_, by omega, by omega, rfl⟩, fun _ => by omega⟩⟩⟩⟩⟩⟩

theorem plain (i : Nat → Int) (v : Nat → Value) (ro : Nat → RO) (p : Program) : TT.hdP (rc.cx (cxOf 2)) (rlF ⟨i, fN, v, ro, p⟩ rc.res) tree ⟨i, fN, v, ro, p⟩ = P (i 0) (i 1) (i 2) (i 3) := by kernel_rfl
theorem ran : TT.beq (projL (rc.pj (cxOf 2)) (runT us (fun f i => if f = 4 then (match i with | 7 => .tmpl (some mk7) | 18 => .tmpl (some mk18) | 14 => .tmpl (some mk14) | _ => .auto) else .auto) rc 2 rc.f rc.args ⟨[], []⟩)) tree = true := by kernel_rfl
theorem fineT : (TT.fine (rc.cx (cxOf 2)) 1000 [] tree && (rc.cx (cxOf 2)).okB 1000 && SV.vbL 1000 rc.args && TT.tidy (rc.cx (cxOf 2)) [] tree) = true := by kernel_rfl
theorem ok : RcOk (cxOf 2) rc :=
  rc_run (runT_ok us_ok (fun f i => if f = 4 then (match i with | 7 => .tmpl (some mk7) | 18 => .tmpl (some mk18) | 14 => .tmpl (some mk14) | _ => .auto) else .auto) rc 2) ran fineT okb fun ρ hρ hcap hpre => by
    obtain ⟨i, f, v, ro, p⟩ := ρ
    have hf : f = fN := hρ.hF
    subst hf
    rw [plain]
    exact holds (i 0) (i 1) (i 2) (i 3) (hρ.hi 0 _ rfl).1 (hρ.hi 0 _ rfl).2 (hρ.hi 1 _ rfl).1 (hρ.hi 1 _ rfl).2 (hcap _ (List.mem_of_getElem? (i := 0) rfl))

theorem walk (w : World) (a0 : Int) (w0 : (Lit.int .i64 a0).wf = true) (a1 : RO) (k1 : a1.cks = [.str, .int .i64, .bool]) (n1 : a1.a = none → a1.n = 0) (m1 : a1.n ≤ a1.cap) (t1 : RoAt w a1) (b1 : (a1.n : Int) ≤ 140737488355328) :
    Calls Tryd.prog 4 #[.int .i64 a0, .slice a1.a a1.n a1.cap] w fun e w' => e = .returned (.bool true) ∧ Below w.heap.size w w' := by
  refine law_of (cx := cxOf 2) ok ⟨rfl, rfl, rfl⟩ (ρ := envR Tryd.prog [a0, (a1.n : Int), a1.c, (a1.cap : Int)] [a1]) (envR_ok (cx := rc.cx (cxOf 2)) rfl rfl (bnd_cons (wf_bd w0) (bnd_cons ⟨Int.natCast_nonneg _, b1⟩ (bnd_nil _))) ⟨⟨k1, rfl, (Int.toNat_natCast _).symm, (Int.toNat_natCast _).symm, n1, fun g h => by cases h⟩, trivial⟩) (fun d hd => by
    simp only [show lfIns rc.b rc.c rc.ls 0 0 0 = [⟨[.str, .int .i64, .bool], .v 2, .v 1, .v 3, none⟩] from rfl, List.mem_cons, List.not_mem_nil, or_false] at hd
    rcases hd with rfl
    · exact Int.ofNat_le.2 m1) (roOk_of ⟨t1, trivial⟩) ?_
  rw [show rc.args = [.int .i64 (.v 0), .sl (.inp 0) 3 (.c 0) (.v 1) (some (.v 3))] from rfl]
  simp only [SV.denL, SV.den, E.ev, map_addr_zero]
  rfl
theorem lifted (os : Os) (started : os.Started) (H : Type) (enc : TypeId × Value → H) :
    ReturnsInHanded {} Tryd.checked os 4 .any (fun w args => (Rows.planSidesSpec.pre enc Tryd.prog Tryd.f4 Rows.planSidesRow.domain false w args ∧ laidMetH Tryd.prog Rows.planSidesRow.laid w) ∧ sizedMet enc Tryd.prog Tryd.f4 (OpenSpec.ofChange Rows.planSidesSpec) false w args)
      (Rows.planSidesSpec.post enc Tryd.prog Tryd.f4 false true false false) := by
  refine returnsInHanded_of_change_and (C := Tryd.checked) (X := fun w _ => laidMetH Tryd.prog Rows.planSidesRow.laid w) (fun _ _ _ hh h => h.of_heap hh) own started (by kernel_rfl) Tryd.func4
    (ChangeSpec.witness_shaped (enc := enc) (C := Tryd.checked) (os := os) (X := fun w _ => laidMetH Tryd.prog Rows.planSidesRow.laid w) false (World.laidAll Tryd.prog os Rows.planSidesRow.laid) #[.int .i64 0, .slice none 0 0] 8 (World.laidAll_os _ _ _)
      (World.shaped_of_ZipB (by kernel_rfl) (by kernel_rfl)) (by kernel_rfl) (by kernel_rfl) (by kernel_rfl)
      (by rw [MakeChecks.laidMetH_plain _ _ _ (by kernel_rfl)]; exact laidMet_laidAll _ (by kernel_rfl) (by kernel_rfl))) ?_
  intro W base args ds gs before hval0 hW hcnd hw0 _ _
  have hval : ∀ (j : Nat) t v, Tryd.f4.params[j]? = some t → args[j]? = some v → Value.okWide Tryd.prog W .any base t v := hval0
  have hW' := hW
  obtain ⟨p, q, hA0, hV, rfl, hfz, hnd⟩ := hW
  have hA : DataW.TrodAll enc Tryd.prog W 0 (fun _ => true) true Tryd.f4.params.toList args.toList ds p := hA0
  have hw := hw0
  rw [Tryd.params4] at hA hval hw
  obtain ⟨v0, vs0, d0, ds0, p0, q0, hargs, rfl, rfl, h0, r0⟩ := trodAll_cons hA
  have h0k := h0
  obtain ⟨v1, vs1, d1, ds1, p1, q1, rfl, rfl, rfl, h1, r1⟩ := trodAll_cons r0
  have h1k := h1
  obtain ⟨rfl, rfl, rfl⟩ := trodAll_nil r1
  obtain rfl : args = #[v0, v1] := by cases args; simp_all
  obtain ⟨rfl, rfl⟩ := trodVars_none hV
  obtain ⟨a0, rfl, rfl, rfl, w0⟩ := open_int Tryd.underlying3 (hval 0 3 v0 rfl rfl) h0
  obtain ⟨a1, k1, rfl, n1, m1, t1, b1, _⟩ := Go.Eng.open_row (ks := [.str, .int .i64, .bool]) Tryd.underlying22 (ElT.struct Tryd.underlying33 (by kernel_rfl) (by kernel_rfl) (by first | exact ⟨by simp only [CkT]; kernel_rfl, by simp only [CkT]; kernel_rfl, by simp only [CkT]; kernel_rfl, trivial⟩) (by decide)) (by decide) (of_decide_eq_true (by kernel_rfl)) (by kernel_rfl) (hval 1 22 v1 rfl rfl) h1 (weights_of (gs := []) hw (j := 1) (t := 22) rfl rfl)
  clear hA0 hval0
  refine (walk W a0 w0 a1 k1 n1 m1 t1 b1).mono fun e W' ⟨he, hg⟩ => ?_
  subst he
  have hin1 : ∀ x ∈ p1, x ∈ [] ++ (p1 ++ []) ++ [] := fun x hx => by simp [hx]
  have hlt1 : ∀ x ∈ p1, x.block < W.heap.size := fun x hx => by simpa using hW'.lt x (by simp [hx])
  exact ⟨_, rfl, post_below (pa := _) (pv := []) hW' hg (fun _ _ _ => (trodAll_cons_mk (shut_bool Tryd.underlying4 _) trodAll_mk0)) (fun sp hsp => (trodAll_cons_mk (shut_int Tryd.underlying3 w0) (trodAll_cons_mk (WideElems.Trod_stays laidOut (by kernel_rfl) (of_decide_eq_true (by kernel_rfl)) h1k (fun x hx => hg.same (hlt1 x hx)) (fun x hx => hsp x (hin1 x hx))) trodAll_mk0))) (fun _ _ => rfl) (by simp)
    (ok_one (by kernel_rfl) rfl (okWide_bool_mk Tryd.underlying4 _))⟩

theorem over : Rows.planSidesRow.holds Tryd.pinned (OpenSpec.ofChange Rows.planSidesSpec) :=
  OpenClaim.holds_of_wide 4 Tryd.f4 rfl rfl rfl rfl rfl rfl rfl ⟨rfl, rfl, rfl, rfl, rfl⟩ rfl rfl rfl rfl rfl (by kernel_rfl) Tryd.func4 (by kernel_rfl)
    (of_decide_eq_true (by kernel_rfl)) (by unfold Func.isWrapper; first | (rw [if_pos (by decide +kernel)]; kernel_rfl) | (rw [if_neg (by decide +kernel)]; exact ⟨rfl, rfl⟩))
    (fun os started H enc _ => lifted os started H enc)

/-- the statement -/
theorem proved : Rows.PlanSidesCardSaid :=
  Claim7.holds_tied_plain_at .later [] [.data, .pinned] true (true, "3af9951820d07a131011abb214dee3234aae3cc238946aa47dc37e3b05040692") true
    over (fun _ h => by cases h) (by kernel_rfl) (fun _ h => by cases h) planSides_row_tie rfl ⟨rfl, rfl⟩ (by kernel_rfl) rfl
    (fun f fn hf hfn => by
      obtain rfl : f = 4 := Option.some.inj ((show Tryd.prog.funcNamed "astrolabe/astrolabelaw20.PlanSides" = some 4 by kernel_rfl).symm.trans hf) |>.symm
      obtain rfl : fn = Tryd.f4 := (Option.some.inj (Tryd.func4.symm.trans hfn)).symm
      exact ⟨by kernel_rfl, fun j t ht => by
        rw [Tryd.params4] at ht
        have h3 : t = 3 ∨ t = 22 := by
          rcases j with _ | _ | j
          · exact (.inl (by simpa using ht.symm))
          · exact (.inr (by simpa using ht.symm))
          · simp at ht
        rcases h3 with rfl | rfl
        · exact (show Tryd.prog.wantsStandIn 3 = false by kernel_rfl)
        · exact (show Tryd.prog.wantsStandIn 22 = false by kernel_rfl)⟩)
    (by kernel_rfl)
#print axioms proved
end Go.Proofs.YtefpbddmpiaaiaaDoor.planSides
