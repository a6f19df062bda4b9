/-
  The law CoreCosts answers true at every input: the law is run by the engine (a symbolic run, proved sound), the tree of its answers, as a plain statement, is shown to hold. No condition.
-/
import Derived.Test.YtlhcaeakfbokmaaGreatDoorGab
import Derived.Test.YtlhcaeakfbokmaaGreatDoorGib
import Derived.Test.YtlhcaeakfbokmaaGreatDoorCCRun
import Derived.Test.YtlhcaeakfbokmaaGreatDoorCCRun0
import Derived.Test.YtlhcaeakfbokmaaGreatDoorCCDec
import Derived.Test.YtlhcaeakfbokmaaGreatDoorCRCost16
import Derived.Test.YtlhcaeakfbokmaaGreatDoorCAwake16
import Derived.Test.YtlhcaeakfbokmaaGreatDoorGmC
import Derived.WalkKit
import Derived.ProofKit
import Derived.OpenShut
import Derived.LaidMore
import Derived.Stop.Joined
import Derived.SevenTiedAt
import Derived.SizedLaws
import Derived.Lay
import Derived.Test.YtlhcaeakfbokmaaGreatDoorCards
import Derived.Test.YtlhcaeakfbokmaaGreatDoorTie
namespace Go.Proofs.YtlhcaeakfbokmaaGreatDoor.coreCosts
open Go.ChangeShapes Go.WideShapes Go.ChangeAt Go.Eng Go.RowKit
set_option linter.unusedVariables false
set_option linter.unusedSimpArgs false
set_option maxRecDepth 100000
def rc : Rc := ⟨5, [none, none, none], [.row [.int .u32] 140737488355328, .row [.int .i32] 140737488355328, .int .u8], [], .one, [.bool (.c 1)]⟩
theorem okb : rc.ok = true := by kernel_rfl
def mk13 : Marks := [([0, 12], .num (0) (4611686018427387904)), ([0, 12], .num (-9223372036854775808) (9223372036854775807)), ([0, 60], .wild), ([0, 61], .wild), ([0, 62], .wild), ([0, 63], .wild), ([0, 64], .wild), ([0, 65], .wild), ([0, 66], .wild), ([0, 67], .wild), ([0, 68], .wild), ([0, 69], .wild), ([0, 70], .wild), ([0, 71], .wild), ([0, 72], .wild), ([0, 73], .wild), ([0, 74], .wild), ([0, 75], .wild), ([0, 76], .wild), ([0, 77], .wild), ([0, 78], .wild), ([0, 79], .wild), ([0, 80], .wild), ([0, 81], .wild), ([0, 82], .wild), ([0, 83], .wild), ([0, 84], .wild), ([0, 85], .wild), ([0, 86], .wild), ([0, 87], .wild), ([0, 88], .wild), ([0, 89], .wild), ([0, 90], .wild), ([0, 91], .wild), ([0, 92], .wild), ([0, 93], .wild), ([0, 94], .wild), ([0, 95], .wild), ([0, 96], .wild), ([0, 97], .wild), ([0, 98], .wild), ([0, 99], .wild), ([0, 100], .wild), ([0, 101], .wild), ([0, 102], .wild), ([0, 103], .wild), ([0, 104], .wild), ([0, 105], .wild), ([0, 106], .wild), ([0, 107], .wild), ([0, 108], .wild), ([0, 109], .wild), ([0, 110], .wild), ([0, 111], .wild), ([0, 112], .wild), ([0, 113], .wild), ([0, 114], .wild), ([0, 115], .wild)]
def mk18 : Marks := [([0, 13], .num (0) (4611686018427387904)), ([0, 13], .num (0) (4611686018427387904)), ([0, 13], .num (-9223372036854775808) (9223372036854775807)), ([0, 14], .wild), ([0, 15], .wild), ([0, 116], .wild), ([0, 117], .wild), ([0, 118], .wild), ([0, 119], .wild), ([0, 120], .wild), ([0, 121], .wild), ([0, 122], .wild), ([0, 123], .wild), ([0, 124], .wild), ([0, 125], .wild), ([0, 126], .wild), ([0, 127], .wild), ([0, 128], .wild), ([0, 129], .wild), ([0, 130], .wild), ([0, 131], .wild), ([0, 132], .wild), ([0, 133], .wild), ([0, 134], .wild), ([0, 135], .wild), ([0, 136], .wild), ([0, 137], .wild), ([0, 138], .wild), ([0, 139], .wild), ([0, 140], .wild), ([0, 141], .wild), ([0, 142], .wild), ([0, 143], .wild), ([0, 144], .wild), ([0, 145], .wild), ([0, 146], .wild), ([0, 147], .wild), ([0, 148], .wild), ([0, 149], .wild), ([0, 150], .wild), ([0, 151], .wild), ([0, 152], .wild), ([0, 153], .wild), ([0, 154], .wild), ([0, 155], .wild), ([0, 156], .wild), ([0, 157], .wild), ([0, 158], .wild), ([0, 159], .wild), ([0, 160], .wild), ([0, 161], .wild), ([0, 162], .wild)]
def mk22 : Marks := [([0, 15], .num (0) (4611686018427387904)), ([0, 15], .num (0) (4611686018427387904)), ([0, 15], .num (0) (4611686018427387904)), ([0, 14], .num (0) (1)), ([0, 15], .num (-9223372036854775808) (9223372036854775807)), ([0, 122], .wild), ([0, 123], .wild), ([0, 124], .wild), ([0, 125], .wild), ([0, 126], .wild), ([0, 127], .wild), ([0, 128], .wild), ([0, 129], .wild), ([0, 130], .wild), ([0, 131], .wild), ([0, 132], .wild), ([0, 133], .wild), ([0, 134], .wild), ([0, 135], .wild), ([0, 136], .wild), ([0, 137], .wild), ([0, 138], .wild), ([0, 139], .wild), ([0, 140], .wild), ([0, 141], .wild), ([0, 142], .wild), ([0, 143], .wild), ([0, 144], .wild), ([0, 145], .wild), ([0, 146], .wild), ([0, 147], .wild), ([0, 148], .wild), ([0, 149], .wild)]
noncomputable def us : SMs := fun Γ ins n => smH (cxG n Γ ins) [CCRun.rk.rh, CCRun0.rk.rh] (smAnd 37 (libClone37 Γ ins n) (smR (cxG n Γ ins) [CCDec.rc, CRCost16.rc, CAwake16.rc]))
theorem us_ok : SMsOk us := fun Γ ins n => smH_ok (tabsG n Γ ins) (rhs_cons CCRun.okh (rh_n CCRun.ok) (rhs_cons CCRun0.okh (rh_n CCRun0.ok) (rhs_nil _))) (smAnd_ok (libClone37_ok Γ ins n) (smR_ok (tabsG n Γ ins) (rcs_cons CCDec.okb (rc_n CCDec.ok) (rcs_cons CRCost16.okb (rc_n CRCost16.ok) (rcs_cons CAwake16.okb (rc_n CAwake16.ok) (rcs_nil _))))))
def tree : TT (List E) :=
(.br (.b .le .i64 (.v 0) (.c 200))
  (.br (.nt (.b .le .i64 (.v 1) (.c 2048)))
  (.leaf [(.c 1)])
  (.br (.b .lt .i64 (.c 2048) (.v 1))
  (.leaf [(.c 0)])
  (.br (.b .le .i64 (.v 1) (.c 1000000))
  (.br (.b .lt .i64 (.c 16384) (.v 0))
  (.leaf [(.c 0)])
  (.loop ⟨1000, [some (0, 4611686018427387904), none, some (0, 1000000)], [(.c 0), (.c 0), (.c 0)], 1010⟩
  (.br (.b .lt .i64 (.cl 1000 0 4611686018427387904) (.v 0))
  (.new 1004 (.f 67 (.w .u32 (.f 13 (.v 3) (.cl 1000 0 4611686018427387904) (.c 0))) (.c 0) (.c 0))
  (.new 1005 (.f 67 (.w .u32 (.f 13 (.v 3) (.cl 1000 0 4611686018427387904) (.c 0))) (.c 1) (.c 0))
  (.new 1006 (.f 67 (.w .u32 (.f 13 (.v 3) (.cl 1000 0 4611686018427387904) (.c 0))) (.c 2) (.c 0))
  (.new 1007 (.f 67 (.w .u32 (.f 13 (.v 3) (.cl 1000 0 4611686018427387904) (.c 0))) (.c 3) (.c 0))
  (.new 1008 (.f 67 (.w .u32 (.f 13 (.v 3) (.cl 1000 0 4611686018427387904) (.c 0))) (.c 4) (.c 0))
  (.new 1009 (.f 67 (.w .u32 (.f 13 (.v 3) (.cl 1000 0 4611686018427387904) (.c 0))) (.c 5) (.c 0))
  (.br (.b .le .i64 (.b .padd .i64 (.cl 1002 0 1000000) (.c 1)) (.c 1000000))
  (.br (.b .le .i64 (.b .padd .i64 (.cl 1000 0 4611686018427387904) (.c 1)) (.c 4611686018427387904))
  (.br (.b .le .i64 (.b .padd .i64 (.cl 1002 0 1000000) (.c 1)) (.c 1000000))
  (.back [(.b .padd .i64 (.cl 1000 0 4611686018427387904) (.c 1)), (.f 14 (.v 1001) (.cl 1002 0 1000000) (.f 11 (.cl 1004 (-32768) 65535) (.f 11 (.cl 1005 (-32768) 65535) (.f 11 (.cl 1006 (-32768) 65535) (.f 11 (.cl 1007 (-32768) 65535) (.f 11 (.cl 1008 (-32768) 65535) (.f 11 (.b .eq .i64 (.cl 1009 (-32768) 65535) (.c 0)) (.c 0) (.c 0)) (.c 0)) (.c 0)) (.c 0)) (.c 0)) (.c 0))), (.b .padd .i64 (.cl 1002 0 1000000) (.c 1))])
  (.bad 303))
  (.bad 303))
  (.bad 200))))))))
  (.exit 0))
  (.br (.b .le .i64 (.cl 1002 0 1000000) (.c 16384))
  (.br (.b .le .i64 (.v 1) (.c 2048))
  (.br (.f 68 (.v 1001) (.cl 1002 0 1000000) (.c 0))
  (.br (.b .lt .i64 (.c 1) (.w .i64 (.f 13 (.f 73 (.v 1001) (.cl 1002 0 1000000) (.f 11 (.v 1) (.f 11 (.v 2) (.f 11 (.f 74 (.v 4) (.c 0) (.c 0)) (.c 0) (.c 0)) (.c 0)) (.c 0))) (.c 3) (.c 0))))
  (.br (.b .ne .i64 (.f 75 (.f 73 (.v 1001) (.cl 1002 0 1000000) (.f 11 (.v 1) (.f 11 (.v 2) (.f 11 (.f 74 (.v 4) (.c 0) (.c 0)) (.c 0) (.c 0)) (.c 0)) (.c 0))) (.c 0) (.c 0)) (.w .i64 (.b .psub .i64 (.w .i64 (.f 13 (.f 73 (.v 1001) (.cl 1002 0 1000000) (.f 11 (.v 1) (.f 11 (.v 2) (.f 11 (.f 74 (.v 4) (.c 0) (.c 0)) (.c 0) (.c 0)) (.c 0)) (.c 0))) (.c 7) (.c 0))) (.c 1))))
  (.leaf [(.c 0)])
  (.new 1012 (.f 75 (.f 73 (.v 1001) (.cl 1002 0 1000000) (.f 11 (.v 1) (.f 11 (.v 2) (.f 11 (.f 74 (.v 4) (.c 0) (.c 0)) (.c 0) (.c 0)) (.c 0)) (.c 0))) (.c 0) (.c 0))
  (.new 1013 (.f 35 (.f 13 (.f 73 (.v 1001) (.cl 1002 0 1000000) (.f 11 (.v 1) (.f 11 (.v 2) (.f 11 (.f 74 (.v 4) (.c 0) (.c 0)) (.c 0) (.c 0)) (.c 0)) (.c 0))) (.c 5) (.c 0)) (.cl 1012 0 999999) (.c 0))
  (.br (.b .ne .i64 (.w .i64 (.f 13 (.f 73 (.v 1001) (.cl 1002 0 1000000) (.f 11 (.v 1) (.f 11 (.v 2) (.f 11 (.f 74 (.v 4) (.c 0) (.c 0)) (.c 0) (.c 0)) (.c 0)) (.c 0))) (.c 4) (.c 0))) (.cl 1013 (-9223372036854775808) 9223372036854775807))
  (.leaf [(.c 0)])
  (.loop ⟨1014, [some (0, 4611686018427387904)], [(.c 0)], 1016⟩
  (.br (.b .lt .i64 (.cl 1014 0 4611686018427387904) (.f 75 (.f 73 (.v 1001) (.cl 1002 0 1000000) (.f 11 (.v 1) (.f 11 (.v 2) (.f 11 (.f 74 (.v 4) (.c 0) (.c 0)) (.c 0) (.c 0)) (.c 0)) (.c 0))) (.c 0) (.c 0)))
  (.br (.b .lt .i64 (.w .i64 (.f 13 (.f 13 (.f 13 (.f 73 (.v 1001) (.cl 1002 0 1000000) (.f 11 (.v 1) (.f 11 (.v 2) (.f 11 (.f 74 (.v 4) (.c 0) (.c 0)) (.c 0) (.c 0)) (.c 0)) (.c 0))) (.c 5) (.c 0)) (.cl 1014 0 4611686018427387904) (.c 0)) (.c 0) (.c 0))) (.c 0))
  (.exit 0)
  (.br (.b .le .i64 (.v 0) (.w .i64 (.f 13 (.f 13 (.f 13 (.f 73 (.v 1001) (.cl 1002 0 1000000) (.f 11 (.v 1) (.f 11 (.v 2) (.f 11 (.f 74 (.v 4) (.c 0) (.c 0)) (.c 0) (.c 0)) (.c 0)) (.c 0))) (.c 5) (.c 0)) (.cl 1014 0 4611686018427387904) (.c 0)) (.c 0) (.c 0))))
  (.exit 1)
  (.br (.b .lt .i64 (.w .i64 (.f 13 (.f 13 (.f 13 (.f 73 (.v 1001) (.cl 1002 0 1000000) (.f 11 (.v 1) (.f 11 (.v 2) (.f 11 (.f 74 (.v 4) (.c 0) (.c 0)) (.c 0) (.c 0)) (.c 0)) (.c 0))) (.c 5) (.c 0)) (.cl 1014 0 4611686018427387904) (.c 0)) (.c 1) (.c 0))) (.c (-1)))
  (.exit 2)
  (.br (.b .le .i64 (.v 1) (.w .i64 (.f 13 (.f 13 (.f 13 (.f 73 (.v 1001) (.cl 1002 0 1000000) (.f 11 (.v 1) (.f 11 (.v 2) (.f 11 (.f 74 (.v 4) (.c 0) (.c 0)) (.c 0) (.c 0)) (.c 0)) (.c 0))) (.c 5) (.c 0)) (.cl 1014 0 4611686018427387904) (.c 0)) (.c 1) (.c 0))))
  (.exit 3)
  (.br (.b .lt .i64 (.w .i64 (.f 13 (.f 13 (.f 13 (.f 73 (.v 1001) (.cl 1002 0 1000000) (.f 11 (.v 1) (.f 11 (.v 2) (.f 11 (.f 74 (.v 4) (.c 0) (.c 0)) (.c 0) (.c 0)) (.c 0)) (.c 0))) (.c 5) (.c 0)) (.cl 1014 0 4611686018427387904) (.c 0)) (.c 2) (.c 0))) (.c 1))
  (.exit 4)
  (.br (.b .lt .i64 (.c 34) (.w .i64 (.f 13 (.f 13 (.f 13 (.f 73 (.v 1001) (.cl 1002 0 1000000) (.f 11 (.v 1) (.f 11 (.v 2) (.f 11 (.f 74 (.v 4) (.c 0) (.c 0)) (.c 0) (.c 0)) (.c 0)) (.c 0))) (.c 5) (.c 0)) (.cl 1014 0 4611686018427387904) (.c 0)) (.c 2) (.c 0))))
  (.exit 5)
  (.br (.b .le .i64 (.b .padd .i64 (.cl 1014 0 4611686018427387904) (.c 1)) (.c 4611686018427387904))
  (.back [(.b .padd .i64 (.cl 1014 0 4611686018427387904) (.c 1))])
  (.bad 303))))))))
  (.exit 6))
  (.br (.b .eq .i64 (.v 1016) (.c 0))
  (.leaf [(.c 0)])
  (.br (.b .eq .i64 (.v 1016) (.c 1))
  (.leaf [(.c 0)])
  (.br (.b .eq .i64 (.v 1016) (.c 2))
  (.leaf [(.c 0)])
  (.br (.b .eq .i64 (.v 1016) (.c 3))
  (.leaf [(.c 0)])
  (.br (.b .eq .i64 (.v 1016) (.c 4))
  (.leaf [(.c 0)])
  (.br (.b .eq .i64 (.v 1016) (.c 5))
  (.leaf [(.c 0)])
  (.loop ⟨1018, [some (0, 4611686018427387904)], [(.c 0)], 1026⟩
  (.br (.b .lt .i64 (.cl 1018 0 4611686018427387904) (.v 1))
  (.loop ⟨1020, [some (0, 1), some (0, 4611686018427387904)], [(.c 0), (.c 0)], 1023⟩
  (.br (.b .lt .i64 (.cl 1021 0 4611686018427387904) (.f 75 (.f 73 (.v 1001) (.cl 1002 0 1000000) (.f 11 (.v 1) (.f 11 (.v 2) (.f 11 (.f 74 (.v 4) (.c 0) (.c 0)) (.c 0) (.c 0)) (.c 0)) (.c 0))) (.c 0) (.c 0)))
  (.br (.cl 1020 0 1)
  (.br (.b .le .i64 (.b .padd .i64 (.cl 1021 0 4611686018427387904) (.c 1)) (.c 4611686018427387904))
  (.back [(.c 1), (.b .padd .i64 (.cl 1021 0 4611686018427387904) (.c 1))])
  (.bad 303))
  (.br (.b .eq .i64 (.w .i64 (.f 13 (.f 13 (.f 13 (.f 73 (.v 1001) (.cl 1002 0 1000000) (.f 11 (.v 1) (.f 11 (.v 2) (.f 11 (.f 74 (.v 4) (.c 0) (.c 0)) (.c 0) (.c 0)) (.c 0)) (.c 0))) (.c 5) (.c 0)) (.cl 1021 0 4611686018427387904) (.c 0)) (.c 1) (.c 0))) (.cl 1018 0 4611686018427387904))
  (.br (.b .le .i64 (.c 0) (.w .i64 (.f 13 (.f 13 (.f 13 (.f 73 (.v 1001) (.cl 1002 0 1000000) (.f 11 (.v 1) (.f 11 (.v 2) (.f 11 (.f 74 (.v 4) (.c 0) (.c 0)) (.c 0) (.c 0)) (.c 0)) (.c 0))) (.c 5) (.c 0)) (.cl 1021 0 4611686018427387904) (.c 0)) (.c 0) (.c 0))))
  (.br (.b .lt .i64 (.w .i64 (.f 13 (.f 13 (.f 13 (.f 73 (.v 1001) (.cl 1002 0 1000000) (.f 11 (.v 1) (.f 11 (.v 2) (.f 11 (.f 74 (.v 4) (.c 0) (.c 0)) (.c 0) (.c 0)) (.c 0)) (.c 0))) (.c 5) (.c 0)) (.cl 1021 0 4611686018427387904) (.c 0)) (.c 0) (.c 0))) (.v 0))
  (.br (.b .le .i64 (.b .padd .i64 (.cl 1021 0 4611686018427387904) (.c 1)) (.c 4611686018427387904))
  (.back [(.b .eq .i64 (.b .shr .u32 (.w .u32 (.f 13 (.v 3) (.w .i64 (.f 13 (.f 13 (.f 13 (.f 73 (.v 1001) (.cl 1002 0 1000000) (.f 11 (.v 1) (.f 11 (.v 2) (.f 11 (.f 74 (.v 4) (.c 0) (.c 0)) (.c 0) (.c 0)) (.c 0)) (.c 0))) (.c 5) (.c 0)) (.cl 1021 0 4611686018427387904) (.c 0)) (.c 0) (.c 0))) (.c 0))) (.c 26)) (.c 35)), (.b .padd .i64 (.cl 1021 0 4611686018427387904) (.c 1))])
  (.bad 303))
  (.bad 200))
  (.bad 200))
  (.br (.b .le .i64 (.b .padd .i64 (.cl 1021 0 4611686018427387904) (.c 1)) (.c 4611686018427387904))
  (.back [(.c 0), (.b .padd .i64 (.cl 1021 0 4611686018427387904) (.c 1))])
  (.bad 303))))
  (.exit 0))
  (.br (.nt (.cl 1020 0 1))
  (.new 1025 (.w .i32 (.f 13 (.f 13 (.f 73 (.v 1001) (.cl 1002 0 1000000) (.f 11 (.v 1) (.f 11 (.v 2) (.f 11 (.f 74 (.v 4) (.c 0) (.c 0)) (.c 0) (.c 0)) (.c 0)) (.c 0))) (.c 1) (.c 0)) (.cl 1018 0 4611686018427387904) (.c 0)))
  (.br (.b .ne .i64 (.cl 1025 (-2147483648) 2147483647) (.w .i32 (.f 13 (.v 4) (.cl 1018 0 4611686018427387904) (.c 0))))
  (.exit 0)
  (.br (.b .le .i64 (.b .padd .i64 (.cl 1018 0 4611686018427387904) (.c 1)) (.c 4611686018427387904))
  (.back [(.b .padd .i64 (.cl 1018 0 4611686018427387904) (.c 1))])
  (.bad 303))))
  (.br (.b .le .i64 (.b .padd .i64 (.cl 1018 0 4611686018427387904) (.c 1)) (.c 4611686018427387904))
  (.back [(.b .padd .i64 (.cl 1018 0 4611686018427387904) (.c 1))])
  (.bad 303))))
  (.exit 1))
  (.br (.b .eq .i64 (.v 1026) (.c 0))
  (.leaf [(.c 0)])
  (.leaf [(.c 1)]))))))))))))))
  (.br (.b .ne .i64 (.f 75 (.f 73 (.v 1001) (.cl 1002 0 1000000) (.f 11 (.v 1) (.f 11 (.v 2) (.f 11 (.f 74 (.v 4) (.c 0) (.c 0)) (.c 0) (.c 0)) (.c 0)) (.c 0))) (.c 0) (.c 0)) (.w .i64 (.f 13 (.f 73 (.v 1001) (.cl 1002 0 1000000) (.f 11 (.v 1) (.f 11 (.v 2) (.f 11 (.f 74 (.v 4) (.c 0) (.c 0)) (.c 0) (.c 0)) (.c 0)) (.c 0))) (.c 7) (.c 0))))
  (.leaf [(.c 0)])
  (.new 1012 (.f 75 (.f 73 (.v 1001) (.cl 1002 0 1000000) (.f 11 (.v 1) (.f 11 (.v 2) (.f 11 (.f 74 (.v 4) (.c 0) (.c 0)) (.c 0) (.c 0)) (.c 0)) (.c 0))) (.c 0) (.c 0))
  (.new 1013 (.f 35 (.f 13 (.f 73 (.v 1001) (.cl 1002 0 1000000) (.f 11 (.v 1) (.f 11 (.v 2) (.f 11 (.f 74 (.v 4) (.c 0) (.c 0)) (.c 0) (.c 0)) (.c 0)) (.c 0))) (.c 5) (.c 0)) (.cl 1012 0 999999) (.c 0))
  (.br (.b .ne .i64 (.w .i64 (.f 13 (.f 73 (.v 1001) (.cl 1002 0 1000000) (.f 11 (.v 1) (.f 11 (.v 2) (.f 11 (.f 74 (.v 4) (.c 0) (.c 0)) (.c 0) (.c 0)) (.c 0)) (.c 0))) (.c 4) (.c 0))) (.cl 1013 (-9223372036854775808) 9223372036854775807))
  (.leaf [(.c 0)])
  (.loop ⟨1014, [some (0, 4611686018427387904)], [(.c 0)], 1016⟩
  (.br (.b .lt .i64 (.cl 1014 0 4611686018427387904) (.f 75 (.f 73 (.v 1001) (.cl 1002 0 1000000) (.f 11 (.v 1) (.f 11 (.v 2) (.f 11 (.f 74 (.v 4) (.c 0) (.c 0)) (.c 0) (.c 0)) (.c 0)) (.c 0))) (.c 0) (.c 0)))
  (.br (.b .lt .i64 (.w .i64 (.f 13 (.f 13 (.f 13 (.f 73 (.v 1001) (.cl 1002 0 1000000) (.f 11 (.v 1) (.f 11 (.v 2) (.f 11 (.f 74 (.v 4) (.c 0) (.c 0)) (.c 0) (.c 0)) (.c 0)) (.c 0))) (.c 5) (.c 0)) (.cl 1014 0 4611686018427387904) (.c 0)) (.c 0) (.c 0))) (.c 0))
  (.exit 0)
  (.br (.b .le .i64 (.v 0) (.w .i64 (.f 13 (.f 13 (.f 13 (.f 73 (.v 1001) (.cl 1002 0 1000000) (.f 11 (.v 1) (.f 11 (.v 2) (.f 11 (.f 74 (.v 4) (.c 0) (.c 0)) (.c 0) (.c 0)) (.c 0)) (.c 0))) (.c 5) (.c 0)) (.cl 1014 0 4611686018427387904) (.c 0)) (.c 0) (.c 0))))
  (.exit 1)
  (.br (.b .lt .i64 (.w .i64 (.f 13 (.f 13 (.f 13 (.f 73 (.v 1001) (.cl 1002 0 1000000) (.f 11 (.v 1) (.f 11 (.v 2) (.f 11 (.f 74 (.v 4) (.c 0) (.c 0)) (.c 0) (.c 0)) (.c 0)) (.c 0))) (.c 5) (.c 0)) (.cl 1014 0 4611686018427387904) (.c 0)) (.c 1) (.c 0))) (.c (-1)))
  (.exit 2)
  (.br (.b .le .i64 (.v 1) (.w .i64 (.f 13 (.f 13 (.f 13 (.f 73 (.v 1001) (.cl 1002 0 1000000) (.f 11 (.v 1) (.f 11 (.v 2) (.f 11 (.f 74 (.v 4) (.c 0) (.c 0)) (.c 0) (.c 0)) (.c 0)) (.c 0))) (.c 5) (.c 0)) (.cl 1014 0 4611686018427387904) (.c 0)) (.c 1) (.c 0))))
  (.exit 3)
  (.br (.b .lt .i64 (.w .i64 (.f 13 (.f 13 (.f 13 (.f 73 (.v 1001) (.cl 1002 0 1000000) (.f 11 (.v 1) (.f 11 (.v 2) (.f 11 (.f 74 (.v 4) (.c 0) (.c 0)) (.c 0) (.c 0)) (.c 0)) (.c 0))) (.c 5) (.c 0)) (.cl 1014 0 4611686018427387904) (.c 0)) (.c 2) (.c 0))) (.c 1))
  (.exit 4)
  (.br (.b .lt .i64 (.c 34) (.w .i64 (.f 13 (.f 13 (.f 13 (.f 73 (.v 1001) (.cl 1002 0 1000000) (.f 11 (.v 1) (.f 11 (.v 2) (.f 11 (.f 74 (.v 4) (.c 0) (.c 0)) (.c 0) (.c 0)) (.c 0)) (.c 0))) (.c 5) (.c 0)) (.cl 1014 0 4611686018427387904) (.c 0)) (.c 2) (.c 0))))
  (.exit 5)
  (.br (.b .le .i64 (.b .padd .i64 (.cl 1014 0 4611686018427387904) (.c 1)) (.c 4611686018427387904))
  (.back [(.b .padd .i64 (.cl 1014 0 4611686018427387904) (.c 1))])
  (.bad 303))))))))
  (.exit 6))
  (.br (.b .eq .i64 (.v 1016) (.c 0))
  (.leaf [(.c 0)])
  (.br (.b .eq .i64 (.v 1016) (.c 1))
  (.leaf [(.c 0)])
  (.br (.b .eq .i64 (.v 1016) (.c 2))
  (.leaf [(.c 0)])
  (.br (.b .eq .i64 (.v 1016) (.c 3))
  (.leaf [(.c 0)])
  (.br (.b .eq .i64 (.v 1016) (.c 4))
  (.leaf [(.c 0)])
  (.br (.b .eq .i64 (.v 1016) (.c 5))
  (.leaf [(.c 0)])
  (.loop ⟨1018, [some (0, 4611686018427387904)], [(.c 0)], 1026⟩
  (.br (.b .lt .i64 (.cl 1018 0 4611686018427387904) (.v 1))
  (.loop ⟨1020, [some (0, 1), some (0, 4611686018427387904)], [(.c 0), (.c 0)], 1023⟩
  (.br (.b .lt .i64 (.cl 1021 0 4611686018427387904) (.f 75 (.f 73 (.v 1001) (.cl 1002 0 1000000) (.f 11 (.v 1) (.f 11 (.v 2) (.f 11 (.f 74 (.v 4) (.c 0) (.c 0)) (.c 0) (.c 0)) (.c 0)) (.c 0))) (.c 0) (.c 0)))
  (.br (.cl 1020 0 1)
  (.br (.b .le .i64 (.b .padd .i64 (.cl 1021 0 4611686018427387904) (.c 1)) (.c 4611686018427387904))
  (.back [(.c 1), (.b .padd .i64 (.cl 1021 0 4611686018427387904) (.c 1))])
  (.bad 303))
  (.br (.b .eq .i64 (.w .i64 (.f 13 (.f 13 (.f 13 (.f 73 (.v 1001) (.cl 1002 0 1000000) (.f 11 (.v 1) (.f 11 (.v 2) (.f 11 (.f 74 (.v 4) (.c 0) (.c 0)) (.c 0) (.c 0)) (.c 0)) (.c 0))) (.c 5) (.c 0)) (.cl 1021 0 4611686018427387904) (.c 0)) (.c 1) (.c 0))) (.cl 1018 0 4611686018427387904))
  (.br (.b .le .i64 (.c 0) (.w .i64 (.f 13 (.f 13 (.f 13 (.f 73 (.v 1001) (.cl 1002 0 1000000) (.f 11 (.v 1) (.f 11 (.v 2) (.f 11 (.f 74 (.v 4) (.c 0) (.c 0)) (.c 0) (.c 0)) (.c 0)) (.c 0))) (.c 5) (.c 0)) (.cl 1021 0 4611686018427387904) (.c 0)) (.c 0) (.c 0))))
  (.br (.b .lt .i64 (.w .i64 (.f 13 (.f 13 (.f 13 (.f 73 (.v 1001) (.cl 1002 0 1000000) (.f 11 (.v 1) (.f 11 (.v 2) (.f 11 (.f 74 (.v 4) (.c 0) (.c 0)) (.c 0) (.c 0)) (.c 0)) (.c 0))) (.c 5) (.c 0)) (.cl 1021 0 4611686018427387904) (.c 0)) (.c 0) (.c 0))) (.v 0))
  (.br (.b .le .i64 (.b .padd .i64 (.cl 1021 0 4611686018427387904) (.c 1)) (.c 4611686018427387904))
  (.back [(.b .eq .i64 (.b .shr .u32 (.w .u32 (.f 13 (.v 3) (.w .i64 (.f 13 (.f 13 (.f 13 (.f 73 (.v 1001) (.cl 1002 0 1000000) (.f 11 (.v 1) (.f 11 (.v 2) (.f 11 (.f 74 (.v 4) (.c 0) (.c 0)) (.c 0) (.c 0)) (.c 0)) (.c 0))) (.c 5) (.c 0)) (.cl 1021 0 4611686018427387904) (.c 0)) (.c 0) (.c 0))) (.c 0))) (.c 26)) (.c 35)), (.b .padd .i64 (.cl 1021 0 4611686018427387904) (.c 1))])
  (.bad 303))
  (.bad 200))
  (.bad 200))
  (.br (.b .le .i64 (.b .padd .i64 (.cl 1021 0 4611686018427387904) (.c 1)) (.c 4611686018427387904))
  (.back [(.c 0), (.b .padd .i64 (.cl 1021 0 4611686018427387904) (.c 1))])
  (.bad 303))))
  (.exit 0))
  (.br (.nt (.cl 1020 0 1))
  (.new 1025 (.w .i32 (.f 13 (.f 13 (.f 73 (.v 1001) (.cl 1002 0 1000000) (.f 11 (.v 1) (.f 11 (.v 2) (.f 11 (.f 74 (.v 4) (.c 0) (.c 0)) (.c 0) (.c 0)) (.c 0)) (.c 0))) (.c 1) (.c 0)) (.cl 1018 0 4611686018427387904) (.c 0)))
  (.br (.b .ne .i64 (.cl 1025 (-2147483648) 2147483647) (.w .i32 (.f 13 (.v 4) (.cl 1018 0 4611686018427387904) (.c 0))))
  (.exit 0)
  (.br (.b .le .i64 (.b .padd .i64 (.cl 1018 0 4611686018427387904) (.c 1)) (.c 4611686018427387904))
  (.back [(.b .padd .i64 (.cl 1018 0 4611686018427387904) (.c 1))])
  (.bad 303))))
  (.br (.b .le .i64 (.b .padd .i64 (.cl 1018 0 4611686018427387904) (.c 1)) (.c 4611686018427387904))
  (.back [(.b .padd .i64 (.cl 1018 0 4611686018427387904) (.c 1))])
  (.bad 303))))
  (.exit 1))
  (.br (.b .eq .i64 (.v 1026) (.c 0))
  (.leaf [(.c 0)])
  (.leaf [(.c 1)])))))))))))))))
  (.bad 200))
  (.bad 200))
  (.bad 200))))
  (.bad 200))))
  (.leaf [(.c 1)]))

def P (n0 n1 p2 c0 c1 r0 r1 : Int) : Prop :=
 (((bool01 (decide (n0 ≤ 200))) ≠ 0 →
  (((bool01 ((bool01 (decide (n1 ≤ 2048))) == 0)) ≠ 0 →
   ((1 : Int) ≠ 0 ↔ (1 : Int) ≠ 0) ∧ True) ∧ ((bool01 ((bool01 (decide (n1 ≤ 2048))) == 0)) = 0 →
   (((bool01 (decide (2048 < n1))) ≠ 0 →
    ((0 : Int) ≠ 0 ↔ (1 : Int) ≠ 0) ∧ True) ∧ ((bool01 (decide (2048 < n1))) = 0 →
    (((bool01 (decide (n1 ≤ 1000000))) ≠ 0 →
     (((bool01 (decide (16384 < n0))) ≠ 0 →
      ((0 : Int) ≠ 0 ↔ (1 : Int) ≠ 0) ∧ True) ∧ ((bool01 (decide (16384 < n0))) = 0 →
      ∃ I1000 : Int → Int → Int → Nat → Prop, (∃ m, I1000 0 0 0 m) ∧
      ∀ y1000 y1001 y1002 : Int, ∀ m1000, ((0 ≤ y1000 ∧ y1000 ≤ 4611686018427387904) ∧ True ∧ (0 ≤ y1002 ∧ y1002 ≤ 1000000) ∧ True) → I1000 y1000 y1001 y1002 m1000 →
       (((bool01 (decide (y1000 < n0))) ≠ 0 →
        ∀ y1004 : Int, y1004 = (decZ (IntKind.wrap .u32 (rdZ c0 y1000)) 0) → ((-32768) ≤ y1004 ∧ y1004 ≤ 65535) →
        ∀ y1005 : Int, y1005 = (decZ (IntKind.wrap .u32 (rdZ c0 y1000)) 1) → ((-32768) ≤ y1005 ∧ y1005 ≤ 65535) →
        ∀ y1006 : Int, y1006 = (decZ (IntKind.wrap .u32 (rdZ c0 y1000)) 2) → ((-32768) ≤ y1006 ∧ y1006 ≤ 65535) →
        ∀ y1007 : Int, y1007 = (decZ (IntKind.wrap .u32 (rdZ c0 y1000)) 3) → ((-32768) ≤ y1007 ∧ y1007 ≤ 65535) →
        ∀ y1008 : Int, y1008 = (decZ (IntKind.wrap .u32 (rdZ c0 y1000)) 4) → ((-32768) ≤ y1008 ∧ y1008 ≤ 65535) →
        ∀ y1009 : Int, y1009 = (decZ (IntKind.wrap .u32 (rdZ c0 y1000)) 5) → ((-32768) ≤ y1009 ∧ y1009 ≤ 65535) →
        (((bool01 (decide ((y1002 + 1) ≤ 1000000))) ≠ 0 →
         (((bool01 (decide ((y1000 + 1) ≤ 4611686018427387904))) ≠ 0 →
          (((bool01 (decide ((y1002 + 1) ≤ 1000000))) ≠ 0 →
           ∃ m', m' < m1000 ∧ I1000 (y1000 + 1) (updZ y1001 y1002 (consZ y1004 (consZ y1005 (consZ y1006 (consZ y1007 (consZ y1008 (consZ (bool01 (y1009 == 0)) 0))))))) (y1002 + 1) m') ∧ ((bool01 (decide ((y1002 + 1) ≤ 1000000))) = 0 →
           False))) ∧ ((bool01 (decide ((y1000 + 1) ≤ 4611686018427387904))) = 0 →
          False))) ∧ ((bool01 (decide ((y1002 + 1) ≤ 1000000))) = 0 →
         False))) ∧ ((bool01 (decide (y1000 < n0))) = 0 →
        (((bool01 (decide (y1002 ≤ 16384))) ≠ 0 →
         (((bool01 (decide (n1 ≤ 2048))) ≠ 0 →
          (((okC y1001 y1002) ≠ 0 →
           (((bool01 (decide (1 < (IntKind.wrap .i64 (rdZ (runP y1001 y1002 (consZ n1 (consZ p2 (consZ (nuP c1) 0)))) 3))))) ≠ 0 →
            (((bool01 ((mkN (runP y1001 y1002 (consZ n1 (consZ p2 (consZ (nuP c1) 0))))) != (IntKind.wrap .i64 ((IntKind.wrap .i64 (rdZ (runP y1001 y1002 (consZ n1 (consZ p2 (consZ (nuP c1) 0)))) 7)) - 1)))) ≠ 0 →
             ((0 : Int) ≠ 0 ↔ (1 : Int) ≠ 0) ∧ True) ∧ ((bool01 ((mkN (runP y1001 y1002 (consZ n1 (consZ p2 (consZ (nuP c1) 0))))) != (IntKind.wrap .i64 ((IntKind.wrap .i64 (rdZ (runP y1001 y1002 (consZ n1 (consZ p2 (consZ (nuP c1) 0)))) 7)) - 1)))) = 0 →
             ∀ y1012 : Int, y1012 = (mkN (runP y1001 y1002 (consZ n1 (consZ p2 (consZ (nuP c1) 0))))) → (0 ≤ y1012 ∧ y1012 ≤ 999999) →
             ∀ y1013 : Int, y1013 = (costZ (rdZ (runP y1001 y1002 (consZ n1 (consZ p2 (consZ (nuP c1) 0)))) 5) y1012) → ((-9223372036854775808) ≤ y1013 ∧ y1013 ≤ 9223372036854775807) →
             (((bool01 ((IntKind.wrap .i64 (rdZ (runP y1001 y1002 (consZ n1 (consZ p2 (consZ (nuP c1) 0)))) 4)) != y1013)) ≠ 0 →
              ((0 : Int) ≠ 0 ↔ (1 : Int) ≠ 0) ∧ True) ∧ ((bool01 ((IntKind.wrap .i64 (rdZ (runP y1001 y1002 (consZ n1 (consZ p2 (consZ (nuP c1) 0)))) 4)) != y1013)) = 0 →
              ∃ I1014 : Int → Nat → Prop, (∃ m, I1014 0 m) ∧
              ∀ y1014 : Int, ∀ m1014, ((0 ≤ y1014 ∧ y1014 ≤ 4611686018427387904) ∧ True) → I1014 y1014 m1014 →
               (((bool01 (decide (y1014 < (mkN (runP y1001 y1002 (consZ n1 (consZ p2 (consZ (nuP c1) 0)))))))) ≠ 0 →
                (((bool01 (decide ((IntKind.wrap .i64 (rdZ (rdZ (rdZ (runP y1001 y1002 (consZ n1 (consZ p2 (consZ (nuP c1) 0)))) 5) y1014) 0)) < 0))) ≠ 0 →
                 (((bool01 ((0 : Int) == 0)) ≠ 0 →
                  ((0 : Int) ≠ 0 ↔ (1 : Int) ≠ 0) ∧ True) ∧ ((bool01 ((0 : Int) == 0)) = 0 →
                  (((bool01 ((0 : Int) == 1)) ≠ 0 →
                   ((0 : Int) ≠ 0 ↔ (1 : Int) ≠ 0) ∧ True) ∧ ((bool01 ((0 : Int) == 1)) = 0 →
                   (((bool01 ((0 : Int) == 2)) ≠ 0 →
                    ((0 : Int) ≠ 0 ↔ (1 : Int) ≠ 0) ∧ True) ∧ ((bool01 ((0 : Int) == 2)) = 0 →
                    (((bool01 ((0 : Int) == 3)) ≠ 0 →
                     ((0 : Int) ≠ 0 ↔ (1 : Int) ≠ 0) ∧ True) ∧ ((bool01 ((0 : Int) == 3)) = 0 →
                     (((bool01 ((0 : Int) == 4)) ≠ 0 →
                      ((0 : Int) ≠ 0 ↔ (1 : Int) ≠ 0) ∧ True) ∧ ((bool01 ((0 : Int) == 4)) = 0 →
                      (((bool01 ((0 : Int) == 5)) ≠ 0 →
                       ((0 : Int) ≠ 0 ↔ (1 : Int) ≠ 0) ∧ True) ∧ ((bool01 ((0 : Int) == 5)) = 0 →
                       ∃ I1018 : Int → Nat → Prop, (∃ m, I1018 0 m) ∧
                       ∀ y1018 : Int, ∀ m1018, ((0 ≤ y1018 ∧ y1018 ≤ 4611686018427387904) ∧ True) → I1018 y1018 m1018 →
                        (((bool01 (decide (y1018 < n1))) ≠ 0 →
                         ∃ I1020 : Int → Int → Nat → Prop, (∃ m, I1020 0 0 m) ∧
                         ∀ y1020 y1021 : Int, ∀ m1020, ((0 ≤ y1020 ∧ y1020 ≤ 1) ∧ (0 ≤ y1021 ∧ y1021 ≤ 4611686018427387904) ∧ True) → I1020 y1020 y1021 m1020 →
                          (((bool01 (decide (y1021 < (mkN (runP y1001 y1002 (consZ n1 (consZ p2 (consZ (nuP c1) 0)))))))) ≠ 0 →
                           ((y1020 ≠ 0 →
                            (((bool01 (decide ((y1021 + 1) ≤ 4611686018427387904))) ≠ 0 →
                             ∃ m', m' < m1020 ∧ I1020 1 (y1021 + 1) m') ∧ ((bool01 (decide ((y1021 + 1) ≤ 4611686018427387904))) = 0 →
                             False))) ∧ (y1020 = 0 →
                            (((bool01 ((IntKind.wrap .i64 (rdZ (rdZ (rdZ (runP y1001 y1002 (consZ n1 (consZ p2 (consZ (nuP c1) 0)))) 5) y1021) 1)) == y1018)) ≠ 0 →
                             (((bool01 (decide (0 ≤ (IntKind.wrap .i64 (rdZ (rdZ (rdZ (runP y1001 y1002 (consZ n1 (consZ p2 (consZ (nuP c1) 0)))) 5) y1021) 0))))) ≠ 0 →
                              (((bool01 (decide ((IntKind.wrap .i64 (rdZ (rdZ (rdZ (runP y1001 y1002 (consZ n1 (consZ p2 (consZ (nuP c1) 0)))) 5) y1021) 0)) < n0))) ≠ 0 →
                               (((bool01 (decide ((y1021 + 1) ≤ 4611686018427387904))) ≠ 0 →
                                ∃ m', m' < m1020 ∧ I1020 (bool01 ((shrZ .u32 (IntKind.wrap .u32 (rdZ c0 (IntKind.wrap .i64 (rdZ (rdZ (rdZ (runP y1001 y1002 (consZ n1 (consZ p2 (consZ (nuP c1) 0)))) 5) y1021) 0)))) 26) == 35)) (y1021 + 1) m') ∧ ((bool01 (decide ((y1021 + 1) ≤ 4611686018427387904))) = 0 →
                                False))) ∧ ((bool01 (decide ((IntKind.wrap .i64 (rdZ (rdZ (rdZ (runP y1001 y1002 (consZ n1 (consZ p2 (consZ (nuP c1) 0)))) 5) y1021) 0)) < n0))) = 0 →
                               False))) ∧ ((bool01 (decide (0 ≤ (IntKind.wrap .i64 (rdZ (rdZ (rdZ (runP y1001 y1002 (consZ n1 (consZ p2 (consZ (nuP c1) 0)))) 5) y1021) 0))))) = 0 →
                              False))) ∧ ((bool01 ((IntKind.wrap .i64 (rdZ (rdZ (rdZ (runP y1001 y1002 (consZ n1 (consZ p2 (consZ (nuP c1) 0)))) 5) y1021) 1)) == y1018)) = 0 →
                             (((bool01 (decide ((y1021 + 1) ≤ 4611686018427387904))) ≠ 0 →
                              ∃ m', m' < m1020 ∧ I1020 0 (y1021 + 1) m') ∧ ((bool01 (decide ((y1021 + 1) ≤ 4611686018427387904))) = 0 →
                              False))))))) ∧ ((bool01 (decide (y1021 < (mkN (runP y1001 y1002 (consZ n1 (consZ p2 (consZ (nuP c1) 0)))))))) = 0 →
                           (((bool01 (y1020 == 0)) ≠ 0 →
                            ∀ y1025 : Int, y1025 = (IntKind.wrap .i32 (rdZ (rdZ (runP y1001 y1002 (consZ n1 (consZ p2 (consZ (nuP c1) 0)))) 1) y1018)) → ((-2147483648) ≤ y1025 ∧ y1025 ≤ 2147483647) →
                            (((bool01 (y1025 != (IntKind.wrap .i32 (rdZ c1 y1018)))) ≠ 0 →
                             (((bool01 ((0 : Int) == 0)) ≠ 0 →
                              ((0 : Int) ≠ 0 ↔ (1 : Int) ≠ 0) ∧ True) ∧ ((bool01 ((0 : Int) == 0)) = 0 →
                              ((1 : Int) ≠ 0 ↔ (1 : Int) ≠ 0) ∧ True))) ∧ ((bool01 (y1025 != (IntKind.wrap .i32 (rdZ c1 y1018)))) = 0 →
                             (((bool01 (decide ((y1018 + 1) ≤ 4611686018427387904))) ≠ 0 →
                              ∃ m', m' < m1018 ∧ I1018 (y1018 + 1) m') ∧ ((bool01 (decide ((y1018 + 1) ≤ 4611686018427387904))) = 0 →
                              False))))) ∧ ((bool01 (y1020 == 0)) = 0 →
                            (((bool01 (decide ((y1018 + 1) ≤ 4611686018427387904))) ≠ 0 →
                             ∃ m', m' < m1018 ∧ I1018 (y1018 + 1) m') ∧ ((bool01 (decide ((y1018 + 1) ≤ 4611686018427387904))) = 0 →
                             False))))))) ∧ ((bool01 (decide (y1018 < n1))) = 0 →
                         (((bool01 ((1 : Int) == 0)) ≠ 0 →
                          ((0 : Int) ≠ 0 ↔ (1 : Int) ≠ 0) ∧ True) ∧ ((bool01 ((1 : Int) == 0)) = 0 →
                          ((1 : Int) ≠ 0 ↔ (1 : Int) ≠ 0) ∧ True))))))))))))))))) ∧ ((bool01 (decide ((IntKind.wrap .i64 (rdZ (rdZ (rdZ (runP y1001 y1002 (consZ n1 (consZ p2 (consZ (nuP c1) 0)))) 5) y1014) 0)) < 0))) = 0 →
                 (((bool01 (decide (n0 ≤ (IntKind.wrap .i64 (rdZ (rdZ (rdZ (runP y1001 y1002 (consZ n1 (consZ p2 (consZ (nuP c1) 0)))) 5) y1014) 0))))) ≠ 0 →
                  (((bool01 ((1 : Int) == 0)) ≠ 0 →
                   ((0 : Int) ≠ 0 ↔ (1 : Int) ≠ 0) ∧ True) ∧ ((bool01 ((1 : Int) == 0)) = 0 →
                   (((bool01 ((1 : Int) == 1)) ≠ 0 →
                    ((0 : Int) ≠ 0 ↔ (1 : Int) ≠ 0) ∧ True) ∧ ((bool01 ((1 : Int) == 1)) = 0 →
                    (((bool01 ((1 : Int) == 2)) ≠ 0 →
                     ((0 : Int) ≠ 0 ↔ (1 : Int) ≠ 0) ∧ True) ∧ ((bool01 ((1 : Int) == 2)) = 0 →
                     (((bool01 ((1 : Int) == 3)) ≠ 0 →
                      ((0 : Int) ≠ 0 ↔ (1 : Int) ≠ 0) ∧ True) ∧ ((bool01 ((1 : Int) == 3)) = 0 →
                      (((bool01 ((1 : Int) == 4)) ≠ 0 →
                       ((0 : Int) ≠ 0 ↔ (1 : Int) ≠ 0) ∧ True) ∧ ((bool01 ((1 : Int) == 4)) = 0 →
                       (((bool01 ((1 : Int) == 5)) ≠ 0 →
                        ((0 : Int) ≠ 0 ↔ (1 : Int) ≠ 0) ∧ True) ∧ ((bool01 ((1 : Int) == 5)) = 0 →
                        ∃ I1018 : Int → Nat → Prop, (∃ m, I1018 0 m) ∧
                        ∀ y1018 : Int, ∀ m1018, ((0 ≤ y1018 ∧ y1018 ≤ 4611686018427387904) ∧ True) → I1018 y1018 m1018 →
                         (((bool01 (decide (y1018 < n1))) ≠ 0 →
                          ∃ I1020 : Int → Int → Nat → Prop, (∃ m, I1020 0 0 m) ∧
                          ∀ y1020 y1021 : Int, ∀ m1020, ((0 ≤ y1020 ∧ y1020 ≤ 1) ∧ (0 ≤ y1021 ∧ y1021 ≤ 4611686018427387904) ∧ True) → I1020 y1020 y1021 m1020 →
                           (((bool01 (decide (y1021 < (mkN (runP y1001 y1002 (consZ n1 (consZ p2 (consZ (nuP c1) 0)))))))) ≠ 0 →
                            ((y1020 ≠ 0 →
                             (((bool01 (decide ((y1021 + 1) ≤ 4611686018427387904))) ≠ 0 →
                              ∃ m', m' < m1020 ∧ I1020 1 (y1021 + 1) m') ∧ ((bool01 (decide ((y1021 + 1) ≤ 4611686018427387904))) = 0 →
                              False))) ∧ (y1020 = 0 →
                             (((bool01 ((IntKind.wrap .i64 (rdZ (rdZ (rdZ (runP y1001 y1002 (consZ n1 (consZ p2 (consZ (nuP c1) 0)))) 5) y1021) 1)) == y1018)) ≠ 0 →
                              (((bool01 (decide (0 ≤ (IntKind.wrap .i64 (rdZ (rdZ (rdZ (runP y1001 y1002 (consZ n1 (consZ p2 (consZ (nuP c1) 0)))) 5) y1021) 0))))) ≠ 0 →
                               (((bool01 (decide ((IntKind.wrap .i64 (rdZ (rdZ (rdZ (runP y1001 y1002 (consZ n1 (consZ p2 (consZ (nuP c1) 0)))) 5) y1021) 0)) < n0))) ≠ 0 →
                                (((bool01 (decide ((y1021 + 1) ≤ 4611686018427387904))) ≠ 0 →
                                 ∃ m', m' < m1020 ∧ I1020 (bool01 ((shrZ .u32 (IntKind.wrap .u32 (rdZ c0 (IntKind.wrap .i64 (rdZ (rdZ (rdZ (runP y1001 y1002 (consZ n1 (consZ p2 (consZ (nuP c1) 0)))) 5) y1021) 0)))) 26) == 35)) (y1021 + 1) m') ∧ ((bool01 (decide ((y1021 + 1) ≤ 4611686018427387904))) = 0 →
                                 False))) ∧ ((bool01 (decide ((IntKind.wrap .i64 (rdZ (rdZ (rdZ (runP y1001 y1002 (consZ n1 (consZ p2 (consZ (nuP c1) 0)))) 5) y1021) 0)) < n0))) = 0 →
                                False))) ∧ ((bool01 (decide (0 ≤ (IntKind.wrap .i64 (rdZ (rdZ (rdZ (runP y1001 y1002 (consZ n1 (consZ p2 (consZ (nuP c1) 0)))) 5) y1021) 0))))) = 0 →
                               False))) ∧ ((bool01 ((IntKind.wrap .i64 (rdZ (rdZ (rdZ (runP y1001 y1002 (consZ n1 (consZ p2 (consZ (nuP c1) 0)))) 5) y1021) 1)) == y1018)) = 0 →
                              (((bool01 (decide ((y1021 + 1) ≤ 4611686018427387904))) ≠ 0 →
                               ∃ m', m' < m1020 ∧ I1020 0 (y1021 + 1) m') ∧ ((bool01 (decide ((y1021 + 1) ≤ 4611686018427387904))) = 0 →
                               False))))))) ∧ ((bool01 (decide (y1021 < (mkN (runP y1001 y1002 (consZ n1 (consZ p2 (consZ (nuP c1) 0)))))))) = 0 →
                            (((bool01 (y1020 == 0)) ≠ 0 →
                             ∀ y1025 : Int, y1025 = (IntKind.wrap .i32 (rdZ (rdZ (runP y1001 y1002 (consZ n1 (consZ p2 (consZ (nuP c1) 0)))) 1) y1018)) → ((-2147483648) ≤ y1025 ∧ y1025 ≤ 2147483647) →
                             (((bool01 (y1025 != (IntKind.wrap .i32 (rdZ c1 y1018)))) ≠ 0 →
                              (((bool01 ((0 : Int) == 0)) ≠ 0 →
                               ((0 : Int) ≠ 0 ↔ (1 : Int) ≠ 0) ∧ True) ∧ ((bool01 ((0 : Int) == 0)) = 0 →
                               ((1 : Int) ≠ 0 ↔ (1 : Int) ≠ 0) ∧ True))) ∧ ((bool01 (y1025 != (IntKind.wrap .i32 (rdZ c1 y1018)))) = 0 →
                              (((bool01 (decide ((y1018 + 1) ≤ 4611686018427387904))) ≠ 0 →
                               ∃ m', m' < m1018 ∧ I1018 (y1018 + 1) m') ∧ ((bool01 (decide ((y1018 + 1) ≤ 4611686018427387904))) = 0 →
                               False))))) ∧ ((bool01 (y1020 == 0)) = 0 →
                             (((bool01 (decide ((y1018 + 1) ≤ 4611686018427387904))) ≠ 0 →
                              ∃ m', m' < m1018 ∧ I1018 (y1018 + 1) m') ∧ ((bool01 (decide ((y1018 + 1) ≤ 4611686018427387904))) = 0 →
                              False))))))) ∧ ((bool01 (decide (y1018 < n1))) = 0 →
                          (((bool01 ((1 : Int) == 0)) ≠ 0 →
                           ((0 : Int) ≠ 0 ↔ (1 : Int) ≠ 0) ∧ True) ∧ ((bool01 ((1 : Int) == 0)) = 0 →
                           ((1 : Int) ≠ 0 ↔ (1 : Int) ≠ 0) ∧ True))))))))))))))))) ∧ ((bool01 (decide (n0 ≤ (IntKind.wrap .i64 (rdZ (rdZ (rdZ (runP y1001 y1002 (consZ n1 (consZ p2 (consZ (nuP c1) 0)))) 5) y1014) 0))))) = 0 →
                  (((bool01 (decide ((IntKind.wrap .i64 (rdZ (rdZ (rdZ (runP y1001 y1002 (consZ n1 (consZ p2 (consZ (nuP c1) 0)))) 5) y1014) 1)) < (-1)))) ≠ 0 →
                   (((bool01 ((2 : Int) == 0)) ≠ 0 →
                    ((0 : Int) ≠ 0 ↔ (1 : Int) ≠ 0) ∧ True) ∧ ((bool01 ((2 : Int) == 0)) = 0 →
                    (((bool01 ((2 : Int) == 1)) ≠ 0 →
                     ((0 : Int) ≠ 0 ↔ (1 : Int) ≠ 0) ∧ True) ∧ ((bool01 ((2 : Int) == 1)) = 0 →
                     (((bool01 ((2 : Int) == 2)) ≠ 0 →
                      ((0 : Int) ≠ 0 ↔ (1 : Int) ≠ 0) ∧ True) ∧ ((bool01 ((2 : Int) == 2)) = 0 →
                      (((bool01 ((2 : Int) == 3)) ≠ 0 →
                       ((0 : Int) ≠ 0 ↔ (1 : Int) ≠ 0) ∧ True) ∧ ((bool01 ((2 : Int) == 3)) = 0 →
                       (((bool01 ((2 : Int) == 4)) ≠ 0 →
                        ((0 : Int) ≠ 0 ↔ (1 : Int) ≠ 0) ∧ True) ∧ ((bool01 ((2 : Int) == 4)) = 0 →
                        (((bool01 ((2 : Int) == 5)) ≠ 0 →
                         ((0 : Int) ≠ 0 ↔ (1 : Int) ≠ 0) ∧ True) ∧ ((bool01 ((2 : Int) == 5)) = 0 →
                         ∃ I1018 : Int → Nat → Prop, (∃ m, I1018 0 m) ∧
                         ∀ y1018 : Int, ∀ m1018, ((0 ≤ y1018 ∧ y1018 ≤ 4611686018427387904) ∧ True) → I1018 y1018 m1018 →
                          (((bool01 (decide (y1018 < n1))) ≠ 0 →
                           ∃ I1020 : Int → Int → Nat → Prop, (∃ m, I1020 0 0 m) ∧
                           ∀ y1020 y1021 : Int, ∀ m1020, ((0 ≤ y1020 ∧ y1020 ≤ 1) ∧ (0 ≤ y1021 ∧ y1021 ≤ 4611686018427387904) ∧ True) → I1020 y1020 y1021 m1020 →
                            (((bool01 (decide (y1021 < (mkN (runP y1001 y1002 (consZ n1 (consZ p2 (consZ (nuP c1) 0)))))))) ≠ 0 →
                             ((y1020 ≠ 0 →
                              (((bool01 (decide ((y1021 + 1) ≤ 4611686018427387904))) ≠ 0 →
                               ∃ m', m' < m1020 ∧ I1020 1 (y1021 + 1) m') ∧ ((bool01 (decide ((y1021 + 1) ≤ 4611686018427387904))) = 0 →
                               False))) ∧ (y1020 = 0 →
                              (((bool01 ((IntKind.wrap .i64 (rdZ (rdZ (rdZ (runP y1001 y1002 (consZ n1 (consZ p2 (consZ (nuP c1) 0)))) 5) y1021) 1)) == y1018)) ≠ 0 →
                               (((bool01 (decide (0 ≤ (IntKind.wrap .i64 (rdZ (rdZ (rdZ (runP y1001 y1002 (consZ n1 (consZ p2 (consZ (nuP c1) 0)))) 5) y1021) 0))))) ≠ 0 →
                                (((bool01 (decide ((IntKind.wrap .i64 (rdZ (rdZ (rdZ (runP y1001 y1002 (consZ n1 (consZ p2 (consZ (nuP c1) 0)))) 5) y1021) 0)) < n0))) ≠ 0 →
                                 (((bool01 (decide ((y1021 + 1) ≤ 4611686018427387904))) ≠ 0 →
                                  ∃ m', m' < m1020 ∧ I1020 (bool01 ((shrZ .u32 (IntKind.wrap .u32 (rdZ c0 (IntKind.wrap .i64 (rdZ (rdZ (rdZ (runP y1001 y1002 (consZ n1 (consZ p2 (consZ (nuP c1) 0)))) 5) y1021) 0)))) 26) == 35)) (y1021 + 1) m') ∧ ((bool01 (decide ((y1021 + 1) ≤ 4611686018427387904))) = 0 →
                                  False))) ∧ ((bool01 (decide ((IntKind.wrap .i64 (rdZ (rdZ (rdZ (runP y1001 y1002 (consZ n1 (consZ p2 (consZ (nuP c1) 0)))) 5) y1021) 0)) < n0))) = 0 →
                                 False))) ∧ ((bool01 (decide (0 ≤ (IntKind.wrap .i64 (rdZ (rdZ (rdZ (runP y1001 y1002 (consZ n1 (consZ p2 (consZ (nuP c1) 0)))) 5) y1021) 0))))) = 0 →
                                False))) ∧ ((bool01 ((IntKind.wrap .i64 (rdZ (rdZ (rdZ (runP y1001 y1002 (consZ n1 (consZ p2 (consZ (nuP c1) 0)))) 5) y1021) 1)) == y1018)) = 0 →
                               (((bool01 (decide ((y1021 + 1) ≤ 4611686018427387904))) ≠ 0 →
                                ∃ m', m' < m1020 ∧ I1020 0 (y1021 + 1) m') ∧ ((bool01 (decide ((y1021 + 1) ≤ 4611686018427387904))) = 0 →
                                False))))))) ∧ ((bool01 (decide (y1021 < (mkN (runP y1001 y1002 (consZ n1 (consZ p2 (consZ (nuP c1) 0)))))))) = 0 →
                             (((bool01 (y1020 == 0)) ≠ 0 →
                              ∀ y1025 : Int, y1025 = (IntKind.wrap .i32 (rdZ (rdZ (runP y1001 y1002 (consZ n1 (consZ p2 (consZ (nuP c1) 0)))) 1) y1018)) → ((-2147483648) ≤ y1025 ∧ y1025 ≤ 2147483647) →
                              (((bool01 (y1025 != (IntKind.wrap .i32 (rdZ c1 y1018)))) ≠ 0 →
                               (((bool01 ((0 : Int) == 0)) ≠ 0 →
                                ((0 : Int) ≠ 0 ↔ (1 : Int) ≠ 0) ∧ True) ∧ ((bool01 ((0 : Int) == 0)) = 0 →
                                ((1 : Int) ≠ 0 ↔ (1 : Int) ≠ 0) ∧ True))) ∧ ((bool01 (y1025 != (IntKind.wrap .i32 (rdZ c1 y1018)))) = 0 →
                               (((bool01 (decide ((y1018 + 1) ≤ 4611686018427387904))) ≠ 0 →
                                ∃ m', m' < m1018 ∧ I1018 (y1018 + 1) m') ∧ ((bool01 (decide ((y1018 + 1) ≤ 4611686018427387904))) = 0 →
                                False))))) ∧ ((bool01 (y1020 == 0)) = 0 →
                              (((bool01 (decide ((y1018 + 1) ≤ 4611686018427387904))) ≠ 0 →
                               ∃ m', m' < m1018 ∧ I1018 (y1018 + 1) m') ∧ ((bool01 (decide ((y1018 + 1) ≤ 4611686018427387904))) = 0 →
                               False))))))) ∧ ((bool01 (decide (y1018 < n1))) = 0 →
                           (((bool01 ((1 : Int) == 0)) ≠ 0 →
                            ((0 : Int) ≠ 0 ↔ (1 : Int) ≠ 0) ∧ True) ∧ ((bool01 ((1 : Int) == 0)) = 0 →
                            ((1 : Int) ≠ 0 ↔ (1 : Int) ≠ 0) ∧ True))))))))))))))))) ∧ ((bool01 (decide ((IntKind.wrap .i64 (rdZ (rdZ (rdZ (runP y1001 y1002 (consZ n1 (consZ p2 (consZ (nuP c1) 0)))) 5) y1014) 1)) < (-1)))) = 0 →
                   (((bool01 (decide (n1 ≤ (IntKind.wrap .i64 (rdZ (rdZ (rdZ (runP y1001 y1002 (consZ n1 (consZ p2 (consZ (nuP c1) 0)))) 5) y1014) 1))))) ≠ 0 →
                    (((bool01 ((3 : Int) == 0)) ≠ 0 →
                     ((0 : Int) ≠ 0 ↔ (1 : Int) ≠ 0) ∧ True) ∧ ((bool01 ((3 : Int) == 0)) = 0 →
                     (((bool01 ((3 : Int) == 1)) ≠ 0 →
                      ((0 : Int) ≠ 0 ↔ (1 : Int) ≠ 0) ∧ True) ∧ ((bool01 ((3 : Int) == 1)) = 0 →
                      (((bool01 ((3 : Int) == 2)) ≠ 0 →
                       ((0 : Int) ≠ 0 ↔ (1 : Int) ≠ 0) ∧ True) ∧ ((bool01 ((3 : Int) == 2)) = 0 →
                       (((bool01 ((3 : Int) == 3)) ≠ 0 →
                        ((0 : Int) ≠ 0 ↔ (1 : Int) ≠ 0) ∧ True) ∧ ((bool01 ((3 : Int) == 3)) = 0 →
                        (((bool01 ((3 : Int) == 4)) ≠ 0 →
                         ((0 : Int) ≠ 0 ↔ (1 : Int) ≠ 0) ∧ True) ∧ ((bool01 ((3 : Int) == 4)) = 0 →
                         (((bool01 ((3 : Int) == 5)) ≠ 0 →
                          ((0 : Int) ≠ 0 ↔ (1 : Int) ≠ 0) ∧ True) ∧ ((bool01 ((3 : Int) == 5)) = 0 →
                          ∃ I1018 : Int → Nat → Prop, (∃ m, I1018 0 m) ∧
                          ∀ y1018 : Int, ∀ m1018, ((0 ≤ y1018 ∧ y1018 ≤ 4611686018427387904) ∧ True) → I1018 y1018 m1018 →
                           (((bool01 (decide (y1018 < n1))) ≠ 0 →
                            ∃ I1020 : Int → Int → Nat → Prop, (∃ m, I1020 0 0 m) ∧
                            ∀ y1020 y1021 : Int, ∀ m1020, ((0 ≤ y1020 ∧ y1020 ≤ 1) ∧ (0 ≤ y1021 ∧ y1021 ≤ 4611686018427387904) ∧ True) → I1020 y1020 y1021 m1020 →
                             (((bool01 (decide (y1021 < (mkN (runP y1001 y1002 (consZ n1 (consZ p2 (consZ (nuP c1) 0)))))))) ≠ 0 →
                              ((y1020 ≠ 0 →
                               (((bool01 (decide ((y1021 + 1) ≤ 4611686018427387904))) ≠ 0 →
                                ∃ m', m' < m1020 ∧ I1020 1 (y1021 + 1) m') ∧ ((bool01 (decide ((y1021 + 1) ≤ 4611686018427387904))) = 0 →
                                False))) ∧ (y1020 = 0 →
                               (((bool01 ((IntKind.wrap .i64 (rdZ (rdZ (rdZ (runP y1001 y1002 (consZ n1 (consZ p2 (consZ (nuP c1) 0)))) 5) y1021) 1)) == y1018)) ≠ 0 →
                                (((bool01 (decide (0 ≤ (IntKind.wrap .i64 (rdZ (rdZ (rdZ (runP y1001 y1002 (consZ n1 (consZ p2 (consZ (nuP c1) 0)))) 5) y1021) 0))))) ≠ 0 →
                                 (((bool01 (decide ((IntKind.wrap .i64 (rdZ (rdZ (rdZ (runP y1001 y1002 (consZ n1 (consZ p2 (consZ (nuP c1) 0)))) 5) y1021) 0)) < n0))) ≠ 0 →
                                  (((bool01 (decide ((y1021 + 1) ≤ 4611686018427387904))) ≠ 0 →
                                   ∃ m', m' < m1020 ∧ I1020 (bool01 ((shrZ .u32 (IntKind.wrap .u32 (rdZ c0 (IntKind.wrap .i64 (rdZ (rdZ (rdZ (runP y1001 y1002 (consZ n1 (consZ p2 (consZ (nuP c1) 0)))) 5) y1021) 0)))) 26) == 35)) (y1021 + 1) m') ∧ ((bool01 (decide ((y1021 + 1) ≤ 4611686018427387904))) = 0 →
                                   False))) ∧ ((bool01 (decide ((IntKind.wrap .i64 (rdZ (rdZ (rdZ (runP y1001 y1002 (consZ n1 (consZ p2 (consZ (nuP c1) 0)))) 5) y1021) 0)) < n0))) = 0 →
                                  False))) ∧ ((bool01 (decide (0 ≤ (IntKind.wrap .i64 (rdZ (rdZ (rdZ (runP y1001 y1002 (consZ n1 (consZ p2 (consZ (nuP c1) 0)))) 5) y1021) 0))))) = 0 →
                                 False))) ∧ ((bool01 ((IntKind.wrap .i64 (rdZ (rdZ (rdZ (runP y1001 y1002 (consZ n1 (consZ p2 (consZ (nuP c1) 0)))) 5) y1021) 1)) == y1018)) = 0 →
                                (((bool01 (decide ((y1021 + 1) ≤ 4611686018427387904))) ≠ 0 →
                                 ∃ m', m' < m1020 ∧ I1020 0 (y1021 + 1) m') ∧ ((bool01 (decide ((y1021 + 1) ≤ 4611686018427387904))) = 0 →
                                 False))))))) ∧ ((bool01 (decide (y1021 < (mkN (runP y1001 y1002 (consZ n1 (consZ p2 (consZ (nuP c1) 0)))))))) = 0 →
                              (((bool01 (y1020 == 0)) ≠ 0 →
                               ∀ y1025 : Int, y1025 = (IntKind.wrap .i32 (rdZ (rdZ (runP y1001 y1002 (consZ n1 (consZ p2 (consZ (nuP c1) 0)))) 1) y1018)) → ((-2147483648) ≤ y1025 ∧ y1025 ≤ 2147483647) →
                               (((bool01 (y1025 != (IntKind.wrap .i32 (rdZ c1 y1018)))) ≠ 0 →
                                (((bool01 ((0 : Int) == 0)) ≠ 0 →
                                 ((0 : Int) ≠ 0 ↔ (1 : Int) ≠ 0) ∧ True) ∧ ((bool01 ((0 : Int) == 0)) = 0 →
                                 ((1 : Int) ≠ 0 ↔ (1 : Int) ≠ 0) ∧ True))) ∧ ((bool01 (y1025 != (IntKind.wrap .i32 (rdZ c1 y1018)))) = 0 →
                                (((bool01 (decide ((y1018 + 1) ≤ 4611686018427387904))) ≠ 0 →
                                 ∃ m', m' < m1018 ∧ I1018 (y1018 + 1) m') ∧ ((bool01 (decide ((y1018 + 1) ≤ 4611686018427387904))) = 0 →
                                 False))))) ∧ ((bool01 (y1020 == 0)) = 0 →
                               (((bool01 (decide ((y1018 + 1) ≤ 4611686018427387904))) ≠ 0 →
                                ∃ m', m' < m1018 ∧ I1018 (y1018 + 1) m') ∧ ((bool01 (decide ((y1018 + 1) ≤ 4611686018427387904))) = 0 →
                                False))))))) ∧ ((bool01 (decide (y1018 < n1))) = 0 →
                            (((bool01 ((1 : Int) == 0)) ≠ 0 →
                             ((0 : Int) ≠ 0 ↔ (1 : Int) ≠ 0) ∧ True) ∧ ((bool01 ((1 : Int) == 0)) = 0 →
                             ((1 : Int) ≠ 0 ↔ (1 : Int) ≠ 0) ∧ True))))))))))))))))) ∧ ((bool01 (decide (n1 ≤ (IntKind.wrap .i64 (rdZ (rdZ (rdZ (runP y1001 y1002 (consZ n1 (consZ p2 (consZ (nuP c1) 0)))) 5) y1014) 1))))) = 0 →
                    (((bool01 (decide ((IntKind.wrap .i64 (rdZ (rdZ (rdZ (runP y1001 y1002 (consZ n1 (consZ p2 (consZ (nuP c1) 0)))) 5) y1014) 2)) < 1))) ≠ 0 →
                     (((bool01 ((4 : Int) == 0)) ≠ 0 →
                      ((0 : Int) ≠ 0 ↔ (1 : Int) ≠ 0) ∧ True) ∧ ((bool01 ((4 : Int) == 0)) = 0 →
                      (((bool01 ((4 : Int) == 1)) ≠ 0 →
                       ((0 : Int) ≠ 0 ↔ (1 : Int) ≠ 0) ∧ True) ∧ ((bool01 ((4 : Int) == 1)) = 0 →
                       (((bool01 ((4 : Int) == 2)) ≠ 0 →
                        ((0 : Int) ≠ 0 ↔ (1 : Int) ≠ 0) ∧ True) ∧ ((bool01 ((4 : Int) == 2)) = 0 →
                        (((bool01 ((4 : Int) == 3)) ≠ 0 →
                         ((0 : Int) ≠ 0 ↔ (1 : Int) ≠ 0) ∧ True) ∧ ((bool01 ((4 : Int) == 3)) = 0 →
                         (((bool01 ((4 : Int) == 4)) ≠ 0 →
                          ((0 : Int) ≠ 0 ↔ (1 : Int) ≠ 0) ∧ True) ∧ ((bool01 ((4 : Int) == 4)) = 0 →
                          (((bool01 ((4 : Int) == 5)) ≠ 0 →
                           ((0 : Int) ≠ 0 ↔ (1 : Int) ≠ 0) ∧ True) ∧ ((bool01 ((4 : Int) == 5)) = 0 →
                           ∃ I1018 : Int → Nat → Prop, (∃ m, I1018 0 m) ∧
                           ∀ y1018 : Int, ∀ m1018, ((0 ≤ y1018 ∧ y1018 ≤ 4611686018427387904) ∧ True) → I1018 y1018 m1018 →
                            (((bool01 (decide (y1018 < n1))) ≠ 0 →
                             ∃ I1020 : Int → Int → Nat → Prop, (∃ m, I1020 0 0 m) ∧
                             ∀ y1020 y1021 : Int, ∀ m1020, ((0 ≤ y1020 ∧ y1020 ≤ 1) ∧ (0 ≤ y1021 ∧ y1021 ≤ 4611686018427387904) ∧ True) → I1020 y1020 y1021 m1020 →
                              (((bool01 (decide (y1021 < (mkN (runP y1001 y1002 (consZ n1 (consZ p2 (consZ (nuP c1) 0)))))))) ≠ 0 →
                               ((y1020 ≠ 0 →
                                (((bool01 (decide ((y1021 + 1) ≤ 4611686018427387904))) ≠ 0 →
                                 ∃ m', m' < m1020 ∧ I1020 1 (y1021 + 1) m') ∧ ((bool01 (decide ((y1021 + 1) ≤ 4611686018427387904))) = 0 →
                                 False))) ∧ (y1020 = 0 →
                                (((bool01 ((IntKind.wrap .i64 (rdZ (rdZ (rdZ (runP y1001 y1002 (consZ n1 (consZ p2 (consZ (nuP c1) 0)))) 5) y1021) 1)) == y1018)) ≠ 0 →
                                 (((bool01 (decide (0 ≤ (IntKind.wrap .i64 (rdZ (rdZ (rdZ (runP y1001 y1002 (consZ n1 (consZ p2 (consZ (nuP c1) 0)))) 5) y1021) 0))))) ≠ 0 →
                                  (((bool01 (decide ((IntKind.wrap .i64 (rdZ (rdZ (rdZ (runP y1001 y1002 (consZ n1 (consZ p2 (consZ (nuP c1) 0)))) 5) y1021) 0)) < n0))) ≠ 0 →
                                   (((bool01 (decide ((y1021 + 1) ≤ 4611686018427387904))) ≠ 0 →
                                    ∃ m', m' < m1020 ∧ I1020 (bool01 ((shrZ .u32 (IntKind.wrap .u32 (rdZ c0 (IntKind.wrap .i64 (rdZ (rdZ (rdZ (runP y1001 y1002 (consZ n1 (consZ p2 (consZ (nuP c1) 0)))) 5) y1021) 0)))) 26) == 35)) (y1021 + 1) m') ∧ ((bool01 (decide ((y1021 + 1) ≤ 4611686018427387904))) = 0 →
                                    False))) ∧ ((bool01 (decide ((IntKind.wrap .i64 (rdZ (rdZ (rdZ (runP y1001 y1002 (consZ n1 (consZ p2 (consZ (nuP c1) 0)))) 5) y1021) 0)) < n0))) = 0 →
                                   False))) ∧ ((bool01 (decide (0 ≤ (IntKind.wrap .i64 (rdZ (rdZ (rdZ (runP y1001 y1002 (consZ n1 (consZ p2 (consZ (nuP c1) 0)))) 5) y1021) 0))))) = 0 →
                                  False))) ∧ ((bool01 ((IntKind.wrap .i64 (rdZ (rdZ (rdZ (runP y1001 y1002 (consZ n1 (consZ p2 (consZ (nuP c1) 0)))) 5) y1021) 1)) == y1018)) = 0 →
                                 (((bool01 (decide ((y1021 + 1) ≤ 4611686018427387904))) ≠ 0 →
                                  ∃ m', m' < m1020 ∧ I1020 0 (y1021 + 1) m') ∧ ((bool01 (decide ((y1021 + 1) ≤ 4611686018427387904))) = 0 →
                                  False))))))) ∧ ((bool01 (decide (y1021 < (mkN (runP y1001 y1002 (consZ n1 (consZ p2 (consZ (nuP c1) 0)))))))) = 0 →
                               (((bool01 (y1020 == 0)) ≠ 0 →
                                ∀ y1025 : Int, y1025 = (IntKind.wrap .i32 (rdZ (rdZ (runP y1001 y1002 (consZ n1 (consZ p2 (consZ (nuP c1) 0)))) 1) y1018)) → ((-2147483648) ≤ y1025 ∧ y1025 ≤ 2147483647) →
                                (((bool01 (y1025 != (IntKind.wrap .i32 (rdZ c1 y1018)))) ≠ 0 →
                                 (((bool01 ((0 : Int) == 0)) ≠ 0 →
                                  ((0 : Int) ≠ 0 ↔ (1 : Int) ≠ 0) ∧ True) ∧ ((bool01 ((0 : Int) == 0)) = 0 →
                                  ((1 : Int) ≠ 0 ↔ (1 : Int) ≠ 0) ∧ True))) ∧ ((bool01 (y1025 != (IntKind.wrap .i32 (rdZ c1 y1018)))) = 0 →
                                 (((bool01 (decide ((y1018 + 1) ≤ 4611686018427387904))) ≠ 0 →
                                  ∃ m', m' < m1018 ∧ I1018 (y1018 + 1) m') ∧ ((bool01 (decide ((y1018 + 1) ≤ 4611686018427387904))) = 0 →
                                  False))))) ∧ ((bool01 (y1020 == 0)) = 0 →
                                (((bool01 (decide ((y1018 + 1) ≤ 4611686018427387904))) ≠ 0 →
                                 ∃ m', m' < m1018 ∧ I1018 (y1018 + 1) m') ∧ ((bool01 (decide ((y1018 + 1) ≤ 4611686018427387904))) = 0 →
                                 False))))))) ∧ ((bool01 (decide (y1018 < n1))) = 0 →
                             (((bool01 ((1 : Int) == 0)) ≠ 0 →
                              ((0 : Int) ≠ 0 ↔ (1 : Int) ≠ 0) ∧ True) ∧ ((bool01 ((1 : Int) == 0)) = 0 →
                              ((1 : Int) ≠ 0 ↔ (1 : Int) ≠ 0) ∧ True))))))))))))))))) ∧ ((bool01 (decide ((IntKind.wrap .i64 (rdZ (rdZ (rdZ (runP y1001 y1002 (consZ n1 (consZ p2 (consZ (nuP c1) 0)))) 5) y1014) 2)) < 1))) = 0 →
                     (((bool01 (decide (34 < (IntKind.wrap .i64 (rdZ (rdZ (rdZ (runP y1001 y1002 (consZ n1 (consZ p2 (consZ (nuP c1) 0)))) 5) y1014) 2))))) ≠ 0 →
                      (((bool01 ((5 : Int) == 0)) ≠ 0 →
                       ((0 : Int) ≠ 0 ↔ (1 : Int) ≠ 0) ∧ True) ∧ ((bool01 ((5 : Int) == 0)) = 0 →
                       (((bool01 ((5 : Int) == 1)) ≠ 0 →
                        ((0 : Int) ≠ 0 ↔ (1 : Int) ≠ 0) ∧ True) ∧ ((bool01 ((5 : Int) == 1)) = 0 →
                        (((bool01 ((5 : Int) == 2)) ≠ 0 →
                         ((0 : Int) ≠ 0 ↔ (1 : Int) ≠ 0) ∧ True) ∧ ((bool01 ((5 : Int) == 2)) = 0 →
                         (((bool01 ((5 : Int) == 3)) ≠ 0 →
                          ((0 : Int) ≠ 0 ↔ (1 : Int) ≠ 0) ∧ True) ∧ ((bool01 ((5 : Int) == 3)) = 0 →
                          (((bool01 ((5 : Int) == 4)) ≠ 0 →
                           ((0 : Int) ≠ 0 ↔ (1 : Int) ≠ 0) ∧ True) ∧ ((bool01 ((5 : Int) == 4)) = 0 →
                           (((bool01 ((5 : Int) == 5)) ≠ 0 →
                            ((0 : Int) ≠ 0 ↔ (1 : Int) ≠ 0) ∧ True) ∧ ((bool01 ((5 : Int) == 5)) = 0 →
                            ∃ I1018 : Int → Nat → Prop, (∃ m, I1018 0 m) ∧
                            ∀ y1018 : Int, ∀ m1018, ((0 ≤ y1018 ∧ y1018 ≤ 4611686018427387904) ∧ True) → I1018 y1018 m1018 →
                             (((bool01 (decide (y1018 < n1))) ≠ 0 →
                              ∃ I1020 : Int → Int → Nat → Prop, (∃ m, I1020 0 0 m) ∧
                              ∀ y1020 y1021 : Int, ∀ m1020, ((0 ≤ y1020 ∧ y1020 ≤ 1) ∧ (0 ≤ y1021 ∧ y1021 ≤ 4611686018427387904) ∧ True) → I1020 y1020 y1021 m1020 →
                               (((bool01 (decide (y1021 < (mkN (runP y1001 y1002 (consZ n1 (consZ p2 (consZ (nuP c1) 0)))))))) ≠ 0 →
                                ((y1020 ≠ 0 →
                                 (((bool01 (decide ((y1021 + 1) ≤ 4611686018427387904))) ≠ 0 →
                                  ∃ m', m' < m1020 ∧ I1020 1 (y1021 + 1) m') ∧ ((bool01 (decide ((y1021 + 1) ≤ 4611686018427387904))) = 0 →
                                  False))) ∧ (y1020 = 0 →
                                 (((bool01 ((IntKind.wrap .i64 (rdZ (rdZ (rdZ (runP y1001 y1002 (consZ n1 (consZ p2 (consZ (nuP c1) 0)))) 5) y1021) 1)) == y1018)) ≠ 0 →
                                  (((bool01 (decide (0 ≤ (IntKind.wrap .i64 (rdZ (rdZ (rdZ (runP y1001 y1002 (consZ n1 (consZ p2 (consZ (nuP c1) 0)))) 5) y1021) 0))))) ≠ 0 →
                                   (((bool01 (decide ((IntKind.wrap .i64 (rdZ (rdZ (rdZ (runP y1001 y1002 (consZ n1 (consZ p2 (consZ (nuP c1) 0)))) 5) y1021) 0)) < n0))) ≠ 0 →
                                    (((bool01 (decide ((y1021 + 1) ≤ 4611686018427387904))) ≠ 0 →
                                     ∃ m', m' < m1020 ∧ I1020 (bool01 ((shrZ .u32 (IntKind.wrap .u32 (rdZ c0 (IntKind.wrap .i64 (rdZ (rdZ (rdZ (runP y1001 y1002 (consZ n1 (consZ p2 (consZ (nuP c1) 0)))) 5) y1021) 0)))) 26) == 35)) (y1021 + 1) m') ∧ ((bool01 (decide ((y1021 + 1) ≤ 4611686018427387904))) = 0 →
                                     False))) ∧ ((bool01 (decide ((IntKind.wrap .i64 (rdZ (rdZ (rdZ (runP y1001 y1002 (consZ n1 (consZ p2 (consZ (nuP c1) 0)))) 5) y1021) 0)) < n0))) = 0 →
                                    False))) ∧ ((bool01 (decide (0 ≤ (IntKind.wrap .i64 (rdZ (rdZ (rdZ (runP y1001 y1002 (consZ n1 (consZ p2 (consZ (nuP c1) 0)))) 5) y1021) 0))))) = 0 →
                                   False))) ∧ ((bool01 ((IntKind.wrap .i64 (rdZ (rdZ (rdZ (runP y1001 y1002 (consZ n1 (consZ p2 (consZ (nuP c1) 0)))) 5) y1021) 1)) == y1018)) = 0 →
                                  (((bool01 (decide ((y1021 + 1) ≤ 4611686018427387904))) ≠ 0 →
                                   ∃ m', m' < m1020 ∧ I1020 0 (y1021 + 1) m') ∧ ((bool01 (decide ((y1021 + 1) ≤ 4611686018427387904))) = 0 →
                                   False))))))) ∧ ((bool01 (decide (y1021 < (mkN (runP y1001 y1002 (consZ n1 (consZ p2 (consZ (nuP c1) 0)))))))) = 0 →
                                (((bool01 (y1020 == 0)) ≠ 0 →
                                 ∀ y1025 : Int, y1025 = (IntKind.wrap .i32 (rdZ (rdZ (runP y1001 y1002 (consZ n1 (consZ p2 (consZ (nuP c1) 0)))) 1) y1018)) → ((-2147483648) ≤ y1025 ∧ y1025 ≤ 2147483647) →
                                 (((bool01 (y1025 != (IntKind.wrap .i32 (rdZ c1 y1018)))) ≠ 0 →
                                  (((bool01 ((0 : Int) == 0)) ≠ 0 →
                                   ((0 : Int) ≠ 0 ↔ (1 : Int) ≠ 0) ∧ True) ∧ ((bool01 ((0 : Int) == 0)) = 0 →
                                   ((1 : Int) ≠ 0 ↔ (1 : Int) ≠ 0) ∧ True))) ∧ ((bool01 (y1025 != (IntKind.wrap .i32 (rdZ c1 y1018)))) = 0 →
                                  (((bool01 (decide ((y1018 + 1) ≤ 4611686018427387904))) ≠ 0 →
                                   ∃ m', m' < m1018 ∧ I1018 (y1018 + 1) m') ∧ ((bool01 (decide ((y1018 + 1) ≤ 4611686018427387904))) = 0 →
                                   False))))) ∧ ((bool01 (y1020 == 0)) = 0 →
                                 (((bool01 (decide ((y1018 + 1) ≤ 4611686018427387904))) ≠ 0 →
                                  ∃ m', m' < m1018 ∧ I1018 (y1018 + 1) m') ∧ ((bool01 (decide ((y1018 + 1) ≤ 4611686018427387904))) = 0 →
                                  False))))))) ∧ ((bool01 (decide (y1018 < n1))) = 0 →
                              (((bool01 ((1 : Int) == 0)) ≠ 0 →
                               ((0 : Int) ≠ 0 ↔ (1 : Int) ≠ 0) ∧ True) ∧ ((bool01 ((1 : Int) == 0)) = 0 →
                               ((1 : Int) ≠ 0 ↔ (1 : Int) ≠ 0) ∧ True))))))))))))))))) ∧ ((bool01 (decide (34 < (IntKind.wrap .i64 (rdZ (rdZ (rdZ (runP y1001 y1002 (consZ n1 (consZ p2 (consZ (nuP c1) 0)))) 5) y1014) 2))))) = 0 →
                      (((bool01 (decide ((y1014 + 1) ≤ 4611686018427387904))) ≠ 0 →
                       ∃ m', m' < m1014 ∧ I1014 (y1014 + 1) m') ∧ ((bool01 (decide ((y1014 + 1) ≤ 4611686018427387904))) = 0 →
                       False))))))))))))))) ∧ ((bool01 (decide (y1014 < (mkN (runP y1001 y1002 (consZ n1 (consZ p2 (consZ (nuP c1) 0)))))))) = 0 →
                (((bool01 ((6 : Int) == 0)) ≠ 0 →
                 ((0 : Int) ≠ 0 ↔ (1 : Int) ≠ 0) ∧ True) ∧ ((bool01 ((6 : Int) == 0)) = 0 →
                 (((bool01 ((6 : Int) == 1)) ≠ 0 →
                  ((0 : Int) ≠ 0 ↔ (1 : Int) ≠ 0) ∧ True) ∧ ((bool01 ((6 : Int) == 1)) = 0 →
                  (((bool01 ((6 : Int) == 2)) ≠ 0 →
                   ((0 : Int) ≠ 0 ↔ (1 : Int) ≠ 0) ∧ True) ∧ ((bool01 ((6 : Int) == 2)) = 0 →
                   (((bool01 ((6 : Int) == 3)) ≠ 0 →
                    ((0 : Int) ≠ 0 ↔ (1 : Int) ≠ 0) ∧ True) ∧ ((bool01 ((6 : Int) == 3)) = 0 →
                    (((bool01 ((6 : Int) == 4)) ≠ 0 →
                     ((0 : Int) ≠ 0 ↔ (1 : Int) ≠ 0) ∧ True) ∧ ((bool01 ((6 : Int) == 4)) = 0 →
                     (((bool01 ((6 : Int) == 5)) ≠ 0 →
                      ((0 : Int) ≠ 0 ↔ (1 : Int) ≠ 0) ∧ True) ∧ ((bool01 ((6 : Int) == 5)) = 0 →
                      ∃ I1018 : Int → Nat → Prop, (∃ m, I1018 0 m) ∧
                      ∀ y1018 : Int, ∀ m1018, ((0 ≤ y1018 ∧ y1018 ≤ 4611686018427387904) ∧ True) → I1018 y1018 m1018 →
                       (((bool01 (decide (y1018 < n1))) ≠ 0 →
                        ∃ I1020 : Int → Int → Nat → Prop, (∃ m, I1020 0 0 m) ∧
                        ∀ y1020 y1021 : Int, ∀ m1020, ((0 ≤ y1020 ∧ y1020 ≤ 1) ∧ (0 ≤ y1021 ∧ y1021 ≤ 4611686018427387904) ∧ True) → I1020 y1020 y1021 m1020 →
                         (((bool01 (decide (y1021 < (mkN (runP y1001 y1002 (consZ n1 (consZ p2 (consZ (nuP c1) 0)))))))) ≠ 0 →
                          ((y1020 ≠ 0 →
                           (((bool01 (decide ((y1021 + 1) ≤ 4611686018427387904))) ≠ 0 →
                            ∃ m', m' < m1020 ∧ I1020 1 (y1021 + 1) m') ∧ ((bool01 (decide ((y1021 + 1) ≤ 4611686018427387904))) = 0 →
                            False))) ∧ (y1020 = 0 →
                           (((bool01 ((IntKind.wrap .i64 (rdZ (rdZ (rdZ (runP y1001 y1002 (consZ n1 (consZ p2 (consZ (nuP c1) 0)))) 5) y1021) 1)) == y1018)) ≠ 0 →
                            (((bool01 (decide (0 ≤ (IntKind.wrap .i64 (rdZ (rdZ (rdZ (runP y1001 y1002 (consZ n1 (consZ p2 (consZ (nuP c1) 0)))) 5) y1021) 0))))) ≠ 0 →
                             (((bool01 (decide ((IntKind.wrap .i64 (rdZ (rdZ (rdZ (runP y1001 y1002 (consZ n1 (consZ p2 (consZ (nuP c1) 0)))) 5) y1021) 0)) < n0))) ≠ 0 →
                              (((bool01 (decide ((y1021 + 1) ≤ 4611686018427387904))) ≠ 0 →
                               ∃ m', m' < m1020 ∧ I1020 (bool01 ((shrZ .u32 (IntKind.wrap .u32 (rdZ c0 (IntKind.wrap .i64 (rdZ (rdZ (rdZ (runP y1001 y1002 (consZ n1 (consZ p2 (consZ (nuP c1) 0)))) 5) y1021) 0)))) 26) == 35)) (y1021 + 1) m') ∧ ((bool01 (decide ((y1021 + 1) ≤ 4611686018427387904))) = 0 →
                               False))) ∧ ((bool01 (decide ((IntKind.wrap .i64 (rdZ (rdZ (rdZ (runP y1001 y1002 (consZ n1 (consZ p2 (consZ (nuP c1) 0)))) 5) y1021) 0)) < n0))) = 0 →
                              False))) ∧ ((bool01 (decide (0 ≤ (IntKind.wrap .i64 (rdZ (rdZ (rdZ (runP y1001 y1002 (consZ n1 (consZ p2 (consZ (nuP c1) 0)))) 5) y1021) 0))))) = 0 →
                             False))) ∧ ((bool01 ((IntKind.wrap .i64 (rdZ (rdZ (rdZ (runP y1001 y1002 (consZ n1 (consZ p2 (consZ (nuP c1) 0)))) 5) y1021) 1)) == y1018)) = 0 →
                            (((bool01 (decide ((y1021 + 1) ≤ 4611686018427387904))) ≠ 0 →
                             ∃ m', m' < m1020 ∧ I1020 0 (y1021 + 1) m') ∧ ((bool01 (decide ((y1021 + 1) ≤ 4611686018427387904))) = 0 →
                             False))))))) ∧ ((bool01 (decide (y1021 < (mkN (runP y1001 y1002 (consZ n1 (consZ p2 (consZ (nuP c1) 0)))))))) = 0 →
                          (((bool01 (y1020 == 0)) ≠ 0 →
                           ∀ y1025 : Int, y1025 = (IntKind.wrap .i32 (rdZ (rdZ (runP y1001 y1002 (consZ n1 (consZ p2 (consZ (nuP c1) 0)))) 1) y1018)) → ((-2147483648) ≤ y1025 ∧ y1025 ≤ 2147483647) →
                           (((bool01 (y1025 != (IntKind.wrap .i32 (rdZ c1 y1018)))) ≠ 0 →
                            (((bool01 ((0 : Int) == 0)) ≠ 0 →
                             ((0 : Int) ≠ 0 ↔ (1 : Int) ≠ 0) ∧ True) ∧ ((bool01 ((0 : Int) == 0)) = 0 →
                             ((1 : Int) ≠ 0 ↔ (1 : Int) ≠ 0) ∧ True))) ∧ ((bool01 (y1025 != (IntKind.wrap .i32 (rdZ c1 y1018)))) = 0 →
                            (((bool01 (decide ((y1018 + 1) ≤ 4611686018427387904))) ≠ 0 →
                             ∃ m', m' < m1018 ∧ I1018 (y1018 + 1) m') ∧ ((bool01 (decide ((y1018 + 1) ≤ 4611686018427387904))) = 0 →
                             False))))) ∧ ((bool01 (y1020 == 0)) = 0 →
                           (((bool01 (decide ((y1018 + 1) ≤ 4611686018427387904))) ≠ 0 →
                            ∃ m', m' < m1018 ∧ I1018 (y1018 + 1) m') ∧ ((bool01 (decide ((y1018 + 1) ≤ 4611686018427387904))) = 0 →
                            False))))))) ∧ ((bool01 (decide (y1018 < n1))) = 0 →
                        (((bool01 ((1 : Int) == 0)) ≠ 0 →
                         ((0 : Int) ≠ 0 ↔ (1 : Int) ≠ 0) ∧ True) ∧ ((bool01 ((1 : Int) == 0)) = 0 →
                         ((1 : Int) ≠ 0 ↔ (1 : Int) ≠ 0) ∧ True))))))))))))))))))))))) ∧ ((bool01 (decide (1 < (IntKind.wrap .i64 (rdZ (runP y1001 y1002 (consZ n1 (consZ p2 (consZ (nuP c1) 0)))) 3))))) = 0 →
            (((bool01 ((mkN (runP y1001 y1002 (consZ n1 (consZ p2 (consZ (nuP c1) 0))))) != (IntKind.wrap .i64 (rdZ (runP y1001 y1002 (consZ n1 (consZ p2 (consZ (nuP c1) 0)))) 7)))) ≠ 0 →
             ((0 : Int) ≠ 0 ↔ (1 : Int) ≠ 0) ∧ True) ∧ ((bool01 ((mkN (runP y1001 y1002 (consZ n1 (consZ p2 (consZ (nuP c1) 0))))) != (IntKind.wrap .i64 (rdZ (runP y1001 y1002 (consZ n1 (consZ p2 (consZ (nuP c1) 0)))) 7)))) = 0 →
             ∀ y1012 : Int, y1012 = (mkN (runP y1001 y1002 (consZ n1 (consZ p2 (consZ (nuP c1) 0))))) → (0 ≤ y1012 ∧ y1012 ≤ 999999) →
             ∀ y1013 : Int, y1013 = (costZ (rdZ (runP y1001 y1002 (consZ n1 (consZ p2 (consZ (nuP c1) 0)))) 5) y1012) → ((-9223372036854775808) ≤ y1013 ∧ y1013 ≤ 9223372036854775807) →
             (((bool01 ((IntKind.wrap .i64 (rdZ (runP y1001 y1002 (consZ n1 (consZ p2 (consZ (nuP c1) 0)))) 4)) != y1013)) ≠ 0 →
              ((0 : Int) ≠ 0 ↔ (1 : Int) ≠ 0) ∧ True) ∧ ((bool01 ((IntKind.wrap .i64 (rdZ (runP y1001 y1002 (consZ n1 (consZ p2 (consZ (nuP c1) 0)))) 4)) != y1013)) = 0 →
              ∃ I1014 : Int → Nat → Prop, (∃ m, I1014 0 m) ∧
              ∀ y1014 : Int, ∀ m1014, ((0 ≤ y1014 ∧ y1014 ≤ 4611686018427387904) ∧ True) → I1014 y1014 m1014 →
               (((bool01 (decide (y1014 < (mkN (runP y1001 y1002 (consZ n1 (consZ p2 (consZ (nuP c1) 0)))))))) ≠ 0 →
                (((bool01 (decide ((IntKind.wrap .i64 (rdZ (rdZ (rdZ (runP y1001 y1002 (consZ n1 (consZ p2 (consZ (nuP c1) 0)))) 5) y1014) 0)) < 0))) ≠ 0 →
                 (((bool01 ((0 : Int) == 0)) ≠ 0 →
                  ((0 : Int) ≠ 0 ↔ (1 : Int) ≠ 0) ∧ True) ∧ ((bool01 ((0 : Int) == 0)) = 0 →
                  (((bool01 ((0 : Int) == 1)) ≠ 0 →
                   ((0 : Int) ≠ 0 ↔ (1 : Int) ≠ 0) ∧ True) ∧ ((bool01 ((0 : Int) == 1)) = 0 →
                   (((bool01 ((0 : Int) == 2)) ≠ 0 →
                    ((0 : Int) ≠ 0 ↔ (1 : Int) ≠ 0) ∧ True) ∧ ((bool01 ((0 : Int) == 2)) = 0 →
                    (((bool01 ((0 : Int) == 3)) ≠ 0 →
                     ((0 : Int) ≠ 0 ↔ (1 : Int) ≠ 0) ∧ True) ∧ ((bool01 ((0 : Int) == 3)) = 0 →
                     (((bool01 ((0 : Int) == 4)) ≠ 0 →
                      ((0 : Int) ≠ 0 ↔ (1 : Int) ≠ 0) ∧ True) ∧ ((bool01 ((0 : Int) == 4)) = 0 →
                      (((bool01 ((0 : Int) == 5)) ≠ 0 →
                       ((0 : Int) ≠ 0 ↔ (1 : Int) ≠ 0) ∧ True) ∧ ((bool01 ((0 : Int) == 5)) = 0 →
                       ∃ I1018 : Int → Nat → Prop, (∃ m, I1018 0 m) ∧
                       ∀ y1018 : Int, ∀ m1018, ((0 ≤ y1018 ∧ y1018 ≤ 4611686018427387904) ∧ True) → I1018 y1018 m1018 →
                        (((bool01 (decide (y1018 < n1))) ≠ 0 →
                         ∃ I1020 : Int → Int → Nat → Prop, (∃ m, I1020 0 0 m) ∧
                         ∀ y1020 y1021 : Int, ∀ m1020, ((0 ≤ y1020 ∧ y1020 ≤ 1) ∧ (0 ≤ y1021 ∧ y1021 ≤ 4611686018427387904) ∧ True) → I1020 y1020 y1021 m1020 →
                          (((bool01 (decide (y1021 < (mkN (runP y1001 y1002 (consZ n1 (consZ p2 (consZ (nuP c1) 0)))))))) ≠ 0 →
                           ((y1020 ≠ 0 →
                            (((bool01 (decide ((y1021 + 1) ≤ 4611686018427387904))) ≠ 0 →
                             ∃ m', m' < m1020 ∧ I1020 1 (y1021 + 1) m') ∧ ((bool01 (decide ((y1021 + 1) ≤ 4611686018427387904))) = 0 →
                             False))) ∧ (y1020 = 0 →
                            (((bool01 ((IntKind.wrap .i64 (rdZ (rdZ (rdZ (runP y1001 y1002 (consZ n1 (consZ p2 (consZ (nuP c1) 0)))) 5) y1021) 1)) == y1018)) ≠ 0 →
                             (((bool01 (decide (0 ≤ (IntKind.wrap .i64 (rdZ (rdZ (rdZ (runP y1001 y1002 (consZ n1 (consZ p2 (consZ (nuP c1) 0)))) 5) y1021) 0))))) ≠ 0 →
                              (((bool01 (decide ((IntKind.wrap .i64 (rdZ (rdZ (rdZ (runP y1001 y1002 (consZ n1 (consZ p2 (consZ (nuP c1) 0)))) 5) y1021) 0)) < n0))) ≠ 0 →
                               (((bool01 (decide ((y1021 + 1) ≤ 4611686018427387904))) ≠ 0 →
                                ∃ m', m' < m1020 ∧ I1020 (bool01 ((shrZ .u32 (IntKind.wrap .u32 (rdZ c0 (IntKind.wrap .i64 (rdZ (rdZ (rdZ (runP y1001 y1002 (consZ n1 (consZ p2 (consZ (nuP c1) 0)))) 5) y1021) 0)))) 26) == 35)) (y1021 + 1) m') ∧ ((bool01 (decide ((y1021 + 1) ≤ 4611686018427387904))) = 0 →
                                False))) ∧ ((bool01 (decide ((IntKind.wrap .i64 (rdZ (rdZ (rdZ (runP y1001 y1002 (consZ n1 (consZ p2 (consZ (nuP c1) 0)))) 5) y1021) 0)) < n0))) = 0 →
                               False))) ∧ ((bool01 (decide (0 ≤ (IntKind.wrap .i64 (rdZ (rdZ (rdZ (runP y1001 y1002 (consZ n1 (consZ p2 (consZ (nuP c1) 0)))) 5) y1021) 0))))) = 0 →
                              False))) ∧ ((bool01 ((IntKind.wrap .i64 (rdZ (rdZ (rdZ (runP y1001 y1002 (consZ n1 (consZ p2 (consZ (nuP c1) 0)))) 5) y1021) 1)) == y1018)) = 0 →
                             (((bool01 (decide ((y1021 + 1) ≤ 4611686018427387904))) ≠ 0 →
                              ∃ m', m' < m1020 ∧ I1020 0 (y1021 + 1) m') ∧ ((bool01 (decide ((y1021 + 1) ≤ 4611686018427387904))) = 0 →
                              False))))))) ∧ ((bool01 (decide (y1021 < (mkN (runP y1001 y1002 (consZ n1 (consZ p2 (consZ (nuP c1) 0)))))))) = 0 →
                           (((bool01 (y1020 == 0)) ≠ 0 →
                            ∀ y1025 : Int, y1025 = (IntKind.wrap .i32 (rdZ (rdZ (runP y1001 y1002 (consZ n1 (consZ p2 (consZ (nuP c1) 0)))) 1) y1018)) → ((-2147483648) ≤ y1025 ∧ y1025 ≤ 2147483647) →
                            (((bool01 (y1025 != (IntKind.wrap .i32 (rdZ c1 y1018)))) ≠ 0 →
                             (((bool01 ((0 : Int) == 0)) ≠ 0 →
                              ((0 : Int) ≠ 0 ↔ (1 : Int) ≠ 0) ∧ True) ∧ ((bool01 ((0 : Int) == 0)) = 0 →
                              ((1 : Int) ≠ 0 ↔ (1 : Int) ≠ 0) ∧ True))) ∧ ((bool01 (y1025 != (IntKind.wrap .i32 (rdZ c1 y1018)))) = 0 →
                             (((bool01 (decide ((y1018 + 1) ≤ 4611686018427387904))) ≠ 0 →
                              ∃ m', m' < m1018 ∧ I1018 (y1018 + 1) m') ∧ ((bool01 (decide ((y1018 + 1) ≤ 4611686018427387904))) = 0 →
                              False))))) ∧ ((bool01 (y1020 == 0)) = 0 →
                            (((bool01 (decide ((y1018 + 1) ≤ 4611686018427387904))) ≠ 0 →
                             ∃ m', m' < m1018 ∧ I1018 (y1018 + 1) m') ∧ ((bool01 (decide ((y1018 + 1) ≤ 4611686018427387904))) = 0 →
                             False))))))) ∧ ((bool01 (decide (y1018 < n1))) = 0 →
                         (((bool01 ((1 : Int) == 0)) ≠ 0 →
                          ((0 : Int) ≠ 0 ↔ (1 : Int) ≠ 0) ∧ True) ∧ ((bool01 ((1 : Int) == 0)) = 0 →
                          ((1 : Int) ≠ 0 ↔ (1 : Int) ≠ 0) ∧ True))))))))))))))))) ∧ ((bool01 (decide ((IntKind.wrap .i64 (rdZ (rdZ (rdZ (runP y1001 y1002 (consZ n1 (consZ p2 (consZ (nuP c1) 0)))) 5) y1014) 0)) < 0))) = 0 →
                 (((bool01 (decide (n0 ≤ (IntKind.wrap .i64 (rdZ (rdZ (rdZ (runP y1001 y1002 (consZ n1 (consZ p2 (consZ (nuP c1) 0)))) 5) y1014) 0))))) ≠ 0 →
                  (((bool01 ((1 : Int) == 0)) ≠ 0 →
                   ((0 : Int) ≠ 0 ↔ (1 : Int) ≠ 0) ∧ True) ∧ ((bool01 ((1 : Int) == 0)) = 0 →
                   (((bool01 ((1 : Int) == 1)) ≠ 0 →
                    ((0 : Int) ≠ 0 ↔ (1 : Int) ≠ 0) ∧ True) ∧ ((bool01 ((1 : Int) == 1)) = 0 →
                    (((bool01 ((1 : Int) == 2)) ≠ 0 →
                     ((0 : Int) ≠ 0 ↔ (1 : Int) ≠ 0) ∧ True) ∧ ((bool01 ((1 : Int) == 2)) = 0 →
                     (((bool01 ((1 : Int) == 3)) ≠ 0 →
                      ((0 : Int) ≠ 0 ↔ (1 : Int) ≠ 0) ∧ True) ∧ ((bool01 ((1 : Int) == 3)) = 0 →
                      (((bool01 ((1 : Int) == 4)) ≠ 0 →
                       ((0 : Int) ≠ 0 ↔ (1 : Int) ≠ 0) ∧ True) ∧ ((bool01 ((1 : Int) == 4)) = 0 →
                       (((bool01 ((1 : Int) == 5)) ≠ 0 →
                        ((0 : Int) ≠ 0 ↔ (1 : Int) ≠ 0) ∧ True) ∧ ((bool01 ((1 : Int) == 5)) = 0 →
                        ∃ I1018 : Int → Nat → Prop, (∃ m, I1018 0 m) ∧
                        ∀ y1018 : Int, ∀ m1018, ((0 ≤ y1018 ∧ y1018 ≤ 4611686018427387904) ∧ True) → I1018 y1018 m1018 →
                         (((bool01 (decide (y1018 < n1))) ≠ 0 →
                          ∃ I1020 : Int → Int → Nat → Prop, (∃ m, I1020 0 0 m) ∧
                          ∀ y1020 y1021 : Int, ∀ m1020, ((0 ≤ y1020 ∧ y1020 ≤ 1) ∧ (0 ≤ y1021 ∧ y1021 ≤ 4611686018427387904) ∧ True) → I1020 y1020 y1021 m1020 →
                           (((bool01 (decide (y1021 < (mkN (runP y1001 y1002 (consZ n1 (consZ p2 (consZ (nuP c1) 0)))))))) ≠ 0 →
                            ((y1020 ≠ 0 →
                             (((bool01 (decide ((y1021 + 1) ≤ 4611686018427387904))) ≠ 0 →
                              ∃ m', m' < m1020 ∧ I1020 1 (y1021 + 1) m') ∧ ((bool01 (decide ((y1021 + 1) ≤ 4611686018427387904))) = 0 →
                              False))) ∧ (y1020 = 0 →
                             (((bool01 ((IntKind.wrap .i64 (rdZ (rdZ (rdZ (runP y1001 y1002 (consZ n1 (consZ p2 (consZ (nuP c1) 0)))) 5) y1021) 1)) == y1018)) ≠ 0 →
                              (((bool01 (decide (0 ≤ (IntKind.wrap .i64 (rdZ (rdZ (rdZ (runP y1001 y1002 (consZ n1 (consZ p2 (consZ (nuP c1) 0)))) 5) y1021) 0))))) ≠ 0 →
                               (((bool01 (decide ((IntKind.wrap .i64 (rdZ (rdZ (rdZ (runP y1001 y1002 (consZ n1 (consZ p2 (consZ (nuP c1) 0)))) 5) y1021) 0)) < n0))) ≠ 0 →
                                (((bool01 (decide ((y1021 + 1) ≤ 4611686018427387904))) ≠ 0 →
                                 ∃ m', m' < m1020 ∧ I1020 (bool01 ((shrZ .u32 (IntKind.wrap .u32 (rdZ c0 (IntKind.wrap .i64 (rdZ (rdZ (rdZ (runP y1001 y1002 (consZ n1 (consZ p2 (consZ (nuP c1) 0)))) 5) y1021) 0)))) 26) == 35)) (y1021 + 1) m') ∧ ((bool01 (decide ((y1021 + 1) ≤ 4611686018427387904))) = 0 →
                                 False))) ∧ ((bool01 (decide ((IntKind.wrap .i64 (rdZ (rdZ (rdZ (runP y1001 y1002 (consZ n1 (consZ p2 (consZ (nuP c1) 0)))) 5) y1021) 0)) < n0))) = 0 →
                                False))) ∧ ((bool01 (decide (0 ≤ (IntKind.wrap .i64 (rdZ (rdZ (rdZ (runP y1001 y1002 (consZ n1 (consZ p2 (consZ (nuP c1) 0)))) 5) y1021) 0))))) = 0 →
                               False))) ∧ ((bool01 ((IntKind.wrap .i64 (rdZ (rdZ (rdZ (runP y1001 y1002 (consZ n1 (consZ p2 (consZ (nuP c1) 0)))) 5) y1021) 1)) == y1018)) = 0 →
                              (((bool01 (decide ((y1021 + 1) ≤ 4611686018427387904))) ≠ 0 →
                               ∃ m', m' < m1020 ∧ I1020 0 (y1021 + 1) m') ∧ ((bool01 (decide ((y1021 + 1) ≤ 4611686018427387904))) = 0 →
                               False))))))) ∧ ((bool01 (decide (y1021 < (mkN (runP y1001 y1002 (consZ n1 (consZ p2 (consZ (nuP c1) 0)))))))) = 0 →
                            (((bool01 (y1020 == 0)) ≠ 0 →
                             ∀ y1025 : Int, y1025 = (IntKind.wrap .i32 (rdZ (rdZ (runP y1001 y1002 (consZ n1 (consZ p2 (consZ (nuP c1) 0)))) 1) y1018)) → ((-2147483648) ≤ y1025 ∧ y1025 ≤ 2147483647) →
                             (((bool01 (y1025 != (IntKind.wrap .i32 (rdZ c1 y1018)))) ≠ 0 →
                              (((bool01 ((0 : Int) == 0)) ≠ 0 →
                               ((0 : Int) ≠ 0 ↔ (1 : Int) ≠ 0) ∧ True) ∧ ((bool01 ((0 : Int) == 0)) = 0 →
                               ((1 : Int) ≠ 0 ↔ (1 : Int) ≠ 0) ∧ True))) ∧ ((bool01 (y1025 != (IntKind.wrap .i32 (rdZ c1 y1018)))) = 0 →
                              (((bool01 (decide ((y1018 + 1) ≤ 4611686018427387904))) ≠ 0 →
                               ∃ m', m' < m1018 ∧ I1018 (y1018 + 1) m') ∧ ((bool01 (decide ((y1018 + 1) ≤ 4611686018427387904))) = 0 →
                               False))))) ∧ ((bool01 (y1020 == 0)) = 0 →
                             (((bool01 (decide ((y1018 + 1) ≤ 4611686018427387904))) ≠ 0 →
                              ∃ m', m' < m1018 ∧ I1018 (y1018 + 1) m') ∧ ((bool01 (decide ((y1018 + 1) ≤ 4611686018427387904))) = 0 →
                              False))))))) ∧ ((bool01 (decide (y1018 < n1))) = 0 →
                          (((bool01 ((1 : Int) == 0)) ≠ 0 →
                           ((0 : Int) ≠ 0 ↔ (1 : Int) ≠ 0) ∧ True) ∧ ((bool01 ((1 : Int) == 0)) = 0 →
                           ((1 : Int) ≠ 0 ↔ (1 : Int) ≠ 0) ∧ True))))))))))))))))) ∧ ((bool01 (decide (n0 ≤ (IntKind.wrap .i64 (rdZ (rdZ (rdZ (runP y1001 y1002 (consZ n1 (consZ p2 (consZ (nuP c1) 0)))) 5) y1014) 0))))) = 0 →
                  (((bool01 (decide ((IntKind.wrap .i64 (rdZ (rdZ (rdZ (runP y1001 y1002 (consZ n1 (consZ p2 (consZ (nuP c1) 0)))) 5) y1014) 1)) < (-1)))) ≠ 0 →
                   (((bool01 ((2 : Int) == 0)) ≠ 0 →
                    ((0 : Int) ≠ 0 ↔ (1 : Int) ≠ 0) ∧ True) ∧ ((bool01 ((2 : Int) == 0)) = 0 →
                    (((bool01 ((2 : Int) == 1)) ≠ 0 →
                     ((0 : Int) ≠ 0 ↔ (1 : Int) ≠ 0) ∧ True) ∧ ((bool01 ((2 : Int) == 1)) = 0 →
                     (((bool01 ((2 : Int) == 2)) ≠ 0 →
                      ((0 : Int) ≠ 0 ↔ (1 : Int) ≠ 0) ∧ True) ∧ ((bool01 ((2 : Int) == 2)) = 0 →
                      (((bool01 ((2 : Int) == 3)) ≠ 0 →
                       ((0 : Int) ≠ 0 ↔ (1 : Int) ≠ 0) ∧ True) ∧ ((bool01 ((2 : Int) == 3)) = 0 →
                       (((bool01 ((2 : Int) == 4)) ≠ 0 →
                        ((0 : Int) ≠ 0 ↔ (1 : Int) ≠ 0) ∧ True) ∧ ((bool01 ((2 : Int) == 4)) = 0 →
                        (((bool01 ((2 : Int) == 5)) ≠ 0 →
                         ((0 : Int) ≠ 0 ↔ (1 : Int) ≠ 0) ∧ True) ∧ ((bool01 ((2 : Int) == 5)) = 0 →
                         ∃ I1018 : Int → Nat → Prop, (∃ m, I1018 0 m) ∧
                         ∀ y1018 : Int, ∀ m1018, ((0 ≤ y1018 ∧ y1018 ≤ 4611686018427387904) ∧ True) → I1018 y1018 m1018 →
                          (((bool01 (decide (y1018 < n1))) ≠ 0 →
                           ∃ I1020 : Int → Int → Nat → Prop, (∃ m, I1020 0 0 m) ∧
                           ∀ y1020 y1021 : Int, ∀ m1020, ((0 ≤ y1020 ∧ y1020 ≤ 1) ∧ (0 ≤ y1021 ∧ y1021 ≤ 4611686018427387904) ∧ True) → I1020 y1020 y1021 m1020 →
                            (((bool01 (decide (y1021 < (mkN (runP y1001 y1002 (consZ n1 (consZ p2 (consZ (nuP c1) 0)))))))) ≠ 0 →
                             ((y1020 ≠ 0 →
                              (((bool01 (decide ((y1021 + 1) ≤ 4611686018427387904))) ≠ 0 →
                               ∃ m', m' < m1020 ∧ I1020 1 (y1021 + 1) m') ∧ ((bool01 (decide ((y1021 + 1) ≤ 4611686018427387904))) = 0 →
                               False))) ∧ (y1020 = 0 →
                              (((bool01 ((IntKind.wrap .i64 (rdZ (rdZ (rdZ (runP y1001 y1002 (consZ n1 (consZ p2 (consZ (nuP c1) 0)))) 5) y1021) 1)) == y1018)) ≠ 0 →
                               (((bool01 (decide (0 ≤ (IntKind.wrap .i64 (rdZ (rdZ (rdZ (runP y1001 y1002 (consZ n1 (consZ p2 (consZ (nuP c1) 0)))) 5) y1021) 0))))) ≠ 0 →
                                (((bool01 (decide ((IntKind.wrap .i64 (rdZ (rdZ (rdZ (runP y1001 y1002 (consZ n1 (consZ p2 (consZ (nuP c1) 0)))) 5) y1021) 0)) < n0))) ≠ 0 →
                                 (((bool01 (decide ((y1021 + 1) ≤ 4611686018427387904))) ≠ 0 →
                                  ∃ m', m' < m1020 ∧ I1020 (bool01 ((shrZ .u32 (IntKind.wrap .u32 (rdZ c0 (IntKind.wrap .i64 (rdZ (rdZ (rdZ (runP y1001 y1002 (consZ n1 (consZ p2 (consZ (nuP c1) 0)))) 5) y1021) 0)))) 26) == 35)) (y1021 + 1) m') ∧ ((bool01 (decide ((y1021 + 1) ≤ 4611686018427387904))) = 0 →
                                  False))) ∧ ((bool01 (decide ((IntKind.wrap .i64 (rdZ (rdZ (rdZ (runP y1001 y1002 (consZ n1 (consZ p2 (consZ (nuP c1) 0)))) 5) y1021) 0)) < n0))) = 0 →
                                 False))) ∧ ((bool01 (decide (0 ≤ (IntKind.wrap .i64 (rdZ (rdZ (rdZ (runP y1001 y1002 (consZ n1 (consZ p2 (consZ (nuP c1) 0)))) 5) y1021) 0))))) = 0 →
                                False))) ∧ ((bool01 ((IntKind.wrap .i64 (rdZ (rdZ (rdZ (runP y1001 y1002 (consZ n1 (consZ p2 (consZ (nuP c1) 0)))) 5) y1021) 1)) == y1018)) = 0 →
                               (((bool01 (decide ((y1021 + 1) ≤ 4611686018427387904))) ≠ 0 →
                                ∃ m', m' < m1020 ∧ I1020 0 (y1021 + 1) m') ∧ ((bool01 (decide ((y1021 + 1) ≤ 4611686018427387904))) = 0 →
                                False))))))) ∧ ((bool01 (decide (y1021 < (mkN (runP y1001 y1002 (consZ n1 (consZ p2 (consZ (nuP c1) 0)))))))) = 0 →
                             (((bool01 (y1020 == 0)) ≠ 0 →
                              ∀ y1025 : Int, y1025 = (IntKind.wrap .i32 (rdZ (rdZ (runP y1001 y1002 (consZ n1 (consZ p2 (consZ (nuP c1) 0)))) 1) y1018)) → ((-2147483648) ≤ y1025 ∧ y1025 ≤ 2147483647) →
                              (((bool01 (y1025 != (IntKind.wrap .i32 (rdZ c1 y1018)))) ≠ 0 →
                               (((bool01 ((0 : Int) == 0)) ≠ 0 →
                                ((0 : Int) ≠ 0 ↔ (1 : Int) ≠ 0) ∧ True) ∧ ((bool01 ((0 : Int) == 0)) = 0 →
                                ((1 : Int) ≠ 0 ↔ (1 : Int) ≠ 0) ∧ True))) ∧ ((bool01 (y1025 != (IntKind.wrap .i32 (rdZ c1 y1018)))) = 0 →
                               (((bool01 (decide ((y1018 + 1) ≤ 4611686018427387904))) ≠ 0 →
                                ∃ m', m' < m1018 ∧ I1018 (y1018 + 1) m') ∧ ((bool01 (decide ((y1018 + 1) ≤ 4611686018427387904))) = 0 →
                                False))))) ∧ ((bool01 (y1020 == 0)) = 0 →
                              (((bool01 (decide ((y1018 + 1) ≤ 4611686018427387904))) ≠ 0 →
                               ∃ m', m' < m1018 ∧ I1018 (y1018 + 1) m') ∧ ((bool01 (decide ((y1018 + 1) ≤ 4611686018427387904))) = 0 →
                               False))))))) ∧ ((bool01 (decide (y1018 < n1))) = 0 →
                           (((bool01 ((1 : Int) == 0)) ≠ 0 →
                            ((0 : Int) ≠ 0 ↔ (1 : Int) ≠ 0) ∧ True) ∧ ((bool01 ((1 : Int) == 0)) = 0 →
                            ((1 : Int) ≠ 0 ↔ (1 : Int) ≠ 0) ∧ True))))))))))))))))) ∧ ((bool01 (decide ((IntKind.wrap .i64 (rdZ (rdZ (rdZ (runP y1001 y1002 (consZ n1 (consZ p2 (consZ (nuP c1) 0)))) 5) y1014) 1)) < (-1)))) = 0 →
                   (((bool01 (decide (n1 ≤ (IntKind.wrap .i64 (rdZ (rdZ (rdZ (runP y1001 y1002 (consZ n1 (consZ p2 (consZ (nuP c1) 0)))) 5) y1014) 1))))) ≠ 0 →
                    (((bool01 ((3 : Int) == 0)) ≠ 0 →
                     ((0 : Int) ≠ 0 ↔ (1 : Int) ≠ 0) ∧ True) ∧ ((bool01 ((3 : Int) == 0)) = 0 →
                     (((bool01 ((3 : Int) == 1)) ≠ 0 →
                      ((0 : Int) ≠ 0 ↔ (1 : Int) ≠ 0) ∧ True) ∧ ((bool01 ((3 : Int) == 1)) = 0 →
                      (((bool01 ((3 : Int) == 2)) ≠ 0 →
                       ((0 : Int) ≠ 0 ↔ (1 : Int) ≠ 0) ∧ True) ∧ ((bool01 ((3 : Int) == 2)) = 0 →
                       (((bool01 ((3 : Int) == 3)) ≠ 0 →
                        ((0 : Int) ≠ 0 ↔ (1 : Int) ≠ 0) ∧ True) ∧ ((bool01 ((3 : Int) == 3)) = 0 →
                        (((bool01 ((3 : Int) == 4)) ≠ 0 →
                         ((0 : Int) ≠ 0 ↔ (1 : Int) ≠ 0) ∧ True) ∧ ((bool01 ((3 : Int) == 4)) = 0 →
                         (((bool01 ((3 : Int) == 5)) ≠ 0 →
                          ((0 : Int) ≠ 0 ↔ (1 : Int) ≠ 0) ∧ True) ∧ ((bool01 ((3 : Int) == 5)) = 0 →
                          ∃ I1018 : Int → Nat → Prop, (∃ m, I1018 0 m) ∧
                          ∀ y1018 : Int, ∀ m1018, ((0 ≤ y1018 ∧ y1018 ≤ 4611686018427387904) ∧ True) → I1018 y1018 m1018 →
                           (((bool01 (decide (y1018 < n1))) ≠ 0 →
                            ∃ I1020 : Int → Int → Nat → Prop, (∃ m, I1020 0 0 m) ∧
                            ∀ y1020 y1021 : Int, ∀ m1020, ((0 ≤ y1020 ∧ y1020 ≤ 1) ∧ (0 ≤ y1021 ∧ y1021 ≤ 4611686018427387904) ∧ True) → I1020 y1020 y1021 m1020 →
                             (((bool01 (decide (y1021 < (mkN (runP y1001 y1002 (consZ n1 (consZ p2 (consZ (nuP c1) 0)))))))) ≠ 0 →
                              ((y1020 ≠ 0 →
                               (((bool01 (decide ((y1021 + 1) ≤ 4611686018427387904))) ≠ 0 →
                                ∃ m', m' < m1020 ∧ I1020 1 (y1021 + 1) m') ∧ ((bool01 (decide ((y1021 + 1) ≤ 4611686018427387904))) = 0 →
                                False))) ∧ (y1020 = 0 →
                               (((bool01 ((IntKind.wrap .i64 (rdZ (rdZ (rdZ (runP y1001 y1002 (consZ n1 (consZ p2 (consZ (nuP c1) 0)))) 5) y1021) 1)) == y1018)) ≠ 0 →
                                (((bool01 (decide (0 ≤ (IntKind.wrap .i64 (rdZ (rdZ (rdZ (runP y1001 y1002 (consZ n1 (consZ p2 (consZ (nuP c1) 0)))) 5) y1021) 0))))) ≠ 0 →
                                 (((bool01 (decide ((IntKind.wrap .i64 (rdZ (rdZ (rdZ (runP y1001 y1002 (consZ n1 (consZ p2 (consZ (nuP c1) 0)))) 5) y1021) 0)) < n0))) ≠ 0 →
                                  (((bool01 (decide ((y1021 + 1) ≤ 4611686018427387904))) ≠ 0 →
                                   ∃ m', m' < m1020 ∧ I1020 (bool01 ((shrZ .u32 (IntKind.wrap .u32 (rdZ c0 (IntKind.wrap .i64 (rdZ (rdZ (rdZ (runP y1001 y1002 (consZ n1 (consZ p2 (consZ (nuP c1) 0)))) 5) y1021) 0)))) 26) == 35)) (y1021 + 1) m') ∧ ((bool01 (decide ((y1021 + 1) ≤ 4611686018427387904))) = 0 →
                                   False))) ∧ ((bool01 (decide ((IntKind.wrap .i64 (rdZ (rdZ (rdZ (runP y1001 y1002 (consZ n1 (consZ p2 (consZ (nuP c1) 0)))) 5) y1021) 0)) < n0))) = 0 →
                                  False))) ∧ ((bool01 (decide (0 ≤ (IntKind.wrap .i64 (rdZ (rdZ (rdZ (runP y1001 y1002 (consZ n1 (consZ p2 (consZ (nuP c1) 0)))) 5) y1021) 0))))) = 0 →
                                 False))) ∧ ((bool01 ((IntKind.wrap .i64 (rdZ (rdZ (rdZ (runP y1001 y1002 (consZ n1 (consZ p2 (consZ (nuP c1) 0)))) 5) y1021) 1)) == y1018)) = 0 →
                                (((bool01 (decide ((y1021 + 1) ≤ 4611686018427387904))) ≠ 0 →
                                 ∃ m', m' < m1020 ∧ I1020 0 (y1021 + 1) m') ∧ ((bool01 (decide ((y1021 + 1) ≤ 4611686018427387904))) = 0 →
                                 False))))))) ∧ ((bool01 (decide (y1021 < (mkN (runP y1001 y1002 (consZ n1 (consZ p2 (consZ (nuP c1) 0)))))))) = 0 →
                              (((bool01 (y1020 == 0)) ≠ 0 →
                               ∀ y1025 : Int, y1025 = (IntKind.wrap .i32 (rdZ (rdZ (runP y1001 y1002 (consZ n1 (consZ p2 (consZ (nuP c1) 0)))) 1) y1018)) → ((-2147483648) ≤ y1025 ∧ y1025 ≤ 2147483647) →
                               (((bool01 (y1025 != (IntKind.wrap .i32 (rdZ c1 y1018)))) ≠ 0 →
                                (((bool01 ((0 : Int) == 0)) ≠ 0 →
                                 ((0 : Int) ≠ 0 ↔ (1 : Int) ≠ 0) ∧ True) ∧ ((bool01 ((0 : Int) == 0)) = 0 →
                                 ((1 : Int) ≠ 0 ↔ (1 : Int) ≠ 0) ∧ True))) ∧ ((bool01 (y1025 != (IntKind.wrap .i32 (rdZ c1 y1018)))) = 0 →
                                (((bool01 (decide ((y1018 + 1) ≤ 4611686018427387904))) ≠ 0 →
                                 ∃ m', m' < m1018 ∧ I1018 (y1018 + 1) m') ∧ ((bool01 (decide ((y1018 + 1) ≤ 4611686018427387904))) = 0 →
                                 False))))) ∧ ((bool01 (y1020 == 0)) = 0 →
                               (((bool01 (decide ((y1018 + 1) ≤ 4611686018427387904))) ≠ 0 →
                                ∃ m', m' < m1018 ∧ I1018 (y1018 + 1) m') ∧ ((bool01 (decide ((y1018 + 1) ≤ 4611686018427387904))) = 0 →
                                False))))))) ∧ ((bool01 (decide (y1018 < n1))) = 0 →
                            (((bool01 ((1 : Int) == 0)) ≠ 0 →
                             ((0 : Int) ≠ 0 ↔ (1 : Int) ≠ 0) ∧ True) ∧ ((bool01 ((1 : Int) == 0)) = 0 →
                             ((1 : Int) ≠ 0 ↔ (1 : Int) ≠ 0) ∧ True))))))))))))))))) ∧ ((bool01 (decide (n1 ≤ (IntKind.wrap .i64 (rdZ (rdZ (rdZ (runP y1001 y1002 (consZ n1 (consZ p2 (consZ (nuP c1) 0)))) 5) y1014) 1))))) = 0 →
                    (((bool01 (decide ((IntKind.wrap .i64 (rdZ (rdZ (rdZ (runP y1001 y1002 (consZ n1 (consZ p2 (consZ (nuP c1) 0)))) 5) y1014) 2)) < 1))) ≠ 0 →
                     (((bool01 ((4 : Int) == 0)) ≠ 0 →
                      ((0 : Int) ≠ 0 ↔ (1 : Int) ≠ 0) ∧ True) ∧ ((bool01 ((4 : Int) == 0)) = 0 →
                      (((bool01 ((4 : Int) == 1)) ≠ 0 →
                       ((0 : Int) ≠ 0 ↔ (1 : Int) ≠ 0) ∧ True) ∧ ((bool01 ((4 : Int) == 1)) = 0 →
                       (((bool01 ((4 : Int) == 2)) ≠ 0 →
                        ((0 : Int) ≠ 0 ↔ (1 : Int) ≠ 0) ∧ True) ∧ ((bool01 ((4 : Int) == 2)) = 0 →
                        (((bool01 ((4 : Int) == 3)) ≠ 0 →
                         ((0 : Int) ≠ 0 ↔ (1 : Int) ≠ 0) ∧ True) ∧ ((bool01 ((4 : Int) == 3)) = 0 →
                         (((bool01 ((4 : Int) == 4)) ≠ 0 →
                          ((0 : Int) ≠ 0 ↔ (1 : Int) ≠ 0) ∧ True) ∧ ((bool01 ((4 : Int) == 4)) = 0 →
                          (((bool01 ((4 : Int) == 5)) ≠ 0 →
                           ((0 : Int) ≠ 0 ↔ (1 : Int) ≠ 0) ∧ True) ∧ ((bool01 ((4 : Int) == 5)) = 0 →
                           ∃ I1018 : Int → Nat → Prop, (∃ m, I1018 0 m) ∧
                           ∀ y1018 : Int, ∀ m1018, ((0 ≤ y1018 ∧ y1018 ≤ 4611686018427387904) ∧ True) → I1018 y1018 m1018 →
                            (((bool01 (decide (y1018 < n1))) ≠ 0 →
                             ∃ I1020 : Int → Int → Nat → Prop, (∃ m, I1020 0 0 m) ∧
                             ∀ y1020 y1021 : Int, ∀ m1020, ((0 ≤ y1020 ∧ y1020 ≤ 1) ∧ (0 ≤ y1021 ∧ y1021 ≤ 4611686018427387904) ∧ True) → I1020 y1020 y1021 m1020 →
                              (((bool01 (decide (y1021 < (mkN (runP y1001 y1002 (consZ n1 (consZ p2 (consZ (nuP c1) 0)))))))) ≠ 0 →
                               ((y1020 ≠ 0 →
                                (((bool01 (decide ((y1021 + 1) ≤ 4611686018427387904))) ≠ 0 →
                                 ∃ m', m' < m1020 ∧ I1020 1 (y1021 + 1) m') ∧ ((bool01 (decide ((y1021 + 1) ≤ 4611686018427387904))) = 0 →
                                 False))) ∧ (y1020 = 0 →
                                (((bool01 ((IntKind.wrap .i64 (rdZ (rdZ (rdZ (runP y1001 y1002 (consZ n1 (consZ p2 (consZ (nuP c1) 0)))) 5) y1021) 1)) == y1018)) ≠ 0 →
                                 (((bool01 (decide (0 ≤ (IntKind.wrap .i64 (rdZ (rdZ (rdZ (runP y1001 y1002 (consZ n1 (consZ p2 (consZ (nuP c1) 0)))) 5) y1021) 0))))) ≠ 0 →
                                  (((bool01 (decide ((IntKind.wrap .i64 (rdZ (rdZ (rdZ (runP y1001 y1002 (consZ n1 (consZ p2 (consZ (nuP c1) 0)))) 5) y1021) 0)) < n0))) ≠ 0 →
                                   (((bool01 (decide ((y1021 + 1) ≤ 4611686018427387904))) ≠ 0 →
                                    ∃ m', m' < m1020 ∧ I1020 (bool01 ((shrZ .u32 (IntKind.wrap .u32 (rdZ c0 (IntKind.wrap .i64 (rdZ (rdZ (rdZ (runP y1001 y1002 (consZ n1 (consZ p2 (consZ (nuP c1) 0)))) 5) y1021) 0)))) 26) == 35)) (y1021 + 1) m') ∧ ((bool01 (decide ((y1021 + 1) ≤ 4611686018427387904))) = 0 →
                                    False))) ∧ ((bool01 (decide ((IntKind.wrap .i64 (rdZ (rdZ (rdZ (runP y1001 y1002 (consZ n1 (consZ p2 (consZ (nuP c1) 0)))) 5) y1021) 0)) < n0))) = 0 →
                                   False))) ∧ ((bool01 (decide (0 ≤ (IntKind.wrap .i64 (rdZ (rdZ (rdZ (runP y1001 y1002 (consZ n1 (consZ p2 (consZ (nuP c1) 0)))) 5) y1021) 0))))) = 0 →
                                  False))) ∧ ((bool01 ((IntKind.wrap .i64 (rdZ (rdZ (rdZ (runP y1001 y1002 (consZ n1 (consZ p2 (consZ (nuP c1) 0)))) 5) y1021) 1)) == y1018)) = 0 →
                                 (((bool01 (decide ((y1021 + 1) ≤ 4611686018427387904))) ≠ 0 →
                                  ∃ m', m' < m1020 ∧ I1020 0 (y1021 + 1) m') ∧ ((bool01 (decide ((y1021 + 1) ≤ 4611686018427387904))) = 0 →
                                  False))))))) ∧ ((bool01 (decide (y1021 < (mkN (runP y1001 y1002 (consZ n1 (consZ p2 (consZ (nuP c1) 0)))))))) = 0 →
                               (((bool01 (y1020 == 0)) ≠ 0 →
                                ∀ y1025 : Int, y1025 = (IntKind.wrap .i32 (rdZ (rdZ (runP y1001 y1002 (consZ n1 (consZ p2 (consZ (nuP c1) 0)))) 1) y1018)) → ((-2147483648) ≤ y1025 ∧ y1025 ≤ 2147483647) →
                                (((bool01 (y1025 != (IntKind.wrap .i32 (rdZ c1 y1018)))) ≠ 0 →
                                 (((bool01 ((0 : Int) == 0)) ≠ 0 →
                                  ((0 : Int) ≠ 0 ↔ (1 : Int) ≠ 0) ∧ True) ∧ ((bool01 ((0 : Int) == 0)) = 0 →
                                  ((1 : Int) ≠ 0 ↔ (1 : Int) ≠ 0) ∧ True))) ∧ ((bool01 (y1025 != (IntKind.wrap .i32 (rdZ c1 y1018)))) = 0 →
                                 (((bool01 (decide ((y1018 + 1) ≤ 4611686018427387904))) ≠ 0 →
                                  ∃ m', m' < m1018 ∧ I1018 (y1018 + 1) m') ∧ ((bool01 (decide ((y1018 + 1) ≤ 4611686018427387904))) = 0 →
                                  False))))) ∧ ((bool01 (y1020 == 0)) = 0 →
                                (((bool01 (decide ((y1018 + 1) ≤ 4611686018427387904))) ≠ 0 →
                                 ∃ m', m' < m1018 ∧ I1018 (y1018 + 1) m') ∧ ((bool01 (decide ((y1018 + 1) ≤ 4611686018427387904))) = 0 →
                                 False))))))) ∧ ((bool01 (decide (y1018 < n1))) = 0 →
                             (((bool01 ((1 : Int) == 0)) ≠ 0 →
                              ((0 : Int) ≠ 0 ↔ (1 : Int) ≠ 0) ∧ True) ∧ ((bool01 ((1 : Int) == 0)) = 0 →
                              ((1 : Int) ≠ 0 ↔ (1 : Int) ≠ 0) ∧ True))))))))))))))))) ∧ ((bool01 (decide ((IntKind.wrap .i64 (rdZ (rdZ (rdZ (runP y1001 y1002 (consZ n1 (consZ p2 (consZ (nuP c1) 0)))) 5) y1014) 2)) < 1))) = 0 →
                     (((bool01 (decide (34 < (IntKind.wrap .i64 (rdZ (rdZ (rdZ (runP y1001 y1002 (consZ n1 (consZ p2 (consZ (nuP c1) 0)))) 5) y1014) 2))))) ≠ 0 →
                      (((bool01 ((5 : Int) == 0)) ≠ 0 →
                       ((0 : Int) ≠ 0 ↔ (1 : Int) ≠ 0) ∧ True) ∧ ((bool01 ((5 : Int) == 0)) = 0 →
                       (((bool01 ((5 : Int) == 1)) ≠ 0 →
                        ((0 : Int) ≠ 0 ↔ (1 : Int) ≠ 0) ∧ True) ∧ ((bool01 ((5 : Int) == 1)) = 0 →
                        (((bool01 ((5 : Int) == 2)) ≠ 0 →
                         ((0 : Int) ≠ 0 ↔ (1 : Int) ≠ 0) ∧ True) ∧ ((bool01 ((5 : Int) == 2)) = 0 →
                         (((bool01 ((5 : Int) == 3)) ≠ 0 →
                          ((0 : Int) ≠ 0 ↔ (1 : Int) ≠ 0) ∧ True) ∧ ((bool01 ((5 : Int) == 3)) = 0 →
                          (((bool01 ((5 : Int) == 4)) ≠ 0 →
                           ((0 : Int) ≠ 0 ↔ (1 : Int) ≠ 0) ∧ True) ∧ ((bool01 ((5 : Int) == 4)) = 0 →
                           (((bool01 ((5 : Int) == 5)) ≠ 0 →
                            ((0 : Int) ≠ 0 ↔ (1 : Int) ≠ 0) ∧ True) ∧ ((bool01 ((5 : Int) == 5)) = 0 →
                            ∃ I1018 : Int → Nat → Prop, (∃ m, I1018 0 m) ∧
                            ∀ y1018 : Int, ∀ m1018, ((0 ≤ y1018 ∧ y1018 ≤ 4611686018427387904) ∧ True) → I1018 y1018 m1018 →
                             (((bool01 (decide (y1018 < n1))) ≠ 0 →
                              ∃ I1020 : Int → Int → Nat → Prop, (∃ m, I1020 0 0 m) ∧
                              ∀ y1020 y1021 : Int, ∀ m1020, ((0 ≤ y1020 ∧ y1020 ≤ 1) ∧ (0 ≤ y1021 ∧ y1021 ≤ 4611686018427387904) ∧ True) → I1020 y1020 y1021 m1020 →
                               (((bool01 (decide (y1021 < (mkN (runP y1001 y1002 (consZ n1 (consZ p2 (consZ (nuP c1) 0)))))))) ≠ 0 →
                                ((y1020 ≠ 0 →
                                 (((bool01 (decide ((y1021 + 1) ≤ 4611686018427387904))) ≠ 0 →
                                  ∃ m', m' < m1020 ∧ I1020 1 (y1021 + 1) m') ∧ ((bool01 (decide ((y1021 + 1) ≤ 4611686018427387904))) = 0 →
                                  False))) ∧ (y1020 = 0 →
                                 (((bool01 ((IntKind.wrap .i64 (rdZ (rdZ (rdZ (runP y1001 y1002 (consZ n1 (consZ p2 (consZ (nuP c1) 0)))) 5) y1021) 1)) == y1018)) ≠ 0 →
                                  (((bool01 (decide (0 ≤ (IntKind.wrap .i64 (rdZ (rdZ (rdZ (runP y1001 y1002 (consZ n1 (consZ p2 (consZ (nuP c1) 0)))) 5) y1021) 0))))) ≠ 0 →
                                   (((bool01 (decide ((IntKind.wrap .i64 (rdZ (rdZ (rdZ (runP y1001 y1002 (consZ n1 (consZ p2 (consZ (nuP c1) 0)))) 5) y1021) 0)) < n0))) ≠ 0 →
                                    (((bool01 (decide ((y1021 + 1) ≤ 4611686018427387904))) ≠ 0 →
                                     ∃ m', m' < m1020 ∧ I1020 (bool01 ((shrZ .u32 (IntKind.wrap .u32 (rdZ c0 (IntKind.wrap .i64 (rdZ (rdZ (rdZ (runP y1001 y1002 (consZ n1 (consZ p2 (consZ (nuP c1) 0)))) 5) y1021) 0)))) 26) == 35)) (y1021 + 1) m') ∧ ((bool01 (decide ((y1021 + 1) ≤ 4611686018427387904))) = 0 →
                                     False))) ∧ ((bool01 (decide ((IntKind.wrap .i64 (rdZ (rdZ (rdZ (runP y1001 y1002 (consZ n1 (consZ p2 (consZ (nuP c1) 0)))) 5) y1021) 0)) < n0))) = 0 →
                                    False))) ∧ ((bool01 (decide (0 ≤ (IntKind.wrap .i64 (rdZ (rdZ (rdZ (runP y1001 y1002 (consZ n1 (consZ p2 (consZ (nuP c1) 0)))) 5) y1021) 0))))) = 0 →
                                   False))) ∧ ((bool01 ((IntKind.wrap .i64 (rdZ (rdZ (rdZ (runP y1001 y1002 (consZ n1 (consZ p2 (consZ (nuP c1) 0)))) 5) y1021) 1)) == y1018)) = 0 →
                                  (((bool01 (decide ((y1021 + 1) ≤ 4611686018427387904))) ≠ 0 →
                                   ∃ m', m' < m1020 ∧ I1020 0 (y1021 + 1) m') ∧ ((bool01 (decide ((y1021 + 1) ≤ 4611686018427387904))) = 0 →
                                   False))))))) ∧ ((bool01 (decide (y1021 < (mkN (runP y1001 y1002 (consZ n1 (consZ p2 (consZ (nuP c1) 0)))))))) = 0 →
                                (((bool01 (y1020 == 0)) ≠ 0 →
                                 ∀ y1025 : Int, y1025 = (IntKind.wrap .i32 (rdZ (rdZ (runP y1001 y1002 (consZ n1 (consZ p2 (consZ (nuP c1) 0)))) 1) y1018)) → ((-2147483648) ≤ y1025 ∧ y1025 ≤ 2147483647) →
                                 (((bool01 (y1025 != (IntKind.wrap .i32 (rdZ c1 y1018)))) ≠ 0 →
                                  (((bool01 ((0 : Int) == 0)) ≠ 0 →
                                   ((0 : Int) ≠ 0 ↔ (1 : Int) ≠ 0) ∧ True) ∧ ((bool01 ((0 : Int) == 0)) = 0 →
                                   ((1 : Int) ≠ 0 ↔ (1 : Int) ≠ 0) ∧ True))) ∧ ((bool01 (y1025 != (IntKind.wrap .i32 (rdZ c1 y1018)))) = 0 →
                                  (((bool01 (decide ((y1018 + 1) ≤ 4611686018427387904))) ≠ 0 →
                                   ∃ m', m' < m1018 ∧ I1018 (y1018 + 1) m') ∧ ((bool01 (decide ((y1018 + 1) ≤ 4611686018427387904))) = 0 →
                                   False))))) ∧ ((bool01 (y1020 == 0)) = 0 →
                                 (((bool01 (decide ((y1018 + 1) ≤ 4611686018427387904))) ≠ 0 →
                                  ∃ m', m' < m1018 ∧ I1018 (y1018 + 1) m') ∧ ((bool01 (decide ((y1018 + 1) ≤ 4611686018427387904))) = 0 →
                                  False))))))) ∧ ((bool01 (decide (y1018 < n1))) = 0 →
                              (((bool01 ((1 : Int) == 0)) ≠ 0 →
                               ((0 : Int) ≠ 0 ↔ (1 : Int) ≠ 0) ∧ True) ∧ ((bool01 ((1 : Int) == 0)) = 0 →
                               ((1 : Int) ≠ 0 ↔ (1 : Int) ≠ 0) ∧ True))))))))))))))))) ∧ ((bool01 (decide (34 < (IntKind.wrap .i64 (rdZ (rdZ (rdZ (runP y1001 y1002 (consZ n1 (consZ p2 (consZ (nuP c1) 0)))) 5) y1014) 2))))) = 0 →
                      (((bool01 (decide ((y1014 + 1) ≤ 4611686018427387904))) ≠ 0 →
                       ∃ m', m' < m1014 ∧ I1014 (y1014 + 1) m') ∧ ((bool01 (decide ((y1014 + 1) ≤ 4611686018427387904))) = 0 →
                       False))))))))))))))) ∧ ((bool01 (decide (y1014 < (mkN (runP y1001 y1002 (consZ n1 (consZ p2 (consZ (nuP c1) 0)))))))) = 0 →
                (((bool01 ((6 : Int) == 0)) ≠ 0 →
                 ((0 : Int) ≠ 0 ↔ (1 : Int) ≠ 0) ∧ True) ∧ ((bool01 ((6 : Int) == 0)) = 0 →
                 (((bool01 ((6 : Int) == 1)) ≠ 0 →
                  ((0 : Int) ≠ 0 ↔ (1 : Int) ≠ 0) ∧ True) ∧ ((bool01 ((6 : Int) == 1)) = 0 →
                  (((bool01 ((6 : Int) == 2)) ≠ 0 →
                   ((0 : Int) ≠ 0 ↔ (1 : Int) ≠ 0) ∧ True) ∧ ((bool01 ((6 : Int) == 2)) = 0 →
                   (((bool01 ((6 : Int) == 3)) ≠ 0 →
                    ((0 : Int) ≠ 0 ↔ (1 : Int) ≠ 0) ∧ True) ∧ ((bool01 ((6 : Int) == 3)) = 0 →
                    (((bool01 ((6 : Int) == 4)) ≠ 0 →
                     ((0 : Int) ≠ 0 ↔ (1 : Int) ≠ 0) ∧ True) ∧ ((bool01 ((6 : Int) == 4)) = 0 →
                     (((bool01 ((6 : Int) == 5)) ≠ 0 →
                      ((0 : Int) ≠ 0 ↔ (1 : Int) ≠ 0) ∧ True) ∧ ((bool01 ((6 : Int) == 5)) = 0 →
                      ∃ I1018 : Int → Nat → Prop, (∃ m, I1018 0 m) ∧
                      ∀ y1018 : Int, ∀ m1018, ((0 ≤ y1018 ∧ y1018 ≤ 4611686018427387904) ∧ True) → I1018 y1018 m1018 →
                       (((bool01 (decide (y1018 < n1))) ≠ 0 →
                        ∃ I1020 : Int → Int → Nat → Prop, (∃ m, I1020 0 0 m) ∧
                        ∀ y1020 y1021 : Int, ∀ m1020, ((0 ≤ y1020 ∧ y1020 ≤ 1) ∧ (0 ≤ y1021 ∧ y1021 ≤ 4611686018427387904) ∧ True) → I1020 y1020 y1021 m1020 →
                         (((bool01 (decide (y1021 < (mkN (runP y1001 y1002 (consZ n1 (consZ p2 (consZ (nuP c1) 0)))))))) ≠ 0 →
                          ((y1020 ≠ 0 →
                           (((bool01 (decide ((y1021 + 1) ≤ 4611686018427387904))) ≠ 0 →
                            ∃ m', m' < m1020 ∧ I1020 1 (y1021 + 1) m') ∧ ((bool01 (decide ((y1021 + 1) ≤ 4611686018427387904))) = 0 →
                            False))) ∧ (y1020 = 0 →
                           (((bool01 ((IntKind.wrap .i64 (rdZ (rdZ (rdZ (runP y1001 y1002 (consZ n1 (consZ p2 (consZ (nuP c1) 0)))) 5) y1021) 1)) == y1018)) ≠ 0 →
                            (((bool01 (decide (0 ≤ (IntKind.wrap .i64 (rdZ (rdZ (rdZ (runP y1001 y1002 (consZ n1 (consZ p2 (consZ (nuP c1) 0)))) 5) y1021) 0))))) ≠ 0 →
                             (((bool01 (decide ((IntKind.wrap .i64 (rdZ (rdZ (rdZ (runP y1001 y1002 (consZ n1 (consZ p2 (consZ (nuP c1) 0)))) 5) y1021) 0)) < n0))) ≠ 0 →
                              (((bool01 (decide ((y1021 + 1) ≤ 4611686018427387904))) ≠ 0 →
                               ∃ m', m' < m1020 ∧ I1020 (bool01 ((shrZ .u32 (IntKind.wrap .u32 (rdZ c0 (IntKind.wrap .i64 (rdZ (rdZ (rdZ (runP y1001 y1002 (consZ n1 (consZ p2 (consZ (nuP c1) 0)))) 5) y1021) 0)))) 26) == 35)) (y1021 + 1) m') ∧ ((bool01 (decide ((y1021 + 1) ≤ 4611686018427387904))) = 0 →
                               False))) ∧ ((bool01 (decide ((IntKind.wrap .i64 (rdZ (rdZ (rdZ (runP y1001 y1002 (consZ n1 (consZ p2 (consZ (nuP c1) 0)))) 5) y1021) 0)) < n0))) = 0 →
                              False))) ∧ ((bool01 (decide (0 ≤ (IntKind.wrap .i64 (rdZ (rdZ (rdZ (runP y1001 y1002 (consZ n1 (consZ p2 (consZ (nuP c1) 0)))) 5) y1021) 0))))) = 0 →
                             False))) ∧ ((bool01 ((IntKind.wrap .i64 (rdZ (rdZ (rdZ (runP y1001 y1002 (consZ n1 (consZ p2 (consZ (nuP c1) 0)))) 5) y1021) 1)) == y1018)) = 0 →
                            (((bool01 (decide ((y1021 + 1) ≤ 4611686018427387904))) ≠ 0 →
                             ∃ m', m' < m1020 ∧ I1020 0 (y1021 + 1) m') ∧ ((bool01 (decide ((y1021 + 1) ≤ 4611686018427387904))) = 0 →
                             False))))))) ∧ ((bool01 (decide (y1021 < (mkN (runP y1001 y1002 (consZ n1 (consZ p2 (consZ (nuP c1) 0)))))))) = 0 →
                          (((bool01 (y1020 == 0)) ≠ 0 →
                           ∀ y1025 : Int, y1025 = (IntKind.wrap .i32 (rdZ (rdZ (runP y1001 y1002 (consZ n1 (consZ p2 (consZ (nuP c1) 0)))) 1) y1018)) → ((-2147483648) ≤ y1025 ∧ y1025 ≤ 2147483647) →
                           (((bool01 (y1025 != (IntKind.wrap .i32 (rdZ c1 y1018)))) ≠ 0 →
                            (((bool01 ((0 : Int) == 0)) ≠ 0 →
                             ((0 : Int) ≠ 0 ↔ (1 : Int) ≠ 0) ∧ True) ∧ ((bool01 ((0 : Int) == 0)) = 0 →
                             ((1 : Int) ≠ 0 ↔ (1 : Int) ≠ 0) ∧ True))) ∧ ((bool01 (y1025 != (IntKind.wrap .i32 (rdZ c1 y1018)))) = 0 →
                            (((bool01 (decide ((y1018 + 1) ≤ 4611686018427387904))) ≠ 0 →
                             ∃ m', m' < m1018 ∧ I1018 (y1018 + 1) m') ∧ ((bool01 (decide ((y1018 + 1) ≤ 4611686018427387904))) = 0 →
                             False))))) ∧ ((bool01 (y1020 == 0)) = 0 →
                           (((bool01 (decide ((y1018 + 1) ≤ 4611686018427387904))) ≠ 0 →
                            ∃ m', m' < m1018 ∧ I1018 (y1018 + 1) m') ∧ ((bool01 (decide ((y1018 + 1) ≤ 4611686018427387904))) = 0 →
                            False))))))) ∧ ((bool01 (decide (y1018 < n1))) = 0 →
                        (((bool01 ((1 : Int) == 0)) ≠ 0 →
                         ((0 : Int) ≠ 0 ↔ (1 : Int) ≠ 0) ∧ True) ∧ ((bool01 ((1 : Int) == 0)) = 0 →
                         ((1 : Int) ≠ 0 ↔ (1 : Int) ≠ 0) ∧ True))))))))))))))))))))))))) ∧ ((okC y1001 y1002) = 0 →
           False))) ∧ ((bool01 (decide (n1 ≤ 2048))) = 0 →
          False))) ∧ ((bool01 (decide (y1002 ≤ 16384))) = 0 →
         False))))))) ∧ ((bool01 (decide (n1 ≤ 1000000))) = 0 →
     False))))))) ∧ ((bool01 (decide (n0 ≤ 200))) = 0 →
  ((1 : Int) ≠ 0 ↔ (1 : Int) ≠ 0) ∧ True))

set_option maxHeartbeats 4000000 in
theorem holds (n0 n1 p2 c0 c1 r0 r1 : Int) (l_n0 : 0 ≤ n0) (u_n0 : n0 ≤ 140737488355328) (l_n1 : 0 ≤ n1) (u_n1 : n1 ≤ 140737488355328) (l_p2 : 0 ≤ p2) (u_p2 : p2 ≤ 255) (h_n0 : n0 ≤ r0) (h_n1 : n1 ≤ r1) : P n0 n1 p2 c0 c1 r0 r1 := by
  unfold P
  simp only [b01_eq, decide_eq_true_eq, decide_eq_false_iff_not, beq_iff_eq, beq_eq_false_iff_ne, bne_iff_ne, bne_eq_false_iff_eq, Int.not_le, Int.not_lt, true_and, and_true, iteZ_ne, ne_eq, Bool.not_eq_false, Bool.not_eq_true, not_true_eq_false, not_false_eq_true, Decidable.not_not, forall_const, false_implies, true_iff, iff_true, false_iff, iff_false, Int.reduceEq, Int.reduceNeg, eq_self, if_true, if_false, reduceIte, ob_le, ob_lt, ob_p, ob_n]
  refine ⟨fun g1 => ⟨fun _ => trivial, fun g2 => ⟨fun _ => by omega, fun g3 => ⟨by omega, fun _ => by omega, fun g4 => ?_⟩⟩⟩, fun _ => trivial⟩
  refine ⟨fun i q n m => ∃ k : Nat, i = k ∧ q = decC c0 k ∧ n = k ∧ i ≤ n0 ∧ m = (n0 - i).toNat, ⟨_, 0, rfl, rfl, rfl, l_n0, rfl⟩, fun i q n m hb hI => ?_⟩
  obtain ⟨k, rfl, rfl, rfl, hi, rfl⟩ := hI
  refine ⟨fun h1 => ?_, fun h1 => ?_⟩
  · rintro _ rfl _ _ rfl _ _ rfl _ _ rfl _ _ rfl _ _ rfl _
    exact ⟨by omega, by omega, by omega, _, by omega, k + 1, by omega, rfl, by omega, by omega, rfl⟩
  have hk : (k : Int) = n0 := by omega
  have hok := okC_dec c0 k
  have m0 := macM_ok (nuP c1)
  have mn : (macM (nuP c1)).nm = 0 := by rw [macM_nu]
  obtain ⟨a1, a2, a3, a4⟩ := runs_ok m0 (decC c0 k) k n1 p2.toNat
  have hv := nx_runs (w := c0) (c1 := c1) (n1 := n1) (N := k) (inv_nu c1 k) (by rw [macM_nu]) (by omega) (by omega) p2.toNat
  have ea := runP_code (decC c0 k) k n1 p2 (nuP c1)
  generalize hA : Mac.runs (decC c0 k) k n1 p2.toNat (macM (nuP c1)) = A at *
  obtain ⟨q0, q1, q2, q3, q4, q5, q6, q7⟩ := codeM_rd A.1 A.2
  have na := mkN_code a1 (by omega) A.2
  obtain ⟨hv, hc⟩ := hv
  rw [mn] at hc a2 a3
  have w2 := w64 a1.1.1 a1.1.2
  have w3 := w64 a1.2.1.1 a1.2.1.2
  have w4 := w64 a1.2.2.1.1 a1.2.2.1.2
  have w7 : IntKind.wrap .i64 (A.2 : Int) = A.2 := w64 (by omega) (by omega)
  have w8 : IntKind.wrap .i64 ((A.2 : Int) - 1) = A.2 - 1 := w64 (by omega) (by omega)
  simp only [ea, q0, q1, q2, q3, q4, q5, q6, q7, na, w2, w3, w4, w7, w8]
  refine ⟨by omega, by omega, hok, ?_⟩
  unfold trap at hc
  have hco : A.1.co = costZ A.1.mq A.1.nm := hv.co
  refine ⟨fun s1 => ⟨fun g => by rw [if_pos s1] at hc; omega, fun _ => ?_⟩, fun s1 => ⟨fun g => by rw [if_neg (by omega)] at hc; omega, fun _ => ?_⟩⟩
  all_goals
    rintro _ rfl _ _ rfl _
    refine ⟨fun g => g hco, fun _ => ?_⟩
    refine ⟨fun i m => i ≤ A.1.nm ∧ m = (A.1.nm - i).toNat, ⟨_, a2, rfl⟩, fun i m hi I => ?_⟩
    obtain ⟨hi1, rfl⟩ := I
    refine ⟨fun h2 => ?_, fun h2 => ?_⟩
    · have hq := hv.mks i.toNat (by omega)
      unfold mk at hq
      rw [show ((i.toNat : Nat) : Int) = i by omega] at hq
      exact ⟨fun _ => by omega, fun _ => ⟨fun _ => by omega, fun _ => ⟨fun _ => by omega, fun _ => ⟨fun _ => by omega, fun _ => ⟨fun _ => by omega, fun _ => ⟨fun _ => by omega, fun _ => ⟨by omega, _, by omega, by omega, rfl⟩⟩⟩⟩⟩⟩⟩
    refine ⟨fun i m => i ≤ n1 ∧ m = (n1 - i).toNat, ⟨_, l_n1, rfl⟩, fun i m hi I => ?_⟩
    obtain ⟨hi1, rfl⟩ := I
    refine ⟨fun h3 => ?_, fun h3 => trivial⟩
    refine ⟨fun b j m => j ≤ A.1.nm ∧ m = (A.1.nm - j).toNat ∧ (b = 0 → ∀ k : Nat, (k : Int) < j → ¬ (mk A.1.mq k 1 = i ∧ IntKind.wrap .u32 (rdZ c0 (mk A.1.mq k 0)) / 67108864 = 35)), ⟨_, a2, rfl, fun _ k hk => by omega⟩, fun b j m hj I => ?_⟩
    obtain ⟨hj1, rfl, hb3⟩ := I
    have hs : ∀ k : Nat, (k : Int) < j + 1 → ¬ (k : Int) < j → (k : Int) = j := fun k g1 g2 => by omega
    refine ⟨fun h4 => ⟨fun h5 => ⟨by omega, _, ?_, by omega, rfl, fun h => by omega⟩, fun h5 => ⟨fun h6 => ?_, fun h6 => ⟨by omega, _, ?_, by omega, rfl, fun _ k hk => ?_⟩⟩⟩, fun h4 => ⟨fun h5 => ?_, fun h5 => ⟨by omega, _, ?_, by omega, rfl⟩⟩⟩
    · omega
    · have hq := hv.mks j.toNat (by omega)
      unfold mk at hq
      rw [show ((j.toNat : Nat) : Int) = j by omega] at hq
      refine ⟨by omega, by omega, by omega, _, ?_, by omega, rfl, fun hz k hk => ?_⟩
      · omega
      · by_cases e : (k : Int) < j
        · exact hb3 h5 k e
        · rintro ⟨e1, e2⟩
          unfold mk at e2
          rw [hs k hk e] at e2
          simp [bool01, sh26, e2] at hz
    · omega
    · by_cases e : (k : Int) < j
      · exact hb3 h5 k e
      · rintro ⟨e1, e2⟩
        unfold mk at e1
        rw [hs k hk e] at e1
        exact h6 e1
    · rintro _ rfl _
      refine ⟨fun g => ?_, fun _ => ⟨by omega, _, ?_, by omega, rfl⟩⟩
      · rcases hv.mem i (by omega) h3 with ⟨k, e1, e2, e3⟩ | e1
        · exact hb3 h5 k (by omega) ⟨e2, e3⟩
        · exact g e1
      · omega
    · omega

theorem plain (i : Nat → Int) (v : Nat → Value) (ro : Nat → RO) (p : Program) : TT.hdP (rc.cx (cxOf 2)) (rlF ⟨i, fN, v, ro, p⟩ rc.res) tree ⟨i, fN, v, ro, p⟩ = P (i 0) (i 1) (i 2) (i 3) (i 4) (i 5) (i 6) := by kernel_rfl
theorem ran : TT.beq (projL (rc.pj (cxOf 2)) (runT us (fun f i => if f = 5 then (match i with | 13 => .tmpl (some mk13) | 18 => .tmpl (some mk18) | 22 => .tmpl (some mk22) | _ => .auto) else .auto) rc 2 rc.f rc.args ⟨[], []⟩)) tree = true := by kernel_rfl
theorem fineT : (TT.fine (rc.cx (cxOf 2)) 1000 [] tree && (rc.cx (cxOf 2)).okB 1000 && SV.vbL 1000 rc.args && TT.tidy (rc.cx (cxOf 2)) [] tree) = true := by kernel_rfl
theorem ok : RcOk (cxOf 2) rc :=
  rc_run (runT_ok us_ok (fun f i => if f = 5 then (match i with | 13 => .tmpl (some mk13) | 18 => .tmpl (some mk18) | 22 => .tmpl (some mk22) | _ => .auto) else .auto) rc 2) ran fineT okb fun ρ hρ hcap hpre => by
    obtain ⟨i, f, v, ro, p⟩ := ρ
    have hf : f = fN := hρ.hF
    subst hf
    rw [plain]
    exact holds (i 0) (i 1) (i 2) (i 3) (i 4) (i 5) (i 6) (hρ.hi 0 _ rfl).1 (hρ.hi 0 _ rfl).2 (hρ.hi 1 _ rfl).1 (hρ.hi 1 _ rfl).2 (hρ.hi 2 _ rfl).1 (hρ.hi 2 _ rfl).2 (hcap _ (List.mem_of_getElem? (i := 0) rfl)) (hcap _ (List.mem_of_getElem? (i := 1) rfl))
theorem listE_LZ (P : Program) (l : List Int) (ro : List RO) : ∀ zs : List Int, (listE (zs.map E.c)).ev (envR P l ro) = LZ zs
  | [] => rfl
  | z :: zs => by
    have h : (listE ((z :: zs).map E.c)).ev (envR P l ro) = consZ z ((listE (zs.map E.c)).ev (envR P l ro)) := rfl
    rw [h, listE_LZ P l ro zs]
    unfold consZ
    rw [ZL_LZ]
def tab0 : List Int := [1, 1, 1, 1, 1, 1, 1, 1, 1, 1, 1, 1, 1, 1, 1, 1, 1, 3, 3, 3, 3, 2, 2, 1, 1, 1, 1, 1, 1, 1, 1, 1, 1, 2, 2, 1, 1, 1, 3, 3, 3, 1, 1]
theorem tabG0 : Tryz.prog.globalNamed "astrolabe/ops.costs" = some 0 := by kernel_rfl
theorem tabW0 : ∀ z ∈ tab0, IntKind.wrap .i64 z = z := fun z hz => by
  have h := List.all_eq_true.1 (show tab0.all (fun z => decide (IntKind.wrap .i64 z = z)) = true by kernel_rfl) z hz
  simpa using h
theorem tabIs0 {W : World} (h : laidMetH Tryz.prog Rows.coreCostsRow.laid W) : Lib.TabIs Tryz.prog W "astrolabe/ops.costs" .i64 tab0 := by
  rw [MakeChecks.laidMetH_plain _ _ _ (by kernel_rfl)] at h
  exact Lib.tabIs_of_head (rest := []) tabG0 (t := 122) (e := 3) (n := 43) (by kernel_rfl) (by kernel_rfl) (by kernel_rfl) (by kernel_rfl) (by kernel_rfl) h

theorem walk (w : World) (a0 : RO) (k0 : a0.cks = [.int .u32]) (n0 : a0.a = none → a0.n = 0) (m0 : a0.n ≤ a0.cap) (t0 : RoAt w a0) (b0 : (a0.n : Int) ≤ 140737488355328) (a1 : RO) (k1 : a1.cks = [.int .i32]) (n1 : a1.a = none → a1.n = 0) (m1 : a1.n ≤ a1.cap) (t1 : RoAt w a1) (b1 : (a1.n : Int) ≤ 140737488355328) (a2 : Int) (w2 : (Lit.int .u8 a2).wf = true) (tb0 : Lib.TabIs Tryz.prog w "astrolabe/ops.costs" .i64 tab0) :
    Calls Tryz.prog 5 #[.slice a0.a a0.n a0.cap, .slice a1.a a1.n a1.cap, .int .u8 a2] w fun e w' => e = .returned (.bool true) ∧ Below w.heap.size w w' := by
  refine law_of (cx := cxOf 2) ok ⟨rfl, rfl, rfl⟩ (ρ := envR Tryz.prog [(a0.n : Int), (a1.n : Int), a2, a0.c, a1.c, (a0.cap : Int), (a1.cap : Int)] [a0, a1, tabRo 0 .i64 tab0]) (envR_ok (cx := rc.cx (cxOf 2)) rfl rfl (bnd_cons ⟨Int.natCast_nonneg _, b0⟩ (bnd_cons ⟨Int.natCast_nonneg _, b1⟩ (bnd_cons (wf_bd w2) (bnd_nil _)))) ⟨⟨k0, rfl, (Int.toNat_natCast _).symm, (Int.toNat_natCast _).symm, n0, fun g h => by cases h⟩, ⟨⟨k1, rfl, (Int.toNat_natCast _).symm, (Int.toNat_natCast _).symm, n1, fun g h => by cases h⟩, ⟨⟨rfl, (listE_LZ _ _ _ tab0).symm, rfl, rfl, (fun h => by cases h), fun g h => by cases h; rfl⟩, trivial⟩⟩⟩) (fun d hd => by
    simp only [show lfIns rc.b rc.c rc.ls 0 0 0 = [⟨[.int .u32], .v 3, .v 0, .v 5, none⟩, ⟨[.int .i32], .v 4, .v 1, .v 6, none⟩] from rfl, List.mem_cons, List.not_mem_nil, or_false] at hd
    rcases hd with rfl | rfl
    · exact Int.ofNat_le.2 m0
    · exact Int.ofNat_le.2 m1) (roOk_of ⟨t0, ⟨t1, ⟨tabRo_at tb0 tabG0 tabW0, trivial⟩⟩⟩) ?_
  rw [show rc.args = [.sl (.inp 0) 1 (.c 0) (.v 0) (some (.v 5)), .sl (.inp 1) 1 (.c 0) (.v 1) (some (.v 6)), .int .u8 (.v 2)] from rfl]
  simp only [SV.denL, SV.den, E.ev, map_addr_zero]
  rfl
theorem lifted (os : Os) (started : os.Started) (H : Type) (enc : TypeId × Value → H) :
    ReturnsInHanded {} Tryz.checked os 5 .any (fun w args => (Rows.coreCostsSpec.pre enc Tryz.prog Tryz.f5 Rows.coreCostsRow.domain false w args ∧ laidMetH Tryz.prog Rows.coreCostsRow.laid w) ∧ sizedMet enc Tryz.prog Tryz.f5 (OpenSpec.ofChange Rows.coreCostsSpec) false w args)
      (Rows.coreCostsSpec.post enc Tryz.prog Tryz.f5 false true false false) := by
  refine returnsInHanded_of_change_and (C := Tryz.checked) (X := fun w _ => laidMetH Tryz.prog Rows.coreCostsRow.laid w) (fun _ _ _ hh h => h.of_heap hh) own started (by kernel_rfl) Tryz.func5
    (ChangeSpec.witness_shaped (enc := enc) (C := Tryz.checked) (os := os) (X := fun w _ => laidMetH Tryz.prog Rows.coreCostsRow.laid w) false (World.laidAll Tryz.prog os Rows.coreCostsRow.laid) #[.slice none 0 0, .slice none 0 0, .int .u8 0] 8 (World.laidAll_os _ _ _)
      (World.shaped_of_ZipB (by kernel_rfl) (by kernel_rfl)) (by kernel_rfl) (by kernel_rfl) (by kernel_rfl)
      (by rw [MakeChecks.laidMetH_plain _ _ _ (by kernel_rfl)]; exact laidMet_laidAll _ (by kernel_rfl) (by kernel_rfl))) ?_
  intro W base args ds gs before hval0 hW hcnd hw0 hL _
  have hval : ∀ (j : Nat) t v, Tryz.f5.params[j]? = some t → args[j]? = some v → Value.okWide Tryz.prog W .any base t v := hval0
  have hW' := hW
  obtain ⟨p, q, hA0, hV, rfl, hfz, hnd⟩ := hW
  have hA : DataW.TrodAll enc Tryz.prog W 0 (fun _ => true) true Tryz.f5.params.toList args.toList ds p := hA0
  have hw := hw0
  rw [Tryz.params5] at hA hval hw
  obtain ⟨v0, vs0, d0, ds0, p0, q0, hargs, rfl, rfl, h0, r0⟩ := trodAll_cons hA
  have h0k := h0
  obtain ⟨v1, vs1, d1, ds1, p1, q1, rfl, rfl, rfl, h1, r1⟩ := trodAll_cons r0
  have h1k := h1
  obtain ⟨v2, vs2, d2, ds2, p2, q2, rfl, rfl, rfl, h2, r2⟩ := trodAll_cons r1
  have h2k := h2
  obtain ⟨rfl, rfl, rfl⟩ := trodAll_nil r2
  obtain rfl : args = #[v0, v1, v2] := by cases args; simp_all
  obtain ⟨rfl, rfl⟩ := trodVars_none hV
  obtain ⟨a0, k0, rfl, n0, m0, t0, b0, _⟩ := Go.Eng.open_row (ks := [.int .u32]) Tryz.underlying22 (ElT.one Tryz.underlying48 (by kernel_rfl)) (by decide) (of_decide_eq_true (by kernel_rfl)) (by kernel_rfl) (hval 0 22 v0 rfl rfl) h0 (weights_of (gs := []) hw (j := 0) (t := 22) rfl rfl)
  obtain ⟨a1, k1, rfl, n1, m1, t1, b1, _⟩ := Go.Eng.open_row (ks := [.int .i32]) Tryz.underlying23 (ElT.one Tryz.underlying21 (by kernel_rfl)) (by decide) (of_decide_eq_true (by kernel_rfl)) (by kernel_rfl) (hval 1 23 v1 rfl rfl) h1 (weights_of (gs := []) hw (j := 1) (t := 23) rfl rfl)
  obtain ⟨a2, rfl, rfl, rfl, w2⟩ := open_int Tryz.underlying5 (hval 2 5 v2 rfl rfl) h2
  clear hA0 hval0
  refine (walk W a0 k0 n0 m0 t0 b0 a1 k1 n1 m1 t1 b1 a2 w2 (tabIs0 hL)).mono fun e W' ⟨he, hg⟩ => ?_
  subst he
  have hin0 : ∀ x ∈ p0, x ∈ p0 ++ (p1 ++ ([] ++ [])) ++ [] := fun x hx => by simp [hx]
  have hlt0 : ∀ x ∈ p0, x.block < W.heap.size := fun x hx => by simpa using hW'.lt x (by simp [hx])
  have hin1 : ∀ x ∈ p1, x ∈ p0 ++ (p1 ++ ([] ++ [])) ++ [] := fun x hx => by simp [hx]
  have hlt1 : ∀ x ∈ p1, x.block < W.heap.size := fun x hx => by simpa using hW'.lt x (by simp [hx])
  exact ⟨_, rfl, post_below (pa := _) (pv := []) hW' hg (fun _ _ _ => (trodAll_cons_mk (shut_bool Tryz.underlying4 _) trodAll_mk0)) (fun sp hsp => (trodAll_cons_mk (WideElems.Trod_stays laidOut (by kernel_rfl) (of_decide_eq_true (by kernel_rfl)) h0k (fun x hx => hg.same (hlt0 x hx)) (fun x hx => hsp x (hin0 x hx))) (trodAll_cons_mk (WideElems.Trod_stays laidOut (by kernel_rfl) (of_decide_eq_true (by kernel_rfl)) h1k (fun x hx => hg.same (hlt1 x hx)) (fun x hx => hsp x (hin1 x hx))) (trodAll_cons_mk (shut_int Tryz.underlying5 w2) trodAll_mk0)))) (fun _ _ => rfl) (by simp)
    (ok_one (by kernel_rfl) rfl (okWide_bool_mk Tryz.underlying4 _))⟩

theorem over : Rows.coreCostsRow.holds Tryz.pinned (OpenSpec.ofChange Rows.coreCostsSpec) :=
  OpenClaim.holds_of_wide 5 Tryz.f5 rfl rfl rfl rfl rfl rfl rfl ⟨rfl, rfl, rfl, rfl, rfl⟩ rfl rfl rfl rfl rfl (by kernel_rfl) Tryz.func5 (by kernel_rfl)
    (of_decide_eq_true (by kernel_rfl)) (by unfold Func.isWrapper; first | (rw [if_pos (by decide +kernel)]; kernel_rfl) | (rw [if_neg (by decide +kernel)]; exact ⟨rfl, rfl⟩))
    (fun os started H enc _ => lifted os started H enc)

/-- the statement -/
theorem proved : Rows.CoreCostsCardSaid :=
  Claim7.holds_tied_plain_at .later [] [.data] true (true, "7bdb080db6dc5a3609dbd5a4da12b96889c0bfa1a2f606d6fb63f8b31670d652") false
    over (fun _ h => by cases h) (by kernel_rfl) (fun _ h => by cases h) coreCosts_row_tie rfl ⟨rfl, rfl⟩ (by kernel_rfl) rfl
    (fun f fn hf hfn => by
      obtain rfl : f = 5 := Option.some.inj ((show Tryz.prog.funcNamed "astrolabe/astrolabelaw16.CoreCosts" = some 5 by kernel_rfl).symm.trans hf) |>.symm
      obtain rfl : fn = Tryz.f5 := (Option.some.inj (Tryz.func5.symm.trans hfn)).symm
      exact ⟨by kernel_rfl, fun j t ht => by
        rw [Tryz.params5] at ht
        have h3 : t = 5 ∨ t = 22 ∨ t = 23 := by
          rcases j with _ | _ | _ | j
          · exact (.inr (.inl (by simpa using ht.symm)))
          · exact (.inr (.inr (by simpa using ht.symm)))
          · exact (.inl (by simpa using ht.symm))
          · simp at ht
        rcases h3 with rfl | rfl | rfl
        · exact (show Tryz.prog.wantsStandIn 5 = false by kernel_rfl)
        · exact (show Tryz.prog.wantsStandIn 22 = false by kernel_rfl)
        · exact (show Tryz.prog.wantsStandIn 23 = false by kernel_rfl)⟩)
    (by kernel_rfl)
#print axioms proved
end Go.Proofs.YtlhcaeakfbokmaaGreatDoor.coreCosts
