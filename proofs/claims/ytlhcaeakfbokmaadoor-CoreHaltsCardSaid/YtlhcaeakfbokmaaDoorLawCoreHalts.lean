/-
  The law CoreHalts answers true at every input: the law is run by the engine (a symbolic run, proved sound), the tree of its answers, as a plain statement, is shown to hold. No condition.
-/
import Derived.Test.YtlhcaeakfbokmaaDoorGab
import Derived.Test.YtlhcaeakfbokmaaDoorGib
import Derived.Test.YtlhcaeakfbokmaaDoorCCRun0
import Derived.Test.YtlhcaeakfbokmaaDoorCCRunM
import Derived.Test.YtlhcaeakfbokmaaDoorCCRunN
import Derived.Test.YtlhcaeakfbokmaaDoorCCStepN
import Derived.Test.YtlhcaeakfbokmaaDoorCCPoke
import Derived.Test.YtlhcaeakfbokmaaDoorCCLoad
import Derived.Test.YtlhcaeakfbokmaaDoorCCDec
import Derived.Test.YtlhcaeakfbokmaaDoorCAwake16
import Derived.Test.YtlhcaeakfbokmaaDoorGmC
import Derived.WalkKit
import Derived.ProofKit
import Derived.OpenShut
import Derived.LaidMore
import Derived.Stop.Joined
import Derived.SevenTiedAt
import Derived.SizedLaws
import Derived.Lay
import Derived.Test.YtlhcaeakfbokmaaDoorCards
import Derived.Test.YtlhcaeakfbokmaaDoorTie
namespace Go.Proofs.YtlhcaeakfbokmaaDoor.coreHalts
open Go.ChangeShapes Go.WideShapes Go.ChangeAt Go.Eng Go.RowKit
set_option linter.unusedVariables false
set_option linter.unusedSimpArgs false
set_option maxRecDepth 100000
def rc : Rc := ⟨3, [none, none, none, none, none], [.row [.int .u32] 140737488355328, .row [.int .i32] 140737488355328, .int .i64, .int .i64, .int .i32], [], .one, [.bool (.c 1)]⟩
theorem okb : rc.ok = true := by kernel_rfl
noncomputable def us : SMs := fun Γ ins n => smH (cxG n Γ ins) [CCRun0.rk.rh, CCRunM.rk.rh, CCRunN.rk.rh, CCStepN.rk.rh, CCPoke.rk.rh, CCLoad.rk.rh] (smAnd 20 (libClone20 Γ ins n) (smR (cxG n Γ ins) [CCDec.rc, CAwake16.rc]))
theorem us_ok : SMsOk us := fun Γ ins n => smH_ok (tabsG n Γ ins) (rhs_cons CCRun0.okh (rh_n CCRun0.ok) (rhs_cons CCRunM.okh (rh_n CCRunM.ok) (rhs_cons CCRunN.okh (rh_n CCRunN.ok) (rhs_cons CCStepN.okh (rh_n CCStepN.ok) (rhs_cons CCPoke.okh (rh_n CCPoke.ok) (rhs_cons CCLoad.okh (rh_n CCLoad.ok) (rhs_nil _))))))) (smAnd_ok (libClone20_ok Γ ins n) (smR_ok (tabsG n Γ ins) (rcs_cons CCDec.okb (rc_n CCDec.ok) (rcs_cons CAwake16.okb (rc_n CAwake16.ok) (rcs_nil _)))))
def tree : TT (List E) :=
(.br (.b .lt .i64 (.c 20000) (.v 0))
  (.leaf [(.c 1)])
  (.br (.b .lt .i64 (.c 3000) (.v 1))
  (.leaf [(.c 1)])
  (.br (.b .lt .i64 (.c 2048) (.v 1))
  (.br (.b .lt .i64 (.c 16384) (.v 0))
  (.leaf [(.c 1)])
  (.leaf [(.c 1)]))
  (.br (.b .le .i64 (.v 1) (.c 1000000))
  (.br (.b .lt .i64 (.c 16384) (.v 0))
  (.leaf [(.c 1)])
  (.loop ⟨1000, [some (0, 4611686018427387904), none, some (0, 1000000)], [(.c 0), (.c 0), (.c 0)], 1010⟩
  (.br (.b .lt .i64 (.cl 1000 0 4611686018427387904) (.v 0))
  (.new 1004 (.f 67 (.w .u32 (.f 13 (.v 5) (.cl 1000 0 4611686018427387904) (.c 0))) (.c 0) (.c 0))
  (.new 1005 (.f 67 (.w .u32 (.f 13 (.v 5) (.cl 1000 0 4611686018427387904) (.c 0))) (.c 1) (.c 0))
  (.new 1006 (.f 67 (.w .u32 (.f 13 (.v 5) (.cl 1000 0 4611686018427387904) (.c 0))) (.c 2) (.c 0))
  (.new 1007 (.f 67 (.w .u32 (.f 13 (.v 5) (.cl 1000 0 4611686018427387904) (.c 0))) (.c 3) (.c 0))
  (.new 1008 (.f 67 (.w .u32 (.f 13 (.v 5) (.cl 1000 0 4611686018427387904) (.c 0))) (.c 4) (.c 0))
  (.new 1009 (.f 67 (.w .u32 (.f 13 (.v 5) (.cl 1000 0 4611686018427387904) (.c 0))) (.c 5) (.c 0))
  (.br (.b .le .i64 (.b .padd .i64 (.cl 1002 0 1000000) (.c 1)) (.c 1000000))
  (.br (.b .le .i64 (.b .padd .i64 (.cl 1000 0 4611686018427387904) (.c 1)) (.c 4611686018427387904))
  (.br (.b .le .i64 (.b .padd .i64 (.cl 1002 0 1000000) (.c 1)) (.c 1000000))
  (.back [(.b .padd .i64 (.cl 1000 0 4611686018427387904) (.c 1)), (.f 14 (.v 1001) (.cl 1002 0 1000000) (.f 11 (.cl 1004 (-32768) 65535) (.f 11 (.cl 1005 (-32768) 65535) (.f 11 (.cl 1006 (-32768) 65535) (.f 11 (.cl 1007 (-32768) 65535) (.f 11 (.cl 1008 (-32768) 65535) (.f 11 (.b .eq .i64 (.cl 1009 (-32768) 65535) (.c 0)) (.c 0) (.c 0)) (.c 0)) (.c 0)) (.c 0)) (.c 0)) (.c 0))), (.b .padd .i64 (.cl 1002 0 1000000) (.c 1))])
  (.bad 303))
  (.bad 303))
  (.bad 200))))))))
  (.exit 0))
  (.br (.b .le .i64 (.cl 1002 0 1000000) (.c 16384))
  (.br (.b .le .i64 (.v 1) (.c 2048))
  (.br (.f 68 (.v 1001) (.cl 1002 0 1000000) (.c 0))
  (.new 1012 (.w .i64 (.f 13 (.f 73 (.v 1001) (.cl 1002 0 1000000) (.f 11 (.v 1) (.f 11 (.b .min .i64 (.v 2) (.c 300)) (.f 11 (.f 74 (.v 6) (.c 0) (.c 0)) (.c 0) (.c 0)) (.c 0)) (.c 0))) (.c 2) (.c 0)))
  (.new 1013 (.w .i64 (.f 13 (.f 73 (.v 1001) (.cl 1002 0 1000000) (.f 11 (.v 1) (.f 11 (.b .min .i64 (.v 2) (.c 300)) (.f 11 (.f 74 (.v 6) (.c 0) (.c 0)) (.c 0) (.c 0)) (.c 0)) (.c 0))) (.c 3) (.c 0)))
  (.new 1014 (.w .i64 (.f 13 (.f 73 (.v 1001) (.cl 1002 0 1000000) (.f 11 (.v 1) (.f 11 (.b .min .i64 (.v 2) (.c 300)) (.f 11 (.f 74 (.v 6) (.c 0) (.c 0)) (.c 0) (.c 0)) (.c 0)) (.c 0))) (.c 4) (.c 0)))
  (.new 1015 (.f 75 (.f 73 (.v 1001) (.cl 1002 0 1000000) (.f 11 (.v 1) (.f 11 (.b .min .i64 (.v 2) (.c 300)) (.f 11 (.f 74 (.v 6) (.c 0) (.c 0)) (.c 0) (.c 0)) (.c 0)) (.c 0))) (.c 0) (.c 0))
  (.br (.b .le .i64 (.c 0) (.v 3))
  (.br (.b .ne .i64 (.nt (.b .pmul .i64 (.b .le .i64 (.c 0) (.v 3)) (.b .lt .i64 (.v 3) (.v 1)))) (.nt (.b .lt .i64 (.v 3) (.v 1))))
  (.leaf [(.c 0)])
  (.br (.b .pmul .i64 (.b .le .i64 (.c 0) (.v 3)) (.b .lt .i64 (.v 3) (.v 1)))
  (.br (.b .ne .i64 (.ite (.b .pmul .i64 (.b .le .i64 (.c 0) (.v 3)) (.b .lt .i64 (.v 3) (.v 1))) (.w .i32 (.f 13 (.ite (.b .pmul .i64 (.b .le .i64 (.c 0) (.v 3)) (.b .lt .i64 (.v 3) (.v 1))) (.f 14 (.f 13 (.f 73 (.v 1001) (.cl 1002 0 1000000) (.f 11 (.v 1) (.f 11 (.b .min .i64 (.v 2) (.c 300)) (.f 11 (.f 74 (.v 6) (.c 0) (.c 0)) (.c 0) (.c 0)) (.c 0)) (.c 0))) (.c 1) (.c 0)) (.v 3) (.v 4)) (.f 13 (.f 73 (.v 1001) (.cl 1002 0 1000000) (.f 11 (.v 1) (.f 11 (.b .min .i64 (.v 2) (.c 300)) (.f 11 (.f 74 (.v 6) (.c 0) (.c 0)) (.c 0) (.c 0)) (.c 0)) (.c 0))) (.c 1) (.c 0))) (.v 3) (.c 0))) (.c 0)) (.v 4))
  (.leaf [(.c 0)])
  (.br (.b .ne .i64 (.w .i64 (.f 13 (.f 73 (.v 1001) (.cl 1002 0 1000000) (.f 11 (.v 1) (.f 11 (.b .min .i64 (.v 2) (.c 300)) (.f 11 (.f 74 (.v 6) (.c 0) (.c 0)) (.c 0) (.c 0)) (.c 0)) (.c 0))) (.c 3) (.c 0))) (.c 0))
  (.br (.cl 1013 (-9223372036854775808) 9223372036854775807)
  (.br (.b .eq .i64 (.w .i64 (.f 13 (.f 73 (.v 1001) (.cl 1002 0 1000000) (.f 11 (.v 1) (.f 11 (.b .min .i64 (.v 2) (.c 300)) (.f 11 (.f 74 (.v 6) (.c 0) (.c 0)) (.c 0) (.c 0)) (.c 0)) (.c 0))) (.c 3) (.c 0))) (.c 0))
  (.leaf [(.c 1)])
  (.br (.b .eq .i64 (.cl 1014 (-9223372036854775808) 9223372036854775807) (.w .i64 (.f 13 (.f 73 (.v 1001) (.cl 1002 0 1000000) (.f 11 (.v 1) (.f 11 (.b .min .i64 (.v 2) (.c 300)) (.f 11 (.f 74 (.v 6) (.c 0) (.c 0)) (.c 0) (.c 0)) (.c 0)) (.c 0))) (.c 4) (.c 0))))
  (.br (.b .eq .i64 (.cl 1012 (-9223372036854775808) 9223372036854775807) (.w .i64 (.f 13 (.f 73 (.v 1001) (.cl 1002 0 1000000) (.f 11 (.v 1) (.f 11 (.b .min .i64 (.v 2) (.c 300)) (.f 11 (.f 74 (.v 6) (.c 0) (.c 0)) (.c 0) (.c 0)) (.c 0)) (.c 0))) (.c 2) (.c 0))))
  (.br (.b .eq .i64 (.cl 1015 0 999999) (.f 75 (.f 73 (.v 1001) (.cl 1002 0 1000000) (.f 11 (.v 1) (.f 11 (.b .min .i64 (.v 2) (.c 300)) (.f 11 (.f 74 (.v 6) (.c 0) (.c 0)) (.c 0) (.c 0)) (.c 0)) (.c 0))) (.c 0) (.c 0)))
  (.leaf [(.c 1)])
  (.leaf [(.c 0)]))
  (.leaf [(.c 0)]))
  (.leaf [(.c 0)])))
  (.bad 200))
  (.br (.b .eq .i64 (.w .i64 (.f 13 (.f 73 (.v 1001) (.cl 1002 0 1000000) (.f 11 (.v 1) (.f 11 (.b .min .i64 (.v 2) (.c 300)) (.f 11 (.f 74 (.v 6) (.c 0) (.c 0)) (.c 0) (.c 0)) (.c 0)) (.c 0))) (.c 3) (.c 0))) (.c 0))
  (.leaf [(.c 1)])
  (.br (.b .eq .i64 (.cl 1014 (-9223372036854775808) 9223372036854775807) (.w .i64 (.f 13 (.f 73 (.v 1001) (.cl 1002 0 1000000) (.f 11 (.v 1) (.f 11 (.b .min .i64 (.v 2) (.c 300)) (.f 11 (.f 74 (.v 6) (.c 0) (.c 0)) (.c 0) (.c 0)) (.c 0)) (.c 0))) (.c 4) (.c 0))))
  (.br (.b .eq .i64 (.cl 1012 (-9223372036854775808) 9223372036854775807) (.w .i64 (.f 13 (.f 73 (.v 1001) (.cl 1002 0 1000000) (.f 11 (.v 1) (.f 11 (.b .min .i64 (.v 2) (.c 300)) (.f 11 (.f 74 (.v 6) (.c 0) (.c 0)) (.c 0) (.c 0)) (.c 0)) (.c 0))) (.c 2) (.c 0))))
  (.br (.b .eq .i64 (.cl 1015 0 999999) (.f 75 (.f 73 (.v 1001) (.cl 1002 0 1000000) (.f 11 (.v 1) (.f 11 (.b .min .i64 (.v 2) (.c 300)) (.f 11 (.f 74 (.v 6) (.c 0) (.c 0)) (.c 0) (.c 0)) (.c 0)) (.c 0))) (.c 0) (.c 0)))
  (.leaf [(.c 1)])
  (.leaf [(.c 0)]))
  (.leaf [(.c 0)]))
  (.leaf [(.c 0)])))))
  (.br (.b .ne .i64 (.ite (.b .pmul .i64 (.b .le .i64 (.c 0) (.v 3)) (.b .lt .i64 (.v 3) (.v 1))) (.w .i32 (.f 13 (.ite (.b .pmul .i64 (.b .le .i64 (.c 0) (.v 3)) (.b .lt .i64 (.v 3) (.v 1))) (.f 14 (.f 13 (.f 73 (.v 1001) (.cl 1002 0 1000000) (.f 11 (.v 1) (.f 11 (.b .min .i64 (.v 2) (.c 300)) (.f 11 (.f 74 (.v 6) (.c 0) (.c 0)) (.c 0) (.c 0)) (.c 0)) (.c 0))) (.c 1) (.c 0)) (.v 3) (.v 4)) (.f 13 (.f 73 (.v 1001) (.cl 1002 0 1000000) (.f 11 (.v 1) (.f 11 (.b .min .i64 (.v 2) (.c 300)) (.f 11 (.f 74 (.v 6) (.c 0) (.c 0)) (.c 0) (.c 0)) (.c 0)) (.c 0))) (.c 1) (.c 0))) (.v 3) (.c 0))) (.c 0)) (.c 0))
  (.leaf [(.c 0)])
  (.br (.b .ne .i64 (.w .i64 (.f 13 (.f 73 (.v 1001) (.cl 1002 0 1000000) (.f 11 (.v 1) (.f 11 (.b .min .i64 (.v 2) (.c 300)) (.f 11 (.f 74 (.v 6) (.c 0) (.c 0)) (.c 0) (.c 0)) (.c 0)) (.c 0))) (.c 3) (.c 0))) (.c 0))
  (.br (.cl 1013 (-9223372036854775808) 9223372036854775807)
  (.br (.b .eq .i64 (.w .i64 (.f 13 (.f 73 (.v 1001) (.cl 1002 0 1000000) (.f 11 (.v 1) (.f 11 (.b .min .i64 (.v 2) (.c 300)) (.f 11 (.f 74 (.v 6) (.c 0) (.c 0)) (.c 0) (.c 0)) (.c 0)) (.c 0))) (.c 3) (.c 0))) (.c 0))
  (.leaf [(.c 1)])
  (.br (.b .eq .i64 (.cl 1014 (-9223372036854775808) 9223372036854775807) (.w .i64 (.f 13 (.f 73 (.v 1001) (.cl 1002 0 1000000) (.f 11 (.v 1) (.f 11 (.b .min .i64 (.v 2) (.c 300)) (.f 11 (.f 74 (.v 6) (.c 0) (.c 0)) (.c 0) (.c 0)) (.c 0)) (.c 0))) (.c 4) (.c 0))))
  (.br (.b .eq .i64 (.cl 1012 (-9223372036854775808) 9223372036854775807) (.w .i64 (.f 13 (.f 73 (.v 1001) (.cl 1002 0 1000000) (.f 11 (.v 1) (.f 11 (.b .min .i64 (.v 2) (.c 300)) (.f 11 (.f 74 (.v 6) (.c 0) (.c 0)) (.c 0) (.c 0)) (.c 0)) (.c 0))) (.c 2) (.c 0))))
  (.br (.b .eq .i64 (.cl 1015 0 999999) (.f 75 (.f 73 (.v 1001) (.cl 1002 0 1000000) (.f 11 (.v 1) (.f 11 (.b .min .i64 (.v 2) (.c 300)) (.f 11 (.f 74 (.v 6) (.c 0) (.c 0)) (.c 0) (.c 0)) (.c 0)) (.c 0))) (.c 0) (.c 0)))
  (.leaf [(.c 1)])
  (.leaf [(.c 0)]))
  (.leaf [(.c 0)]))
  (.leaf [(.c 0)])))
  (.bad 200))
  (.br (.b .eq .i64 (.w .i64 (.f 13 (.f 73 (.v 1001) (.cl 1002 0 1000000) (.f 11 (.v 1) (.f 11 (.b .min .i64 (.v 2) (.c 300)) (.f 11 (.f 74 (.v 6) (.c 0) (.c 0)) (.c 0) (.c 0)) (.c 0)) (.c 0))) (.c 3) (.c 0))) (.c 0))
  (.leaf [(.c 1)])
  (.br (.b .eq .i64 (.cl 1014 (-9223372036854775808) 9223372036854775807) (.w .i64 (.f 13 (.f 73 (.v 1001) (.cl 1002 0 1000000) (.f 11 (.v 1) (.f 11 (.b .min .i64 (.v 2) (.c 300)) (.f 11 (.f 74 (.v 6) (.c 0) (.c 0)) (.c 0) (.c 0)) (.c 0)) (.c 0))) (.c 4) (.c 0))))
  (.br (.b .eq .i64 (.cl 1012 (-9223372036854775808) 9223372036854775807) (.w .i64 (.f 13 (.f 73 (.v 1001) (.cl 1002 0 1000000) (.f 11 (.v 1) (.f 11 (.b .min .i64 (.v 2) (.c 300)) (.f 11 (.f 74 (.v 6) (.c 0) (.c 0)) (.c 0) (.c 0)) (.c 0)) (.c 0))) (.c 2) (.c 0))))
  (.br (.b .eq .i64 (.cl 1015 0 999999) (.f 75 (.f 73 (.v 1001) (.cl 1002 0 1000000) (.f 11 (.v 1) (.f 11 (.b .min .i64 (.v 2) (.c 300)) (.f 11 (.f 74 (.v 6) (.c 0) (.c 0)) (.c 0) (.c 0)) (.c 0)) (.c 0))) (.c 0) (.c 0)))
  (.leaf [(.c 1)])
  (.leaf [(.c 0)]))
  (.leaf [(.c 0)]))
  (.leaf [(.c 0)])))))))
  (.br (.b .ne .i64 (.nt (.b .pmul .i64 (.b .le .i64 (.c 0) (.v 3)) (.b .lt .i64 (.v 3) (.v 1)))) (.c 1))
  (.leaf [(.c 0)])
  (.br (.b .pmul .i64 (.b .le .i64 (.c 0) (.v 3)) (.b .lt .i64 (.v 3) (.v 1)))
  (.br (.b .ne .i64 (.ite (.b .pmul .i64 (.b .le .i64 (.c 0) (.v 3)) (.b .lt .i64 (.v 3) (.v 1))) (.w .i32 (.f 13 (.ite (.b .pmul .i64 (.b .le .i64 (.c 0) (.v 3)) (.b .lt .i64 (.v 3) (.v 1))) (.f 14 (.f 13 (.f 73 (.v 1001) (.cl 1002 0 1000000) (.f 11 (.v 1) (.f 11 (.b .min .i64 (.v 2) (.c 300)) (.f 11 (.f 74 (.v 6) (.c 0) (.c 0)) (.c 0) (.c 0)) (.c 0)) (.c 0))) (.c 1) (.c 0)) (.v 3) (.v 4)) (.f 13 (.f 73 (.v 1001) (.cl 1002 0 1000000) (.f 11 (.v 1) (.f 11 (.b .min .i64 (.v 2) (.c 300)) (.f 11 (.f 74 (.v 6) (.c 0) (.c 0)) (.c 0) (.c 0)) (.c 0)) (.c 0))) (.c 1) (.c 0))) (.v 3) (.c 0))) (.c 0)) (.v 4))
  (.leaf [(.c 0)])
  (.br (.b .ne .i64 (.w .i64 (.f 13 (.f 73 (.v 1001) (.cl 1002 0 1000000) (.f 11 (.v 1) (.f 11 (.b .min .i64 (.v 2) (.c 300)) (.f 11 (.f 74 (.v 6) (.c 0) (.c 0)) (.c 0) (.c 0)) (.c 0)) (.c 0))) (.c 3) (.c 0))) (.c 0))
  (.br (.cl 1013 (-9223372036854775808) 9223372036854775807)
  (.br (.b .eq .i64 (.w .i64 (.f 13 (.f 73 (.v 1001) (.cl 1002 0 1000000) (.f 11 (.v 1) (.f 11 (.b .min .i64 (.v 2) (.c 300)) (.f 11 (.f 74 (.v 6) (.c 0) (.c 0)) (.c 0) (.c 0)) (.c 0)) (.c 0))) (.c 3) (.c 0))) (.c 0))
  (.leaf [(.c 1)])
  (.br (.b .eq .i64 (.cl 1014 (-9223372036854775808) 9223372036854775807) (.w .i64 (.f 13 (.f 73 (.v 1001) (.cl 1002 0 1000000) (.f 11 (.v 1) (.f 11 (.b .min .i64 (.v 2) (.c 300)) (.f 11 (.f 74 (.v 6) (.c 0) (.c 0)) (.c 0) (.c 0)) (.c 0)) (.c 0))) (.c 4) (.c 0))))
  (.br (.b .eq .i64 (.cl 1012 (-9223372036854775808) 9223372036854775807) (.w .i64 (.f 13 (.f 73 (.v 1001) (.cl 1002 0 1000000) (.f 11 (.v 1) (.f 11 (.b .min .i64 (.v 2) (.c 300)) (.f 11 (.f 74 (.v 6) (.c 0) (.c 0)) (.c 0) (.c 0)) (.c 0)) (.c 0))) (.c 2) (.c 0))))
  (.br (.b .eq .i64 (.cl 1015 0 999999) (.f 75 (.f 73 (.v 1001) (.cl 1002 0 1000000) (.f 11 (.v 1) (.f 11 (.b .min .i64 (.v 2) (.c 300)) (.f 11 (.f 74 (.v 6) (.c 0) (.c 0)) (.c 0) (.c 0)) (.c 0)) (.c 0))) (.c 0) (.c 0)))
  (.leaf [(.c 1)])
  (.leaf [(.c 0)]))
  (.leaf [(.c 0)]))
  (.leaf [(.c 0)])))
  (.bad 200))
  (.br (.b .eq .i64 (.w .i64 (.f 13 (.f 73 (.v 1001) (.cl 1002 0 1000000) (.f 11 (.v 1) (.f 11 (.b .min .i64 (.v 2) (.c 300)) (.f 11 (.f 74 (.v 6) (.c 0) (.c 0)) (.c 0) (.c 0)) (.c 0)) (.c 0))) (.c 3) (.c 0))) (.c 0))
  (.leaf [(.c 1)])
  (.br (.b .eq .i64 (.cl 1014 (-9223372036854775808) 9223372036854775807) (.w .i64 (.f 13 (.f 73 (.v 1001) (.cl 1002 0 1000000) (.f 11 (.v 1) (.f 11 (.b .min .i64 (.v 2) (.c 300)) (.f 11 (.f 74 (.v 6) (.c 0) (.c 0)) (.c 0) (.c 0)) (.c 0)) (.c 0))) (.c 4) (.c 0))))
  (.br (.b .eq .i64 (.cl 1012 (-9223372036854775808) 9223372036854775807) (.w .i64 (.f 13 (.f 73 (.v 1001) (.cl 1002 0 1000000) (.f 11 (.v 1) (.f 11 (.b .min .i64 (.v 2) (.c 300)) (.f 11 (.f 74 (.v 6) (.c 0) (.c 0)) (.c 0) (.c 0)) (.c 0)) (.c 0))) (.c 2) (.c 0))))
  (.br (.b .eq .i64 (.cl 1015 0 999999) (.f 75 (.f 73 (.v 1001) (.cl 1002 0 1000000) (.f 11 (.v 1) (.f 11 (.b .min .i64 (.v 2) (.c 300)) (.f 11 (.f 74 (.v 6) (.c 0) (.c 0)) (.c 0) (.c 0)) (.c 0)) (.c 0))) (.c 0) (.c 0)))
  (.leaf [(.c 1)])
  (.leaf [(.c 0)]))
  (.leaf [(.c 0)]))
  (.leaf [(.c 0)])))))
  (.br (.b .ne .i64 (.ite (.b .pmul .i64 (.b .le .i64 (.c 0) (.v 3)) (.b .lt .i64 (.v 3) (.v 1))) (.w .i32 (.f 13 (.ite (.b .pmul .i64 (.b .le .i64 (.c 0) (.v 3)) (.b .lt .i64 (.v 3) (.v 1))) (.f 14 (.f 13 (.f 73 (.v 1001) (.cl 1002 0 1000000) (.f 11 (.v 1) (.f 11 (.b .min .i64 (.v 2) (.c 300)) (.f 11 (.f 74 (.v 6) (.c 0) (.c 0)) (.c 0) (.c 0)) (.c 0)) (.c 0))) (.c 1) (.c 0)) (.v 3) (.v 4)) (.f 13 (.f 73 (.v 1001) (.cl 1002 0 1000000) (.f 11 (.v 1) (.f 11 (.b .min .i64 (.v 2) (.c 300)) (.f 11 (.f 74 (.v 6) (.c 0) (.c 0)) (.c 0) (.c 0)) (.c 0)) (.c 0))) (.c 1) (.c 0))) (.v 3) (.c 0))) (.c 0)) (.c 0))
  (.leaf [(.c 0)])
  (.br (.b .ne .i64 (.w .i64 (.f 13 (.f 73 (.v 1001) (.cl 1002 0 1000000) (.f 11 (.v 1) (.f 11 (.b .min .i64 (.v 2) (.c 300)) (.f 11 (.f 74 (.v 6) (.c 0) (.c 0)) (.c 0) (.c 0)) (.c 0)) (.c 0))) (.c 3) (.c 0))) (.c 0))
  (.br (.cl 1013 (-9223372036854775808) 9223372036854775807)
  (.br (.b .eq .i64 (.w .i64 (.f 13 (.f 73 (.v 1001) (.cl 1002 0 1000000) (.f 11 (.v 1) (.f 11 (.b .min .i64 (.v 2) (.c 300)) (.f 11 (.f 74 (.v 6) (.c 0) (.c 0)) (.c 0) (.c 0)) (.c 0)) (.c 0))) (.c 3) (.c 0))) (.c 0))
  (.leaf [(.c 1)])
  (.br (.b .eq .i64 (.cl 1014 (-9223372036854775808) 9223372036854775807) (.w .i64 (.f 13 (.f 73 (.v 1001) (.cl 1002 0 1000000) (.f 11 (.v 1) (.f 11 (.b .min .i64 (.v 2) (.c 300)) (.f 11 (.f 74 (.v 6) (.c 0) (.c 0)) (.c 0) (.c 0)) (.c 0)) (.c 0))) (.c 4) (.c 0))))
  (.br (.b .eq .i64 (.cl 1012 (-9223372036854775808) 9223372036854775807) (.w .i64 (.f 13 (.f 73 (.v 1001) (.cl 1002 0 1000000) (.f 11 (.v 1) (.f 11 (.b .min .i64 (.v 2) (.c 300)) (.f 11 (.f 74 (.v 6) (.c 0) (.c 0)) (.c 0) (.c 0)) (.c 0)) (.c 0))) (.c 2) (.c 0))))
  (.br (.b .eq .i64 (.cl 1015 0 999999) (.f 75 (.f 73 (.v 1001) (.cl 1002 0 1000000) (.f 11 (.v 1) (.f 11 (.b .min .i64 (.v 2) (.c 300)) (.f 11 (.f 74 (.v 6) (.c 0) (.c 0)) (.c 0) (.c 0)) (.c 0)) (.c 0))) (.c 0) (.c 0)))
  (.leaf [(.c 1)])
  (.leaf [(.c 0)]))
  (.leaf [(.c 0)]))
  (.leaf [(.c 0)])))
  (.bad 200))
  (.br (.b .eq .i64 (.w .i64 (.f 13 (.f 73 (.v 1001) (.cl 1002 0 1000000) (.f 11 (.v 1) (.f 11 (.b .min .i64 (.v 2) (.c 300)) (.f 11 (.f 74 (.v 6) (.c 0) (.c 0)) (.c 0) (.c 0)) (.c 0)) (.c 0))) (.c 3) (.c 0))) (.c 0))
  (.leaf [(.c 1)])
  (.br (.b .eq .i64 (.cl 1014 (-9223372036854775808) 9223372036854775807) (.w .i64 (.f 13 (.f 73 (.v 1001) (.cl 1002 0 1000000) (.f 11 (.v 1) (.f 11 (.b .min .i64 (.v 2) (.c 300)) (.f 11 (.f 74 (.v 6) (.c 0) (.c 0)) (.c 0) (.c 0)) (.c 0)) (.c 0))) (.c 4) (.c 0))))
  (.br (.b .eq .i64 (.cl 1012 (-9223372036854775808) 9223372036854775807) (.w .i64 (.f 13 (.f 73 (.v 1001) (.cl 1002 0 1000000) (.f 11 (.v 1) (.f 11 (.b .min .i64 (.v 2) (.c 300)) (.f 11 (.f 74 (.v 6) (.c 0) (.c 0)) (.c 0) (.c 0)) (.c 0)) (.c 0))) (.c 2) (.c 0))))
  (.br (.b .eq .i64 (.cl 1015 0 999999) (.f 75 (.f 73 (.v 1001) (.cl 1002 0 1000000) (.f 11 (.v 1) (.f 11 (.b .min .i64 (.v 2) (.c 300)) (.f 11 (.f 74 (.v 6) (.c 0) (.c 0)) (.c 0) (.c 0)) (.c 0)) (.c 0))) (.c 0) (.c 0)))
  (.leaf [(.c 1)])
  (.leaf [(.c 0)]))
  (.leaf [(.c 0)]))
  (.leaf [(.c 0)]))))))))))))
  (.bad 200))
  (.bad 200))
  (.bad 200))))
  (.bad 200)))))

def P (n0 n1 p2 p3 p4 c0 c1 r0 r1 : Int) : Prop :=
 (((bool01 (decide (20000 < n0))) ≠ 0 →
  ((1 : Int) ≠ 0 ↔ (1 : Int) ≠ 0) ∧ True) ∧ ((bool01 (decide (20000 < n0))) = 0 →
  (((bool01 (decide (3000 < n1))) ≠ 0 →
   ((1 : Int) ≠ 0 ↔ (1 : Int) ≠ 0) ∧ True) ∧ ((bool01 (decide (3000 < n1))) = 0 →
   (((bool01 (decide (2048 < n1))) ≠ 0 →
    (((bool01 (decide (16384 < n0))) ≠ 0 →
     ((1 : Int) ≠ 0 ↔ (1 : Int) ≠ 0) ∧ True) ∧ ((bool01 (decide (16384 < n0))) = 0 →
     ((1 : Int) ≠ 0 ↔ (1 : Int) ≠ 0) ∧ True))) ∧ ((bool01 (decide (2048 < n1))) = 0 →
    (((bool01 (decide (n1 ≤ 1000000))) ≠ 0 →
     (((bool01 (decide (16384 < n0))) ≠ 0 →
      ((1 : Int) ≠ 0 ↔ (1 : Int) ≠ 0) ∧ True) ∧ ((bool01 (decide (16384 < n0))) = 0 →
      ∃ I1000 : Int → Int → Int → Nat → Prop, (∃ m, I1000 0 0 0 m) ∧
      ∀ y1000 y1001 y1002 : Int, ∀ m1000, ((0 ≤ y1000 ∧ y1000 ≤ 4611686018427387904) ∧ True ∧ (0 ≤ y1002 ∧ y1002 ≤ 1000000) ∧ True) → I1000 y1000 y1001 y1002 m1000 →
       (((bool01 (decide (y1000 < n0))) ≠ 0 →
        ∀ y1004 : Int, y1004 = (decZ (IntKind.wrap .u32 (rdZ c0 y1000)) 0) → ((-32768) ≤ y1004 ∧ y1004 ≤ 65535) →
        ∀ y1005 : Int, y1005 = (decZ (IntKind.wrap .u32 (rdZ c0 y1000)) 1) → ((-32768) ≤ y1005 ∧ y1005 ≤ 65535) →
        ∀ y1006 : Int, y1006 = (decZ (IntKind.wrap .u32 (rdZ c0 y1000)) 2) → ((-32768) ≤ y1006 ∧ y1006 ≤ 65535) →
        ∀ y1007 : Int, y1007 = (decZ (IntKind.wrap .u32 (rdZ c0 y1000)) 3) → ((-32768) ≤ y1007 ∧ y1007 ≤ 65535) →
        ∀ y1008 : Int, y1008 = (decZ (IntKind.wrap .u32 (rdZ c0 y1000)) 4) → ((-32768) ≤ y1008 ∧ y1008 ≤ 65535) →
        ∀ y1009 : Int, y1009 = (decZ (IntKind.wrap .u32 (rdZ c0 y1000)) 5) → ((-32768) ≤ y1009 ∧ y1009 ≤ 65535) →
        (((bool01 (decide ((y1002 + 1) ≤ 1000000))) ≠ 0 →
         (((bool01 (decide ((y1000 + 1) ≤ 4611686018427387904))) ≠ 0 →
          (((bool01 (decide ((y1002 + 1) ≤ 1000000))) ≠ 0 →
           ∃ m', m' < m1000 ∧ I1000 (y1000 + 1) (updZ y1001 y1002 (consZ y1004 (consZ y1005 (consZ y1006 (consZ y1007 (consZ y1008 (consZ (bool01 (y1009 == 0)) 0))))))) (y1002 + 1) m') ∧ ((bool01 (decide ((y1002 + 1) ≤ 1000000))) = 0 →
           False))) ∧ ((bool01 (decide ((y1000 + 1) ≤ 4611686018427387904))) = 0 →
          False))) ∧ ((bool01 (decide ((y1002 + 1) ≤ 1000000))) = 0 →
         False))) ∧ ((bool01 (decide (y1000 < n0))) = 0 →
        (((bool01 (decide (y1002 ≤ 16384))) ≠ 0 →
         (((bool01 (decide (n1 ≤ 2048))) ≠ 0 →
          (((okC y1001 y1002) ≠ 0 →
           ∀ y1012 : Int, y1012 = (IntKind.wrap .i64 (rdZ (runP y1001 y1002 (consZ n1 (consZ (minZ p2 300) (consZ (nuP c1) 0)))) 2)) → ((-9223372036854775808) ≤ y1012 ∧ y1012 ≤ 9223372036854775807) →
           ∀ y1013 : Int, y1013 = (IntKind.wrap .i64 (rdZ (runP y1001 y1002 (consZ n1 (consZ (minZ p2 300) (consZ (nuP c1) 0)))) 3)) → ((-9223372036854775808) ≤ y1013 ∧ y1013 ≤ 9223372036854775807) →
           ∀ y1014 : Int, y1014 = (IntKind.wrap .i64 (rdZ (runP y1001 y1002 (consZ n1 (consZ (minZ p2 300) (consZ (nuP c1) 0)))) 4)) → ((-9223372036854775808) ≤ y1014 ∧ y1014 ≤ 9223372036854775807) →
           ∀ y1015 : Int, y1015 = (mkN (runP y1001 y1002 (consZ n1 (consZ (minZ p2 300) (consZ (nuP c1) 0))))) → (0 ≤ y1015 ∧ y1015 ≤ 999999) →
           (((bool01 (decide (0 ≤ p3))) ≠ 0 →
            (((bool01 ((bool01 (((bool01 (decide (0 ≤ p3))) * (bool01 (decide (p3 < n1)))) == 0)) != (bool01 ((bool01 (decide (p3 < n1))) == 0)))) ≠ 0 →
             ((0 : Int) ≠ 0 ↔ (1 : Int) ≠ 0) ∧ True) ∧ ((bool01 ((bool01 (((bool01 (decide (0 ≤ p3))) * (bool01 (decide (p3 < n1)))) == 0)) != (bool01 ((bool01 (decide (p3 < n1))) == 0)))) = 0 →
             ((((bool01 (decide (0 ≤ p3))) * (bool01 (decide (p3 < n1)))) ≠ 0 →
              (((bool01 ((iteZ ((bool01 (decide (0 ≤ p3))) * (bool01 (decide (p3 < n1)))) (IntKind.wrap .i32 (rdZ (iteZ ((bool01 (decide (0 ≤ p3))) * (bool01 (decide (p3 < n1)))) (updZ (rdZ (runP y1001 y1002 (consZ n1 (consZ (minZ p2 300) (consZ (nuP c1) 0)))) 1) p3 p4) (rdZ (runP y1001 y1002 (consZ n1 (consZ (minZ p2 300) (consZ (nuP c1) 0)))) 1)) p3)) 0) != p4)) ≠ 0 →
               ((0 : Int) ≠ 0 ↔ (1 : Int) ≠ 0) ∧ True) ∧ ((bool01 ((iteZ ((bool01 (decide (0 ≤ p3))) * (bool01 (decide (p3 < n1)))) (IntKind.wrap .i32 (rdZ (iteZ ((bool01 (decide (0 ≤ p3))) * (bool01 (decide (p3 < n1)))) (updZ (rdZ (runP y1001 y1002 (consZ n1 (consZ (minZ p2 300) (consZ (nuP c1) 0)))) 1) p3 p4) (rdZ (runP y1001 y1002 (consZ n1 (consZ (minZ p2 300) (consZ (nuP c1) 0)))) 1)) p3)) 0) != p4)) = 0 →
               (((bool01 ((IntKind.wrap .i64 (rdZ (runP y1001 y1002 (consZ n1 (consZ (minZ p2 300) (consZ (nuP c1) 0)))) 3)) != 0)) ≠ 0 →
                ((y1013 ≠ 0 →
                 (((bool01 ((IntKind.wrap .i64 (rdZ (runP y1001 y1002 (consZ n1 (consZ (minZ p2 300) (consZ (nuP c1) 0)))) 3)) == 0)) ≠ 0 →
                  ((1 : Int) ≠ 0 ↔ (1 : Int) ≠ 0) ∧ True) ∧ ((bool01 ((IntKind.wrap .i64 (rdZ (runP y1001 y1002 (consZ n1 (consZ (minZ p2 300) (consZ (nuP c1) 0)))) 3)) == 0)) = 0 →
                  (((bool01 (y1014 == (IntKind.wrap .i64 (rdZ (runP y1001 y1002 (consZ n1 (consZ (minZ p2 300) (consZ (nuP c1) 0)))) 4)))) ≠ 0 →
                   (((bool01 (y1012 == (IntKind.wrap .i64 (rdZ (runP y1001 y1002 (consZ n1 (consZ (minZ p2 300) (consZ (nuP c1) 0)))) 2)))) ≠ 0 →
                    (((bool01 (y1015 == (mkN (runP y1001 y1002 (consZ n1 (consZ (minZ p2 300) (consZ (nuP c1) 0))))))) ≠ 0 →
                     ((1 : Int) ≠ 0 ↔ (1 : Int) ≠ 0) ∧ True) ∧ ((bool01 (y1015 == (mkN (runP y1001 y1002 (consZ n1 (consZ (minZ p2 300) (consZ (nuP c1) 0))))))) = 0 →
                     ((0 : Int) ≠ 0 ↔ (1 : Int) ≠ 0) ∧ True))) ∧ ((bool01 (y1012 == (IntKind.wrap .i64 (rdZ (runP y1001 y1002 (consZ n1 (consZ (minZ p2 300) (consZ (nuP c1) 0)))) 2)))) = 0 →
                    ((0 : Int) ≠ 0 ↔ (1 : Int) ≠ 0) ∧ True))) ∧ ((bool01 (y1014 == (IntKind.wrap .i64 (rdZ (runP y1001 y1002 (consZ n1 (consZ (minZ p2 300) (consZ (nuP c1) 0)))) 4)))) = 0 →
                   ((0 : Int) ≠ 0 ↔ (1 : Int) ≠ 0) ∧ True))))) ∧ (y1013 = 0 →
                 False))) ∧ ((bool01 ((IntKind.wrap .i64 (rdZ (runP y1001 y1002 (consZ n1 (consZ (minZ p2 300) (consZ (nuP c1) 0)))) 3)) != 0)) = 0 →
                (((bool01 ((IntKind.wrap .i64 (rdZ (runP y1001 y1002 (consZ n1 (consZ (minZ p2 300) (consZ (nuP c1) 0)))) 3)) == 0)) ≠ 0 →
                 ((1 : Int) ≠ 0 ↔ (1 : Int) ≠ 0) ∧ True) ∧ ((bool01 ((IntKind.wrap .i64 (rdZ (runP y1001 y1002 (consZ n1 (consZ (minZ p2 300) (consZ (nuP c1) 0)))) 3)) == 0)) = 0 →
                 (((bool01 (y1014 == (IntKind.wrap .i64 (rdZ (runP y1001 y1002 (consZ n1 (consZ (minZ p2 300) (consZ (nuP c1) 0)))) 4)))) ≠ 0 →
                  (((bool01 (y1012 == (IntKind.wrap .i64 (rdZ (runP y1001 y1002 (consZ n1 (consZ (minZ p2 300) (consZ (nuP c1) 0)))) 2)))) ≠ 0 →
                   (((bool01 (y1015 == (mkN (runP y1001 y1002 (consZ n1 (consZ (minZ p2 300) (consZ (nuP c1) 0))))))) ≠ 0 →
                    ((1 : Int) ≠ 0 ↔ (1 : Int) ≠ 0) ∧ True) ∧ ((bool01 (y1015 == (mkN (runP y1001 y1002 (consZ n1 (consZ (minZ p2 300) (consZ (nuP c1) 0))))))) = 0 →
                    ((0 : Int) ≠ 0 ↔ (1 : Int) ≠ 0) ∧ True))) ∧ ((bool01 (y1012 == (IntKind.wrap .i64 (rdZ (runP y1001 y1002 (consZ n1 (consZ (minZ p2 300) (consZ (nuP c1) 0)))) 2)))) = 0 →
                   ((0 : Int) ≠ 0 ↔ (1 : Int) ≠ 0) ∧ True))) ∧ ((bool01 (y1014 == (IntKind.wrap .i64 (rdZ (runP y1001 y1002 (consZ n1 (consZ (minZ p2 300) (consZ (nuP c1) 0)))) 4)))) = 0 →
                  ((0 : Int) ≠ 0 ↔ (1 : Int) ≠ 0) ∧ True))))))))) ∧ (((bool01 (decide (0 ≤ p3))) * (bool01 (decide (p3 < n1)))) = 0 →
              (((bool01 ((iteZ ((bool01 (decide (0 ≤ p3))) * (bool01 (decide (p3 < n1)))) (IntKind.wrap .i32 (rdZ (iteZ ((bool01 (decide (0 ≤ p3))) * (bool01 (decide (p3 < n1)))) (updZ (rdZ (runP y1001 y1002 (consZ n1 (consZ (minZ p2 300) (consZ (nuP c1) 0)))) 1) p3 p4) (rdZ (runP y1001 y1002 (consZ n1 (consZ (minZ p2 300) (consZ (nuP c1) 0)))) 1)) p3)) 0) != 0)) ≠ 0 →
               ((0 : Int) ≠ 0 ↔ (1 : Int) ≠ 0) ∧ True) ∧ ((bool01 ((iteZ ((bool01 (decide (0 ≤ p3))) * (bool01 (decide (p3 < n1)))) (IntKind.wrap .i32 (rdZ (iteZ ((bool01 (decide (0 ≤ p3))) * (bool01 (decide (p3 < n1)))) (updZ (rdZ (runP y1001 y1002 (consZ n1 (consZ (minZ p2 300) (consZ (nuP c1) 0)))) 1) p3 p4) (rdZ (runP y1001 y1002 (consZ n1 (consZ (minZ p2 300) (consZ (nuP c1) 0)))) 1)) p3)) 0) != 0)) = 0 →
               (((bool01 ((IntKind.wrap .i64 (rdZ (runP y1001 y1002 (consZ n1 (consZ (minZ p2 300) (consZ (nuP c1) 0)))) 3)) != 0)) ≠ 0 →
                ((y1013 ≠ 0 →
                 (((bool01 ((IntKind.wrap .i64 (rdZ (runP y1001 y1002 (consZ n1 (consZ (minZ p2 300) (consZ (nuP c1) 0)))) 3)) == 0)) ≠ 0 →
                  ((1 : Int) ≠ 0 ↔ (1 : Int) ≠ 0) ∧ True) ∧ ((bool01 ((IntKind.wrap .i64 (rdZ (runP y1001 y1002 (consZ n1 (consZ (minZ p2 300) (consZ (nuP c1) 0)))) 3)) == 0)) = 0 →
                  (((bool01 (y1014 == (IntKind.wrap .i64 (rdZ (runP y1001 y1002 (consZ n1 (consZ (minZ p2 300) (consZ (nuP c1) 0)))) 4)))) ≠ 0 →
                   (((bool01 (y1012 == (IntKind.wrap .i64 (rdZ (runP y1001 y1002 (consZ n1 (consZ (minZ p2 300) (consZ (nuP c1) 0)))) 2)))) ≠ 0 →
                    (((bool01 (y1015 == (mkN (runP y1001 y1002 (consZ n1 (consZ (minZ p2 300) (consZ (nuP c1) 0))))))) ≠ 0 →
                     ((1 : Int) ≠ 0 ↔ (1 : Int) ≠ 0) ∧ True) ∧ ((bool01 (y1015 == (mkN (runP y1001 y1002 (consZ n1 (consZ (minZ p2 300) (consZ (nuP c1) 0))))))) = 0 →
                     ((0 : Int) ≠ 0 ↔ (1 : Int) ≠ 0) ∧ True))) ∧ ((bool01 (y1012 == (IntKind.wrap .i64 (rdZ (runP y1001 y1002 (consZ n1 (consZ (minZ p2 300) (consZ (nuP c1) 0)))) 2)))) = 0 →
                    ((0 : Int) ≠ 0 ↔ (1 : Int) ≠ 0) ∧ True))) ∧ ((bool01 (y1014 == (IntKind.wrap .i64 (rdZ (runP y1001 y1002 (consZ n1 (consZ (minZ p2 300) (consZ (nuP c1) 0)))) 4)))) = 0 →
                   ((0 : Int) ≠ 0 ↔ (1 : Int) ≠ 0) ∧ True))))) ∧ (y1013 = 0 →
                 False))) ∧ ((bool01 ((IntKind.wrap .i64 (rdZ (runP y1001 y1002 (consZ n1 (consZ (minZ p2 300) (consZ (nuP c1) 0)))) 3)) != 0)) = 0 →
                (((bool01 ((IntKind.wrap .i64 (rdZ (runP y1001 y1002 (consZ n1 (consZ (minZ p2 300) (consZ (nuP c1) 0)))) 3)) == 0)) ≠ 0 →
                 ((1 : Int) ≠ 0 ↔ (1 : Int) ≠ 0) ∧ True) ∧ ((bool01 ((IntKind.wrap .i64 (rdZ (runP y1001 y1002 (consZ n1 (consZ (minZ p2 300) (consZ (nuP c1) 0)))) 3)) == 0)) = 0 →
                 (((bool01 (y1014 == (IntKind.wrap .i64 (rdZ (runP y1001 y1002 (consZ n1 (consZ (minZ p2 300) (consZ (nuP c1) 0)))) 4)))) ≠ 0 →
                  (((bool01 (y1012 == (IntKind.wrap .i64 (rdZ (runP y1001 y1002 (consZ n1 (consZ (minZ p2 300) (consZ (nuP c1) 0)))) 2)))) ≠ 0 →
                   (((bool01 (y1015 == (mkN (runP y1001 y1002 (consZ n1 (consZ (minZ p2 300) (consZ (nuP c1) 0))))))) ≠ 0 →
                    ((1 : Int) ≠ 0 ↔ (1 : Int) ≠ 0) ∧ True) ∧ ((bool01 (y1015 == (mkN (runP y1001 y1002 (consZ n1 (consZ (minZ p2 300) (consZ (nuP c1) 0))))))) = 0 →
                    ((0 : Int) ≠ 0 ↔ (1 : Int) ≠ 0) ∧ True))) ∧ ((bool01 (y1012 == (IntKind.wrap .i64 (rdZ (runP y1001 y1002 (consZ n1 (consZ (minZ p2 300) (consZ (nuP c1) 0)))) 2)))) = 0 →
                   ((0 : Int) ≠ 0 ↔ (1 : Int) ≠ 0) ∧ True))) ∧ ((bool01 (y1014 == (IntKind.wrap .i64 (rdZ (runP y1001 y1002 (consZ n1 (consZ (minZ p2 300) (consZ (nuP c1) 0)))) 4)))) = 0 →
                  ((0 : Int) ≠ 0 ↔ (1 : Int) ≠ 0) ∧ True))))))))))))) ∧ ((bool01 (decide (0 ≤ p3))) = 0 →
            (((bool01 ((bool01 (((bool01 (decide (0 ≤ p3))) * (bool01 (decide (p3 < n1)))) == 0)) != 1)) ≠ 0 →
             ((0 : Int) ≠ 0 ↔ (1 : Int) ≠ 0) ∧ True) ∧ ((bool01 ((bool01 (((bool01 (decide (0 ≤ p3))) * (bool01 (decide (p3 < n1)))) == 0)) != 1)) = 0 →
             ((((bool01 (decide (0 ≤ p3))) * (bool01 (decide (p3 < n1)))) ≠ 0 →
              (((bool01 ((iteZ ((bool01 (decide (0 ≤ p3))) * (bool01 (decide (p3 < n1)))) (IntKind.wrap .i32 (rdZ (iteZ ((bool01 (decide (0 ≤ p3))) * (bool01 (decide (p3 < n1)))) (updZ (rdZ (runP y1001 y1002 (consZ n1 (consZ (minZ p2 300) (consZ (nuP c1) 0)))) 1) p3 p4) (rdZ (runP y1001 y1002 (consZ n1 (consZ (minZ p2 300) (consZ (nuP c1) 0)))) 1)) p3)) 0) != p4)) ≠ 0 →
               ((0 : Int) ≠ 0 ↔ (1 : Int) ≠ 0) ∧ True) ∧ ((bool01 ((iteZ ((bool01 (decide (0 ≤ p3))) * (bool01 (decide (p3 < n1)))) (IntKind.wrap .i32 (rdZ (iteZ ((bool01 (decide (0 ≤ p3))) * (bool01 (decide (p3 < n1)))) (updZ (rdZ (runP y1001 y1002 (consZ n1 (consZ (minZ p2 300) (consZ (nuP c1) 0)))) 1) p3 p4) (rdZ (runP y1001 y1002 (consZ n1 (consZ (minZ p2 300) (consZ (nuP c1) 0)))) 1)) p3)) 0) != p4)) = 0 →
               (((bool01 ((IntKind.wrap .i64 (rdZ (runP y1001 y1002 (consZ n1 (consZ (minZ p2 300) (consZ (nuP c1) 0)))) 3)) != 0)) ≠ 0 →
                ((y1013 ≠ 0 →
                 (((bool01 ((IntKind.wrap .i64 (rdZ (runP y1001 y1002 (consZ n1 (consZ (minZ p2 300) (consZ (nuP c1) 0)))) 3)) == 0)) ≠ 0 →
                  ((1 : Int) ≠ 0 ↔ (1 : Int) ≠ 0) ∧ True) ∧ ((bool01 ((IntKind.wrap .i64 (rdZ (runP y1001 y1002 (consZ n1 (consZ (minZ p2 300) (consZ (nuP c1) 0)))) 3)) == 0)) = 0 →
                  (((bool01 (y1014 == (IntKind.wrap .i64 (rdZ (runP y1001 y1002 (consZ n1 (consZ (minZ p2 300) (consZ (nuP c1) 0)))) 4)))) ≠ 0 →
                   (((bool01 (y1012 == (IntKind.wrap .i64 (rdZ (runP y1001 y1002 (consZ n1 (consZ (minZ p2 300) (consZ (nuP c1) 0)))) 2)))) ≠ 0 →
                    (((bool01 (y1015 == (mkN (runP y1001 y1002 (consZ n1 (consZ (minZ p2 300) (consZ (nuP c1) 0))))))) ≠ 0 →
                     ((1 : Int) ≠ 0 ↔ (1 : Int) ≠ 0) ∧ True) ∧ ((bool01 (y1015 == (mkN (runP y1001 y1002 (consZ n1 (consZ (minZ p2 300) (consZ (nuP c1) 0))))))) = 0 →
                     ((0 : Int) ≠ 0 ↔ (1 : Int) ≠ 0) ∧ True))) ∧ ((bool01 (y1012 == (IntKind.wrap .i64 (rdZ (runP y1001 y1002 (consZ n1 (consZ (minZ p2 300) (consZ (nuP c1) 0)))) 2)))) = 0 →
                    ((0 : Int) ≠ 0 ↔ (1 : Int) ≠ 0) ∧ True))) ∧ ((bool01 (y1014 == (IntKind.wrap .i64 (rdZ (runP y1001 y1002 (consZ n1 (consZ (minZ p2 300) (consZ (nuP c1) 0)))) 4)))) = 0 →
                   ((0 : Int) ≠ 0 ↔ (1 : Int) ≠ 0) ∧ True))))) ∧ (y1013 = 0 →
                 False))) ∧ ((bool01 ((IntKind.wrap .i64 (rdZ (runP y1001 y1002 (consZ n1 (consZ (minZ p2 300) (consZ (nuP c1) 0)))) 3)) != 0)) = 0 →
                (((bool01 ((IntKind.wrap .i64 (rdZ (runP y1001 y1002 (consZ n1 (consZ (minZ p2 300) (consZ (nuP c1) 0)))) 3)) == 0)) ≠ 0 →
                 ((1 : Int) ≠ 0 ↔ (1 : Int) ≠ 0) ∧ True) ∧ ((bool01 ((IntKind.wrap .i64 (rdZ (runP y1001 y1002 (consZ n1 (consZ (minZ p2 300) (consZ (nuP c1) 0)))) 3)) == 0)) = 0 →
                 (((bool01 (y1014 == (IntKind.wrap .i64 (rdZ (runP y1001 y1002 (consZ n1 (consZ (minZ p2 300) (consZ (nuP c1) 0)))) 4)))) ≠ 0 →
                  (((bool01 (y1012 == (IntKind.wrap .i64 (rdZ (runP y1001 y1002 (consZ n1 (consZ (minZ p2 300) (consZ (nuP c1) 0)))) 2)))) ≠ 0 →
                   (((bool01 (y1015 == (mkN (runP y1001 y1002 (consZ n1 (consZ (minZ p2 300) (consZ (nuP c1) 0))))))) ≠ 0 →
                    ((1 : Int) ≠ 0 ↔ (1 : Int) ≠ 0) ∧ True) ∧ ((bool01 (y1015 == (mkN (runP y1001 y1002 (consZ n1 (consZ (minZ p2 300) (consZ (nuP c1) 0))))))) = 0 →
                    ((0 : Int) ≠ 0 ↔ (1 : Int) ≠ 0) ∧ True))) ∧ ((bool01 (y1012 == (IntKind.wrap .i64 (rdZ (runP y1001 y1002 (consZ n1 (consZ (minZ p2 300) (consZ (nuP c1) 0)))) 2)))) = 0 →
                   ((0 : Int) ≠ 0 ↔ (1 : Int) ≠ 0) ∧ True))) ∧ ((bool01 (y1014 == (IntKind.wrap .i64 (rdZ (runP y1001 y1002 (consZ n1 (consZ (minZ p2 300) (consZ (nuP c1) 0)))) 4)))) = 0 →
                  ((0 : Int) ≠ 0 ↔ (1 : Int) ≠ 0) ∧ True))))))))) ∧ (((bool01 (decide (0 ≤ p3))) * (bool01 (decide (p3 < n1)))) = 0 →
              (((bool01 ((iteZ ((bool01 (decide (0 ≤ p3))) * (bool01 (decide (p3 < n1)))) (IntKind.wrap .i32 (rdZ (iteZ ((bool01 (decide (0 ≤ p3))) * (bool01 (decide (p3 < n1)))) (updZ (rdZ (runP y1001 y1002 (consZ n1 (consZ (minZ p2 300) (consZ (nuP c1) 0)))) 1) p3 p4) (rdZ (runP y1001 y1002 (consZ n1 (consZ (minZ p2 300) (consZ (nuP c1) 0)))) 1)) p3)) 0) != 0)) ≠ 0 →
               ((0 : Int) ≠ 0 ↔ (1 : Int) ≠ 0) ∧ True) ∧ ((bool01 ((iteZ ((bool01 (decide (0 ≤ p3))) * (bool01 (decide (p3 < n1)))) (IntKind.wrap .i32 (rdZ (iteZ ((bool01 (decide (0 ≤ p3))) * (bool01 (decide (p3 < n1)))) (updZ (rdZ (runP y1001 y1002 (consZ n1 (consZ (minZ p2 300) (consZ (nuP c1) 0)))) 1) p3 p4) (rdZ (runP y1001 y1002 (consZ n1 (consZ (minZ p2 300) (consZ (nuP c1) 0)))) 1)) p3)) 0) != 0)) = 0 →
               (((bool01 ((IntKind.wrap .i64 (rdZ (runP y1001 y1002 (consZ n1 (consZ (minZ p2 300) (consZ (nuP c1) 0)))) 3)) != 0)) ≠ 0 →
                ((y1013 ≠ 0 →
                 (((bool01 ((IntKind.wrap .i64 (rdZ (runP y1001 y1002 (consZ n1 (consZ (minZ p2 300) (consZ (nuP c1) 0)))) 3)) == 0)) ≠ 0 →
                  ((1 : Int) ≠ 0 ↔ (1 : Int) ≠ 0) ∧ True) ∧ ((bool01 ((IntKind.wrap .i64 (rdZ (runP y1001 y1002 (consZ n1 (consZ (minZ p2 300) (consZ (nuP c1) 0)))) 3)) == 0)) = 0 →
                  (((bool01 (y1014 == (IntKind.wrap .i64 (rdZ (runP y1001 y1002 (consZ n1 (consZ (minZ p2 300) (consZ (nuP c1) 0)))) 4)))) ≠ 0 →
                   (((bool01 (y1012 == (IntKind.wrap .i64 (rdZ (runP y1001 y1002 (consZ n1 (consZ (minZ p2 300) (consZ (nuP c1) 0)))) 2)))) ≠ 0 →
                    (((bool01 (y1015 == (mkN (runP y1001 y1002 (consZ n1 (consZ (minZ p2 300) (consZ (nuP c1) 0))))))) ≠ 0 →
                     ((1 : Int) ≠ 0 ↔ (1 : Int) ≠ 0) ∧ True) ∧ ((bool01 (y1015 == (mkN (runP y1001 y1002 (consZ n1 (consZ (minZ p2 300) (consZ (nuP c1) 0))))))) = 0 →
                     ((0 : Int) ≠ 0 ↔ (1 : Int) ≠ 0) ∧ True))) ∧ ((bool01 (y1012 == (IntKind.wrap .i64 (rdZ (runP y1001 y1002 (consZ n1 (consZ (minZ p2 300) (consZ (nuP c1) 0)))) 2)))) = 0 →
                    ((0 : Int) ≠ 0 ↔ (1 : Int) ≠ 0) ∧ True))) ∧ ((bool01 (y1014 == (IntKind.wrap .i64 (rdZ (runP y1001 y1002 (consZ n1 (consZ (minZ p2 300) (consZ (nuP c1) 0)))) 4)))) = 0 →
                   ((0 : Int) ≠ 0 ↔ (1 : Int) ≠ 0) ∧ True))))) ∧ (y1013 = 0 →
                 False))) ∧ ((bool01 ((IntKind.wrap .i64 (rdZ (runP y1001 y1002 (consZ n1 (consZ (minZ p2 300) (consZ (nuP c1) 0)))) 3)) != 0)) = 0 →
                (((bool01 ((IntKind.wrap .i64 (rdZ (runP y1001 y1002 (consZ n1 (consZ (minZ p2 300) (consZ (nuP c1) 0)))) 3)) == 0)) ≠ 0 →
                 ((1 : Int) ≠ 0 ↔ (1 : Int) ≠ 0) ∧ True) ∧ ((bool01 ((IntKind.wrap .i64 (rdZ (runP y1001 y1002 (consZ n1 (consZ (minZ p2 300) (consZ (nuP c1) 0)))) 3)) == 0)) = 0 →
                 (((bool01 (y1014 == (IntKind.wrap .i64 (rdZ (runP y1001 y1002 (consZ n1 (consZ (minZ p2 300) (consZ (nuP c1) 0)))) 4)))) ≠ 0 →
                  (((bool01 (y1012 == (IntKind.wrap .i64 (rdZ (runP y1001 y1002 (consZ n1 (consZ (minZ p2 300) (consZ (nuP c1) 0)))) 2)))) ≠ 0 →
                   (((bool01 (y1015 == (mkN (runP y1001 y1002 (consZ n1 (consZ (minZ p2 300) (consZ (nuP c1) 0))))))) ≠ 0 →
                    ((1 : Int) ≠ 0 ↔ (1 : Int) ≠ 0) ∧ True) ∧ ((bool01 (y1015 == (mkN (runP y1001 y1002 (consZ n1 (consZ (minZ p2 300) (consZ (nuP c1) 0))))))) = 0 →
                    ((0 : Int) ≠ 0 ↔ (1 : Int) ≠ 0) ∧ True))) ∧ ((bool01 (y1012 == (IntKind.wrap .i64 (rdZ (runP y1001 y1002 (consZ n1 (consZ (minZ p2 300) (consZ (nuP c1) 0)))) 2)))) = 0 →
                   ((0 : Int) ≠ 0 ↔ (1 : Int) ≠ 0) ∧ True))) ∧ ((bool01 (y1014 == (IntKind.wrap .i64 (rdZ (runP y1001 y1002 (consZ n1 (consZ (minZ p2 300) (consZ (nuP c1) 0)))) 4)))) = 0 →
                  ((0 : Int) ≠ 0 ↔ (1 : Int) ≠ 0) ∧ True))))))))))))))) ∧ ((okC y1001 y1002) = 0 →
           False))) ∧ ((bool01 (decide (n1 ≤ 2048))) = 0 →
          False))) ∧ ((bool01 (decide (y1002 ≤ 16384))) = 0 →
         False))))))) ∧ ((bool01 (decide (n1 ≤ 1000000))) = 0 →
     False))))))))

theorem two_in3 (a n : Int) : (bool01 (decide (0 ≤ a)) * bool01 (decide (a < n))) = if 0 ≤ a ∧ a < n then 1 else 0 := by
  by_cases h1 : 0 ≤ a <;> by_cases h2 : a < n <;> simp [bool01, h1, h2]
set_option maxHeartbeats 8000000 in
theorem holds (n0 n1 p2 p3 p4 c0 c1 r0 r1 : Int) (l_n0 : 0 ≤ n0) (u_n0 : n0 ≤ 140737488355328) (l_n1 : 0 ≤ n1) (u_n1 : n1 ≤ 140737488355328) (l_p2 : -9223372036854775808 ≤ p2) (u_p2 : p2 ≤ 9223372036854775807) (l_p3 : -9223372036854775808 ≤ p3) (u_p3 : p3 ≤ 9223372036854775807) (l_p4 : -2147483648 ≤ p4) (u_p4 : p4 ≤ 2147483647) (h_n0 : n0 ≤ r0) (h_n1 : n1 ≤ r1) : P n0 n1 p2 p3 p4 c0 c1 r0 r1 := by
  unfold P
  simp only [two_in3]
  simp only [b01_eq, decide_eq_true_eq, decide_eq_false_iff_not, beq_iff_eq, beq_eq_false_iff_ne, bne_iff_ne, bne_eq_false_iff_eq, Int.not_le, Int.not_lt, true_and, and_true, iteZ_ne, ne_eq, Bool.not_eq_false, Bool.not_eq_true, not_true_eq_false, not_false_eq_true, Decidable.not_not, forall_const, false_implies, true_iff, iff_true, false_iff, iff_false, Int.reduceEq, Int.reduceNeg, eq_self, if_true, if_false, reduceIte, ob_le, ob_lt, ob_p, ob_n]
  refine ⟨fun _ => trivial, fun g0 => ⟨fun _ => trivial, fun g1 => ⟨fun g2 => ⟨fun _ => trivial, fun _ => trivial⟩, fun g2 => ⟨by omega, fun _ => trivial, fun g4 => ?_⟩⟩⟩⟩
  refine ⟨fun i q n m => ∃ k : Nat, i = k ∧ q = decC c0 k ∧ n = k ∧ i ≤ n0 ∧ m = (n0 - i).toNat, ⟨_, 0, rfl, rfl, rfl, l_n0, rfl⟩, fun i q n m hb hI => ?_⟩
  obtain ⟨k, rfl, rfl, rfl, hi, rfl⟩ := hI
  refine ⟨fun h1 => ?_, fun h1 => ?_⟩
  · rintro _ rfl _ _ rfl _ _ rfl _ _ rfl _ _ rfl _ _ rfl _
    exact ⟨by omega, by omega, by omega, _, by omega, k + 1, by omega, rfl, by omega, by omega, rfl⟩
  have hok := okC_dec c0 k
  have m0 := macM_ok (nuP c1)
  have mn : (macM (nuP c1)).nm = 0 := by rw [macM_nu]
  have hm3 : minZ p2 300 ≤ 300 := by unfold minZ; split <;> omega
  obtain ⟨a1, a2, a3, a4⟩ := runs_ok m0 (decC c0 k) k n1 (minZ p2 300).toNat
  have ea := runP_code (decC c0 k) k n1 (minZ p2 300) (nuP c1)
  generalize hA : Mac.runs (decC c0 k) k n1 (minZ p2 300).toNat (macM (nuP c1)) = A at *
  obtain ⟨q0, q1, q2, q3, q4, q5, q6, q7⟩ := codeM_rd A.1 A.2
  have na := mkN_code a1 (by omega) A.2
  rw [mn] at a2 a3
  have w2 := w64 a1.1.1 a1.1.2
  have w3 := w64 a1.2.1.1 a1.2.1.2
  have w4 := w64 a1.2.2.1.1 a1.2.2.1.2
  simp only [ea, q0, q1, q2, q3, q4, q5, q6, q7, na, w2, w3, w4]
  refine ⟨by omega, by omega, hok, ?_⟩
  have hb0 : ∀ a b : Int, b ≤ a → bool01 (bool01 (decide (a < b)) == 0) = 1 := fun a b h => by simp [bool01]; omega
  have hb1 : ∀ a b : Int, a < b → bool01 (bool01 (decide (a < b)) == 0) = 0 := fun a b h => by simp [bool01, h]
  have u1 : ∀ q x y : Int, rdZ (updZ q x y) x = y := fun q x y => by rw [rdZ_upd, if_pos rfl]
  have w5 : IntKind.wrap .i32 p4 = p4 := wi32 (by omega) (by omega)
  have z1 : bool01 ((1 : Int) == 0) = 0 := by decide
  have z0 : bool01 ((0 : Int) == 0) = 1 := by decide
  by_cases hp : 0 ≤ p3 ∧ p3 < n1
  · simp only [if_pos hp, hb1 _ _ hp.2, u1, w5, z1, not_true_eq_false, not_false_eq_true, if_true, if_false, Int.reduceEq]
    repeat' (first | exact trivial | refine ⟨fun _ => ?_, fun _ => ?_⟩ | refine ⟨?_, ?_⟩ | intro _)
    all_goals first | omega | exact absurd trivial ‹¬ True› | (trace_state; sorry)
  · simp only [if_neg hp, z0, not_true_eq_false, not_false_eq_true, if_true, if_false, Int.reduceEq]
    by_cases hn : p3 < n1
    · simp only [hb1 _ _ hn]
      repeat' (first | exact trivial | refine ⟨fun _ => ?_, fun _ => ?_⟩ | refine ⟨?_, ?_⟩ | intro _)
      all_goals first | omega | exact absurd trivial ‹¬ True› | (trace_state; sorry)
    · simp only [hb0 _ _ (show n1 ≤ p3 by omega)]
      repeat' (first | exact trivial | refine ⟨fun _ => ?_, fun _ => ?_⟩ | refine ⟨?_, ?_⟩ | intro _)
      all_goals first | omega | exact absurd trivial ‹¬ True› | (trace_state; sorry)

theorem plain (i : Nat → Int) (v : Nat → Value) (ro : Nat → RO) (p : Program) : TT.hdP (rc.cx (cxOf 2)) (rlF ⟨i, fN, v, ro, p⟩ rc.res) tree ⟨i, fN, v, ro, p⟩ = P (i 0) (i 1) (i 2) (i 3) (i 4) (i 5) (i 6) (i 7) (i 8) := by kernel_rfl
theorem ran : TT.beq (projL (rc.pj (cxOf 2)) (runT us (fun _ _ => .auto) rc 2 rc.f rc.args ⟨[], []⟩)) tree = true := by kernel_rfl
theorem fineT : (TT.fine (rc.cx (cxOf 2)) 1000 [] tree && (rc.cx (cxOf 2)).okB 1000 && SV.vbL 1000 rc.args && TT.tidy (rc.cx (cxOf 2)) [] tree) = true := by kernel_rfl
theorem ok : RcOk (cxOf 2) rc :=
  rc_run (runT_ok us_ok (fun _ _ => .auto) rc 2) ran fineT okb fun ρ hρ hcap hpre => by
    obtain ⟨i, f, v, ro, p⟩ := ρ
    have hf : f = fN := hρ.hF
    subst hf
    rw [plain]
    exact holds (i 0) (i 1) (i 2) (i 3) (i 4) (i 5) (i 6) (i 7) (i 8) (hρ.hi 0 _ rfl).1 (hρ.hi 0 _ rfl).2 (hρ.hi 1 _ rfl).1 (hρ.hi 1 _ rfl).2 (hρ.hi 2 _ rfl).1 (hρ.hi 2 _ rfl).2 (hρ.hi 3 _ rfl).1 (hρ.hi 3 _ rfl).2 (hρ.hi 4 _ rfl).1 (hρ.hi 4 _ rfl).2 (hcap _ (List.mem_of_getElem? (i := 0) rfl)) (hcap _ (List.mem_of_getElem? (i := 1) rfl))
theorem listE_LZ (P : Program) (l : List Int) (ro : List RO) : ∀ zs : List Int, (listE (zs.map E.c)).ev (envR P l ro) = LZ zs
  | [] => rfl
  | z :: zs => by
    have h : (listE ((z :: zs).map E.c)).ev (envR P l ro) = consZ z ((listE (zs.map E.c)).ev (envR P l ro)) := rfl
    rw [h, listE_LZ P l ro zs]
    unfold consZ
    rw [ZL_LZ]
def tab0 : List Int := [1, 1, 1, 1, 1, 1, 1, 1, 1, 1, 1, 1, 1, 1, 1, 1, 1, 3, 3, 3, 3, 2, 2, 1, 1, 1, 1, 1, 1, 1, 1, 1, 1, 2, 2, 1, 1, 1, 3, 3, 3, 1, 1]
theorem tabG0 : Tryd.prog.globalNamed "astrolabe/ops.costs" = some 0 := by kernel_rfl
theorem tabW0 : ∀ z ∈ tab0, IntKind.wrap .i64 z = z := fun z hz => by
  have h := List.all_eq_true.1 (show tab0.all (fun z => decide (IntKind.wrap .i64 z = z)) = true by kernel_rfl) z hz
  simpa using h
theorem tabIs0 {W : World} (h : laidMetH Tryd.prog Rows.coreHaltsRow.laid W) : Lib.TabIs Tryd.prog W "astrolabe/ops.costs" .i64 tab0 := by
  rw [MakeChecks.laidMetH_plain _ _ _ (by kernel_rfl)] at h
  exact Lib.tabIs_of_head (rest := []) tabG0 (t := 99) (e := 3) (n := 43) (by kernel_rfl) (by kernel_rfl) (by kernel_rfl) (by kernel_rfl) (by kernel_rfl) h

theorem walk (w : World) (a0 : RO) (k0 : a0.cks = [.int .u32]) (n0 : a0.a = none → a0.n = 0) (m0 : a0.n ≤ a0.cap) (t0 : RoAt w a0) (b0 : (a0.n : Int) ≤ 140737488355328) (a1 : RO) (k1 : a1.cks = [.int .i32]) (n1 : a1.a = none → a1.n = 0) (m1 : a1.n ≤ a1.cap) (t1 : RoAt w a1) (b1 : (a1.n : Int) ≤ 140737488355328) (a2 : Int) (w2 : (Lit.int .i64 a2).wf = true) (a3 : Int) (w3 : (Lit.int .i64 a3).wf = true) (a4 : Int) (w4 : (Lit.int .i32 a4).wf = true) (tb0 : Lib.TabIs Tryd.prog w "astrolabe/ops.costs" .i64 tab0) :
    Calls Tryd.prog 3 #[.slice a0.a a0.n a0.cap, .slice a1.a a1.n a1.cap, .int .i64 a2, .int .i64 a3, .int .i32 a4] w fun e w' => e = .returned (.bool true) ∧ Below w.heap.size w w' := by
  refine law_of (cx := cxOf 2) ok ⟨rfl, rfl, rfl⟩ (ρ := envR Tryd.prog [(a0.n : Int), (a1.n : Int), a2, a3, a4, a0.c, a1.c, (a0.cap : Int), (a1.cap : Int)] [a0, a1, tabRo 0 .i64 tab0]) (envR_ok (cx := rc.cx (cxOf 2)) rfl rfl (bnd_cons ⟨Int.natCast_nonneg _, b0⟩ (bnd_cons ⟨Int.natCast_nonneg _, b1⟩ (bnd_cons (wf_bd w2) (bnd_cons (wf_bd w3) (bnd_cons (wf_bd w4) (bnd_nil _)))))) ⟨⟨k0, rfl, (Int.toNat_natCast _).symm, (Int.toNat_natCast _).symm, n0, fun g h => by cases h⟩, ⟨⟨k1, rfl, (Int.toNat_natCast _).symm, (Int.toNat_natCast _).symm, n1, fun g h => by cases h⟩, ⟨⟨rfl, (listE_LZ _ _ _ tab0).symm, rfl, rfl, (fun h => by cases h), fun g h => by cases h; rfl⟩, trivial⟩⟩⟩) (fun d hd => by
    simp only [show lfIns rc.b rc.c rc.ls 0 0 0 = [⟨[.int .u32], .v 5, .v 0, .v 7, none⟩, ⟨[.int .i32], .v 6, .v 1, .v 8, none⟩] from rfl, List.mem_cons, List.not_mem_nil, or_false] at hd
    rcases hd with rfl | rfl
    · exact Int.ofNat_le.2 m0
    · exact Int.ofNat_le.2 m1) (roOk_of ⟨t0, ⟨t1, ⟨tabRo_at tb0 tabG0 tabW0, trivial⟩⟩⟩) ?_
  rw [show rc.args = [.sl (.inp 0) 1 (.c 0) (.v 0) (some (.v 7)), .sl (.inp 1) 1 (.c 0) (.v 1) (some (.v 8)), .int .i64 (.v 2), .int .i64 (.v 3), .int .i32 (.v 4)] from rfl]
  simp only [SV.denL, SV.den, E.ev, map_addr_zero]
  rfl
theorem lifted (os : Os) (started : os.Started) (H : Type) (enc : TypeId × Value → H) :
    ReturnsInHanded {} Tryd.checked os 3 .any (fun w args => (Rows.coreHaltsSpec.pre enc Tryd.prog Tryd.f3 Rows.coreHaltsRow.domain false w args ∧ laidMetH Tryd.prog Rows.coreHaltsRow.laid w) ∧ sizedMet enc Tryd.prog Tryd.f3 (OpenSpec.ofChange Rows.coreHaltsSpec) false w args)
      (Rows.coreHaltsSpec.post enc Tryd.prog Tryd.f3 false true false false) := by
  refine returnsInHanded_of_change_and (C := Tryd.checked) (X := fun w _ => laidMetH Tryd.prog Rows.coreHaltsRow.laid w) (fun _ _ _ hh h => h.of_heap hh) own started (by kernel_rfl) Tryd.func3
    (ChangeSpec.witness_shaped (enc := enc) (C := Tryd.checked) (os := os) (X := fun w _ => laidMetH Tryd.prog Rows.coreHaltsRow.laid w) false (World.laidAll Tryd.prog os Rows.coreHaltsRow.laid) #[.slice none 0 0, .slice none 0 0, .int .i64 0, .int .i64 0, .int .i32 0] 8 (World.laidAll_os _ _ _)
      (World.shaped_of_ZipB (by kernel_rfl) (by kernel_rfl)) (by kernel_rfl) (by kernel_rfl) (by kernel_rfl)
      (by rw [MakeChecks.laidMetH_plain _ _ _ (by kernel_rfl)]; exact laidMet_laidAll _ (by kernel_rfl) (by kernel_rfl))) ?_
  intro W base args ds gs before hval0 hW hcnd hw0 hL _
  have hval : ∀ (j : Nat) t v, Tryd.f3.params[j]? = some t → args[j]? = some v → Value.okWide Tryd.prog W .any base t v := hval0
  have hW' := hW
  obtain ⟨p, q, hA0, hV, rfl, hfz, hnd⟩ := hW
  have hA : DataW.TrodAll enc Tryd.prog W 0 (fun _ => true) true Tryd.f3.params.toList args.toList ds p := hA0
  have hw := hw0
  rw [Tryd.params3] at hA hval hw
  obtain ⟨v0, vs0, d0, ds0, p0, q0, hargs, rfl, rfl, h0, r0⟩ := trodAll_cons hA
  have h0k := h0
  obtain ⟨v1, vs1, d1, ds1, p1, q1, rfl, rfl, rfl, h1, r1⟩ := trodAll_cons r0
  have h1k := h1
  obtain ⟨v2, vs2, d2, ds2, p2, q2, rfl, rfl, rfl, h2, r2⟩ := trodAll_cons r1
  have h2k := h2
  obtain ⟨v3, vs3, d3, ds3, p3, q3, rfl, rfl, rfl, h3, r3⟩ := trodAll_cons r2
  have h3k := h3
  obtain ⟨v4, vs4, d4, ds4, p4, q4, rfl, rfl, rfl, h4, r4⟩ := trodAll_cons r3
  have h4k := h4
  obtain ⟨rfl, rfl, rfl⟩ := trodAll_nil r4
  obtain rfl : args = #[v0, v1, v2, v3, v4] := by cases args; simp_all
  obtain ⟨rfl, rfl⟩ := trodVars_none hV
  obtain ⟨a0, k0, rfl, n0, m0, t0, b0, _⟩ := Go.Eng.open_row (ks := [.int .u32]) Tryd.underlying22 (ElT.one Tryd.underlying37 (by kernel_rfl)) (by decide) (of_decide_eq_true (by kernel_rfl)) (by kernel_rfl) (hval 0 22 v0 rfl rfl) h0 (weights_of (gs := []) hw (j := 0) (t := 22) rfl rfl)
  obtain ⟨a1, k1, rfl, n1, m1, t1, b1, _⟩ := Go.Eng.open_row (ks := [.int .i32]) Tryd.underlying23 (ElT.one Tryd.underlying21 (by kernel_rfl)) (by decide) (of_decide_eq_true (by kernel_rfl)) (by kernel_rfl) (hval 1 23 v1 rfl rfl) h1 (weights_of (gs := []) hw (j := 1) (t := 23) rfl rfl)
  obtain ⟨a2, rfl, rfl, rfl, w2⟩ := open_int Tryd.underlying3 (hval 2 3 v2 rfl rfl) h2
  obtain ⟨a3, rfl, rfl, rfl, w3⟩ := open_int Tryd.underlying3 (hval 3 3 v3 rfl rfl) h3
  obtain ⟨a4, rfl, rfl, rfl, w4⟩ := open_int Tryd.underlying21 (hval 4 21 v4 rfl rfl) h4
  clear hA0 hval0
  refine (walk W a0 k0 n0 m0 t0 b0 a1 k1 n1 m1 t1 b1 a2 w2 a3 w3 a4 w4 (tabIs0 hL)).mono fun e W' ⟨he, hg⟩ => ?_
  subst he
  have hin0 : ∀ x ∈ p0, x ∈ p0 ++ (p1 ++ ([] ++ ([] ++ ([] ++ [])))) ++ [] := fun x hx => by simp [hx]
  have hlt0 : ∀ x ∈ p0, x.block < W.heap.size := fun x hx => by simpa using hW'.lt x (by simp [hx])
  have hin1 : ∀ x ∈ p1, x ∈ p0 ++ (p1 ++ ([] ++ ([] ++ ([] ++ [])))) ++ [] := fun x hx => by simp [hx]
  have hlt1 : ∀ x ∈ p1, x.block < W.heap.size := fun x hx => by simpa using hW'.lt x (by simp [hx])
  exact ⟨_, rfl, post_below (pa := _) (pv := []) hW' hg (fun _ _ _ => (trodAll_cons_mk (shut_bool Tryd.underlying4 _) trodAll_mk0)) (fun sp hsp => (trodAll_cons_mk (WideElems.Trod_stays laidOut (by kernel_rfl) (of_decide_eq_true (by kernel_rfl)) h0k (fun x hx => hg.same (hlt0 x hx)) (fun x hx => hsp x (hin0 x hx))) (trodAll_cons_mk (WideElems.Trod_stays laidOut (by kernel_rfl) (of_decide_eq_true (by kernel_rfl)) h1k (fun x hx => hg.same (hlt1 x hx)) (fun x hx => hsp x (hin1 x hx))) (trodAll_cons_mk (shut_int Tryd.underlying3 w2) (trodAll_cons_mk (shut_int Tryd.underlying3 w3) (trodAll_cons_mk (shut_int Tryd.underlying21 w4) trodAll_mk0)))))) (fun _ _ => rfl) (by simp)
    (ok_one (by kernel_rfl) rfl (okWide_bool_mk Tryd.underlying4 _))⟩

theorem over : Rows.coreHaltsRow.holds Tryd.pinned (OpenSpec.ofChange Rows.coreHaltsSpec) :=
  OpenClaim.holds_of_wide 3 Tryd.f3 rfl rfl rfl rfl rfl rfl rfl ⟨rfl, rfl, rfl, rfl, rfl⟩ rfl rfl rfl rfl rfl (by kernel_rfl) Tryd.func3 (by kernel_rfl)
    (of_decide_eq_true (by kernel_rfl)) (by unfold Func.isWrapper; first | (rw [if_pos (by decide +kernel)]; kernel_rfl) | (rw [if_neg (by decide +kernel)]; exact ⟨rfl, rfl⟩))
    (fun os started H enc _ => lifted os started H enc)

/-- the statement -/
theorem proved : Rows.CoreHaltsCardSaid :=
  Claim7.holds_tied_plain_at .later [] [.data] true (true, "04c7f0019578196ec50f5ba60613bd0306de550a8181d7bfc0fb126cc483cf1f") false
    over (fun _ h => by cases h) (by kernel_rfl) (fun _ h => by cases h) coreHalts_row_tie rfl ⟨rfl, rfl⟩ (by kernel_rfl) rfl
    (fun f fn hf hfn => by
      obtain rfl : f = 3 := Option.some.inj ((show Tryd.prog.funcNamed "astrolabe/astrolabelaw16.CoreHalts" = some 3 by kernel_rfl).symm.trans hf) |>.symm
      obtain rfl : fn = Tryd.f3 := (Option.some.inj (Tryd.func3.symm.trans hfn)).symm
      exact ⟨by kernel_rfl, fun j t ht => by
        rw [Tryd.params3] at ht
        have h3 : t = 3 ∨ t = 21 ∨ t = 22 ∨ t = 23 := by
          rcases j with _ | _ | _ | _ | _ | j
          · exact (.inr (.inr (.inl (by simpa using ht.symm))))
          · exact (.inr (.inr (.inr (by simpa using ht.symm))))
          · exact (.inl (by simpa using ht.symm))
          · exact (.inl (by simpa using ht.symm))
          · exact (.inr (.inl (by simpa using ht.symm)))
          · simp at ht
        rcases h3 with rfl | rfl | rfl | rfl
        · exact (show Tryd.prog.wantsStandIn 3 = false by kernel_rfl)
        · exact (show Tryd.prog.wantsStandIn 21 = false by kernel_rfl)
        · exact (show Tryd.prog.wantsStandIn 22 = false by kernel_rfl)
        · exact (show Tryd.prog.wantsStandIn 23 = false by kernel_rfl)⟩)
    (by kernel_rfl)
#print axioms proved
end Go.Proofs.YtlhcaeakfbokmaaDoor.coreHalts
