/-
  What core.Core).Step answers, as numbers of what it is handed: its run by the engine, and the plain statement behind it. No condition.
-/
import Derived.Test.YtlhcaeakfbokmaaDoorGab
import Derived.Test.YtlhcaeakfbokmaaDoorCADo
import Derived.Test.YtlhcaeakfbokmaaDoorCOCost
import Derived.Test.YtlhcaeakfbokmaaDoorCACost
import Derived.Test.YtlhcaeakfbokmaaDoorGmC
namespace Go.Proofs.YtlhcaeakfbokmaaDoor.CCStepN
open Go.Eng Go.RowKit
set_option linter.unusedVariables false
set_option linter.unusedSimpArgs false
set_option maxRecDepth 100000
def rk : Rk := ⟨13, [(-9223372036854775808, 9223372036854775807), (-9223372036854775808, 9223372036854775807), (-9223372036854775808, 9223372036854775807), (0, 16384), (0, 999999), (0, 2048)], 10, [.ptr 0 0], [.cells [.ptr 1 0, .sl (.own 2) 6 (.c 0) (.v 3) none, .int .i32 (.w .i32 (.f 13 (.v 7) (.c 0) (.c 0))), .int .i32 (.w .i32 (.f 13 (.v 7) (.c 1) (.c 0))), .int .i32 (.w .i32 (.f 13 (.v 7) (.c 2) (.c 0))), .int .i32 (.w .i32 (.f 13 (.v 7) (.c 3) (.c 0))), .int .i32 (.w .i32 (.f 13 (.v 7) (.c 4) (.c 0))), .int .i32 (.w .i32 (.f 13 (.v 7) (.c 5) (.c 0))), .int .i32 (.w .i32 (.f 13 (.v 7) (.c 6) (.c 0))), .int .i32 (.w .i32 (.f 13 (.v 7) (.c 7) (.c 0))), .int .i32 (.w .i32 (.f 13 (.v 7) (.c 8) (.c 0))), .int .i32 (.w .i32 (.f 13 (.v 7) (.c 9) (.c 0))), .int .i32 (.w .i32 (.f 13 (.v 7) (.c 10) (.c 0))), .int .i32 (.w .i32 (.f 13 (.v 7) (.c 11) (.c 0))), .int .i32 (.w .i32 (.f 13 (.v 7) (.c 12) (.c 0))), .int .i32 (.w .i32 (.f 13 (.v 7) (.c 13) (.c 0))), .int .i32 (.w .i32 (.f 13 (.v 7) (.c 14) (.c 0))), .int .i32 (.w .i32 (.f 13 (.v 7) (.c 15) (.c 0))), .int .i32 (.w .i32 (.f 13 (.v 7) (.c 16) (.c 0))), .int .i32 (.w .i32 (.f 13 (.v 7) (.c 17) (.c 0))), .int .i32 (.w .i32 (.f 13 (.v 7) (.c 18) (.c 0))), .int .i32 (.w .i32 (.f 13 (.v 7) (.c 19) (.c 0))), .int .i32 (.w .i32 (.f 13 (.v 7) (.c 20) (.c 0))), .int .i32 (.w .i32 (.f 13 (.v 7) (.c 21) (.c 0))), .int .i32 (.w .i32 (.f 13 (.v 7) (.c 22) (.c 0))), .int .i32 (.w .i32 (.f 13 (.v 7) (.c 23) (.c 0))), .int .i32 (.w .i32 (.f 13 (.v 7) (.c 24) (.c 0))), .int .i32 (.w .i32 (.f 13 (.v 7) (.c 25) (.c 0))), .int .i32 (.w .i32 (.f 13 (.v 7) (.c 26) (.c 0))), .int .i32 (.w .i32 (.f 13 (.v 7) (.c 27) (.c 0))), .int .i32 (.w .i32 (.f 13 (.v 7) (.c 28) (.c 0))), .int .i32 (.w .i32 (.f 13 (.v 7) (.c 29) (.c 0))), .int .i32 (.w .i32 (.f 13 (.v 7) (.c 30) (.c 0))), .int .i32 (.w .i32 (.f 13 (.v 7) (.c 31) (.c 0))), .int .i64 (.v 0), .int .i64 (.v 1), .int .i64 (.v 2), .sl (.own 4) 3 (.c 0) (.v 4) none] 42 none, .cells [.sl (.own 3) 1 (.c 0) (.v 5) none, .bool (.c 1)] 62 none, .arr [.int .i64, .int .i64, .int .i64, .int .i64, .int .i64, .bool] 52 (.v 6) (.v 3), .arr [.int .i32] 21 (.v 8) (.v 5), .arr [.int .i64, .int .i64, .int .i64] 55 (.v 9) (.v 4)], [(.v 1)], .bool (.c 0), [.cells [.ptr 1 0, .sl (.own 2) 6 (.c 0) (.v 3) none, .int .i32 (.w .i32 (.f 13 (.v 7) (.c 0) (.c 0))), .int .i32 (.w .i32 (.f 13 (.v 7) (.c 1) (.c 0))), .int .i32 (.w .i32 (.f 13 (.v 7) (.c 2) (.c 0))), .int .i32 (.w .i32 (.f 13 (.v 7) (.c 3) (.c 0))), .int .i32 (.w .i32 (.f 13 (.v 7) (.c 4) (.c 0))), .int .i32 (.w .i32 (.f 13 (.v 7) (.c 5) (.c 0))), .int .i32 (.w .i32 (.f 13 (.v 7) (.c 6) (.c 0))), .int .i32 (.w .i32 (.f 13 (.v 7) (.c 7) (.c 0))), .int .i32 (.w .i32 (.f 13 (.v 7) (.c 8) (.c 0))), .int .i32 (.w .i32 (.f 13 (.v 7) (.c 9) (.c 0))), .int .i32 (.w .i32 (.f 13 (.v 7) (.c 10) (.c 0))), .int .i32 (.w .i32 (.f 13 (.v 7) (.c 11) (.c 0))), .int .i32 (.w .i32 (.f 13 (.v 7) (.c 12) (.c 0))), .int .i32 (.w .i32 (.f 13 (.v 7) (.c 13) (.c 0))), .int .i32 (.w .i32 (.f 13 (.v 7) (.c 14) (.c 0))), .int .i32 (.w .i32 (.f 13 (.v 7) (.c 15) (.c 0))), .int .i32 (.w .i32 (.f 13 (.v 7) (.c 16) (.c 0))), .int .i32 (.w .i32 (.f 13 (.v 7) (.c 17) (.c 0))), .int .i32 (.w .i32 (.f 13 (.v 7) (.c 18) (.c 0))), .int .i32 (.w .i32 (.f 13 (.v 7) (.c 19) (.c 0))), .int .i32 (.w .i32 (.f 13 (.v 7) (.c 20) (.c 0))), .int .i32 (.w .i32 (.f 13 (.v 7) (.c 21) (.c 0))), .int .i32 (.w .i32 (.f 13 (.v 7) (.c 22) (.c 0))), .int .i32 (.w .i32 (.f 13 (.v 7) (.c 23) (.c 0))), .int .i32 (.w .i32 (.f 13 (.v 7) (.c 24) (.c 0))), .int .i32 (.w .i32 (.f 13 (.v 7) (.c 25) (.c 0))), .int .i32 (.w .i32 (.f 13 (.v 7) (.c 26) (.c 0))), .int .i32 (.w .i32 (.f 13 (.v 7) (.c 27) (.c 0))), .int .i32 (.w .i32 (.f 13 (.v 7) (.c 28) (.c 0))), .int .i32 (.w .i32 (.f 13 (.v 7) (.c 29) (.c 0))), .int .i32 (.w .i32 (.f 13 (.v 7) (.c 30) (.c 0))), .int .i32 (.w .i32 (.f 13 (.v 7) (.c 31) (.c 0))), .int .i64 (.v 0), .int .i64 (.v 1), .int .i64 (.v 2), .sl (.own 4) 3 (.c 0) (.v 4) none] 42 none, .cells [.sl (.own 3) 1 (.c 0) (.v 5) none, .bool (.c 1)] 62 none, .arr [.int .i64, .int .i64, .int .i64, .int .i64, .int .i64, .bool] 52 (.v 6) (.v 3), .arr [.int .i32] 21 (.v 8) (.v 5), .arr [.int .i64, .int .i64, .int .i64] 55 (.v 9) (.v 4)], []⟩
theorem okk : rk.ok = true := by kernel_rfl
theorem okh : rk.rh.ok = true := by kernel_rfl
noncomputable def us : SMs := fun Γ ins n => smH (cxG n Γ ins) [] (smR (cxG n Γ ins) [CADo.rc, COCost.rc, CACost.rc])
theorem us_ok : SMsOk us := fun Γ ins n => smH_ok (tabsG n Γ ins) (rhs_nil _) (smR_ok (tabsG n Γ ins) (rcs_cons CADo.okb (rc_n CADo.ok) (rcs_cons COCost.okb (rc_n COCost.ok) (rcs_cons CACost.okb (rc_n CACost.ok) (rcs_nil _)))))
def tree : TT (List E) :=
(.br (.b .ne .i64 (.v 1) (.c 0))
  (.leaf [])
  (.br (.b .lt .i64 (.v 0) (.c 0))
  (.bad 90)
  (.br (.b .le .i64 (.v 3) (.v 0))
  (.bad 90)
  (.br (.b .le .i64 (.c 0) (.v 0))
  (.br (.b .lt .i64 (.v 0) (.v 3))
  (.new 1000 (.w .i64 (.f 13 (.f 13 (.v 6) (.v 0) (.c 0)) (.c 0) (.c 0)))
  (.new 1001 (.w .i64 (.f 13 (.f 13 (.v 6) (.v 0) (.c 0)) (.c 1) (.c 0)))
  (.new 1002 (.w .i64 (.f 13 (.f 13 (.v 6) (.v 0) (.c 0)) (.c 2) (.c 0)))
  (.new 1003 (.w .i64 (.f 13 (.f 13 (.v 6) (.v 0) (.c 0)) (.c 3) (.c 0)))
  (.new 1004 (.w .i64 (.f 13 (.f 13 (.v 6) (.v 0) (.c 0)) (.c 4) (.c 0)))
  (.br (.nt (.f 13 (.f 13 (.v 6) (.v 0) (.c 0)) (.c 5) (.c 0)))
  (.bad 90)
  (.br (.b .le .i64 (.c 0) (.cl 1002 (-9223372036854775808) 9223372036854775807))
  (.br (.b .lt .i64 (.cl 1002 (-9223372036854775808) 9223372036854775807) (.c 32))
  (.br (.b .le .i64 (.cl 1000 (-9223372036854775808) 9223372036854775807) (.c 30))
  (.br (.b .le .i64 (.c 0) (.cl 1003 (-9223372036854775808) 9223372036854775807))
  (.br (.b .lt .i64 (.cl 1003 (-9223372036854775808) 9223372036854775807) (.c 32))
  (.new 1005 (.f 63 (.cl 1000 (-9223372036854775808) 9223372036854775807) (.w .i32 (.f 13 (.v 7) (.cl 1002 (-9223372036854775808) 9223372036854775807) (.c 0))) (.w .i32 (.f 13 (.v 7) (.cl 1003 (-9223372036854775808) 9223372036854775807) (.c 0))))
  (.new 1006 (.f 64 (.cl 1000 (-9223372036854775808) 9223372036854775807) (.w .i32 (.f 13 (.v 7) (.cl 1002 (-9223372036854775808) 9223372036854775807) (.c 0))) (.w .i32 (.f 13 (.v 7) (.cl 1003 (-9223372036854775808) 9223372036854775807) (.c 0))))
  (.br (.nt (.cl 1006 0 1))
  (.bad 90)
  (.br (.b .ne .i64 (.cl 1001 (-9223372036854775808) 9223372036854775807) (.c 0))
  (.br (.b .le .i64 (.c 0) (.cl 1001 (-9223372036854775808) 9223372036854775807))
  (.br (.b .lt .i64 (.cl 1001 (-9223372036854775808) 9223372036854775807) (.c 32))
  (.new 1007 (.f 65 (.cl 1000 (-9223372036854775808) 9223372036854775807) (.w .i32 (.f 13 (.v 7) (.cl 1002 (-9223372036854775808) 9223372036854775807) (.c 0))) (.c 0))
  (.bad 90))
  (.bad 200))
  (.bad 200))
  (.new 1007 (.f 65 (.cl 1000 (-9223372036854775808) 9223372036854775807) (.w .i32 (.f 13 (.v 7) (.cl 1002 (-9223372036854775808) 9223372036854775807) (.c 0))) (.c 0))
  (.bad 90))))))
  (.bad 200))
  (.bad 200))
  (.br (.b .eq .i64 (.cl 1000 (-9223372036854775808) 9223372036854775807) (.c 31))
  (.br (.b .ne .i64 (.cl 1001 (-9223372036854775808) 9223372036854775807) (.c 0))
  (.br (.b .le .i64 (.c 0) (.cl 1001 (-9223372036854775808) 9223372036854775807))
  (.br (.b .lt .i64 (.cl 1001 (-9223372036854775808) 9223372036854775807) (.c 32))
  (.bad 90)
  (.bad 200))
  (.bad 200))
  (.bad 90))
  (.br (.b .eq .i64 (.cl 1000 (-9223372036854775808) 9223372036854775807) (.c 32))
  (.br (.b .ne .i64 (.cl 1001 (-9223372036854775808) 9223372036854775807) (.c 0))
  (.br (.b .le .i64 (.c 0) (.cl 1001 (-9223372036854775808) 9223372036854775807))
  (.br (.b .lt .i64 (.cl 1001 (-9223372036854775808) 9223372036854775807) (.c 32))
  (.bad 90)
  (.bad 200))
  (.bad 200))
  (.bad 90))
  (.br (.b .eq .i64 (.cl 1000 (-9223372036854775808) 9223372036854775807) (.c 33))
  (.br (.b .ne .i64 (.cl 1001 (-9223372036854775808) 9223372036854775807) (.c 0))
  (.br (.b .le .i64 (.c 0) (.cl 1001 (-9223372036854775808) 9223372036854775807))
  (.br (.b .lt .i64 (.cl 1001 (-9223372036854775808) 9223372036854775807) (.c 32))
  (.bad 90)
  (.bad 200))
  (.bad 200))
  (.bad 90))
  (.br (.b .eq .i64 (.cl 1000 (-9223372036854775808) 9223372036854775807) (.c 34))
  (.new 1005 (.w .i32 (.b .padd .i64 (.w .i32 (.f 13 (.v 7) (.cl 1002 (-9223372036854775808) 9223372036854775807) (.c 0))) (.w .i32 (.cl 1004 (-9223372036854775808) 9223372036854775807))))
  (.br (.b .lt .i64 (.cl 1005 (-2147483648) 2147483647) (.c 0))
  (.bad 90)
  (.br (.b .le .i64 (.v 5) (.cl 1005 (-2147483648) 2147483647))
  (.bad 90)
  (.br (.b .le .i64 (.c 0) (.cl 1005 (-2147483648) 2147483647))
  (.br (.b .lt .i64 (.cl 1005 (-2147483648) 2147483647) (.v 5))
  (.br (.b .le .i64 (.c 1024) (.cl 1005 (-2147483648) 2147483647))
  (.br (.b .eq .i64 (.cl 1000 (-9223372036854775808) 9223372036854775807) (.c 35))
  (.br (.b .le .i64 (.c 0) (.cl 1001 (-9223372036854775808) 9223372036854775807))
  (.br (.b .lt .i64 (.cl 1001 (-9223372036854775808) 9223372036854775807) (.c 32))
  (.bad 90)
  (.bad 200))
  (.bad 200))
  (.br (.b .ne .i64 (.cl 1001 (-9223372036854775808) 9223372036854775807) (.c 0))
  (.br (.b .le .i64 (.c 0) (.cl 1001 (-9223372036854775808) 9223372036854775807))
  (.br (.b .lt .i64 (.cl 1001 (-9223372036854775808) 9223372036854775807) (.c 32))
  (.bad 90)
  (.bad 200))
  (.bad 200))
  (.bad 90)))
  (.br (.b .eq .i64 (.cl 1000 (-9223372036854775808) 9223372036854775807) (.c 35))
  (.br (.b .le .i64 (.c 0) (.cl 1001 (-9223372036854775808) 9223372036854775807))
  (.br (.b .lt .i64 (.cl 1001 (-9223372036854775808) 9223372036854775807) (.c 32))
  (.bad 90)
  (.bad 200))
  (.bad 200))
  (.br (.b .ne .i64 (.cl 1001 (-9223372036854775808) 9223372036854775807) (.c 0))
  (.br (.b .le .i64 (.c 0) (.cl 1001 (-9223372036854775808) 9223372036854775807))
  (.br (.b .lt .i64 (.cl 1001 (-9223372036854775808) 9223372036854775807) (.c 32))
  (.bad 90)
  (.bad 200))
  (.bad 200))
  (.bad 90))))
  (.bad 200))
  (.bad 200)))))
  (.br (.b .eq .i64 (.cl 1000 (-9223372036854775808) 9223372036854775807) (.c 35))
  (.new 1005 (.w .i32 (.b .padd .i64 (.w .i32 (.f 13 (.v 7) (.cl 1002 (-9223372036854775808) 9223372036854775807) (.c 0))) (.w .i32 (.cl 1004 (-9223372036854775808) 9223372036854775807))))
  (.br (.b .lt .i64 (.cl 1005 (-2147483648) 2147483647) (.c 0))
  (.bad 90)
  (.br (.b .le .i64 (.v 5) (.cl 1005 (-2147483648) 2147483647))
  (.bad 90)
  (.br (.b .le .i64 (.c 0) (.cl 1005 (-2147483648) 2147483647))
  (.br (.b .lt .i64 (.cl 1005 (-2147483648) 2147483647) (.v 5))
  (.br (.b .le .i64 (.c 1024) (.cl 1005 (-2147483648) 2147483647))
  (.br (.b .le .i64 (.c 0) (.cl 1001 (-9223372036854775808) 9223372036854775807))
  (.br (.b .lt .i64 (.cl 1001 (-9223372036854775808) 9223372036854775807) (.c 32))
  (.bad 90)
  (.bad 200))
  (.bad 200))
  (.br (.b .le .i64 (.c 0) (.cl 1001 (-9223372036854775808) 9223372036854775807))
  (.br (.b .lt .i64 (.cl 1001 (-9223372036854775808) 9223372036854775807) (.c 32))
  (.bad 90)
  (.bad 200))
  (.bad 200)))
  (.bad 200))
  (.bad 200)))))
  (.br (.b .le .i64 (.c 0) (.cl 1001 (-9223372036854775808) 9223372036854775807))
  (.br (.b .lt .i64 (.cl 1001 (-9223372036854775808) 9223372036854775807) (.c 32))
  (.br (.b .eq .i64 (.cl 1000 (-9223372036854775808) 9223372036854775807) (.c 36))
  (.br (.b .ne .i64 (.w .i32 (.f 13 (.v 7) (.cl 1001 (-9223372036854775808) 9223372036854775807) (.c 0))) (.w .i32 (.f 13 (.v 7) (.cl 1002 (-9223372036854775808) 9223372036854775807) (.c 0))))
  (.bad 90)
  (.bad 90))
  (.br (.b .eq .i64 (.cl 1000 (-9223372036854775808) 9223372036854775807) (.c 37))
  (.br (.b .eq .i64 (.w .i32 (.f 13 (.v 7) (.cl 1001 (-9223372036854775808) 9223372036854775807) (.c 0))) (.w .i32 (.f 13 (.v 7) (.cl 1002 (-9223372036854775808) 9223372036854775807) (.c 0))))
  (.bad 90)
  (.bad 90))
  (.br (.b .eq .i64 (.cl 1000 (-9223372036854775808) 9223372036854775807) (.c 38))
  (.br (.nt (.b .lt .i64 (.w .i32 (.f 13 (.v 7) (.cl 1001 (-9223372036854775808) 9223372036854775807) (.c 0))) (.w .i32 (.f 13 (.v 7) (.cl 1002 (-9223372036854775808) 9223372036854775807) (.c 0)))))
  (.bad 90)
  (.bad 90))
  (.br (.b .eq .i64 (.cl 1000 (-9223372036854775808) 9223372036854775807) (.c 40))
  (.br (.b .ne .i64 (.cl 1001 (-9223372036854775808) 9223372036854775807) (.c 0))
  (.new 1005 (.w .i64 (.b .padd .i64 (.v 2) (.f 66 (.cl 1000 (-9223372036854775808) 9223372036854775807) (.c 0) (.c 0))))
  (.bad 90))
  (.new 1005 (.w .i64 (.b .padd .i64 (.v 2) (.f 66 (.cl 1000 (-9223372036854775808) 9223372036854775807) (.c 0) (.c 0))))
  (.bad 90)))
  (.br (.b .eq .i64 (.cl 1000 (-9223372036854775808) 9223372036854775807) (.c 39))
  (.new 1005 (.w .i64 (.b .padd .i64 (.v 2) (.f 66 (.cl 1000 (-9223372036854775808) 9223372036854775807) (.c 0) (.c 0))))
  (.bad 90))
  (.br (.b .eq .i64 (.cl 1000 (-9223372036854775808) 9223372036854775807) (.c 41))
  (.bad 90)
  (.br (.b .eq .i64 (.cl 1000 (-9223372036854775808) 9223372036854775807) (.c 43))
  (.new 1005 (.w .i64 (.b .padd .i64 (.v 2) (.f 66 (.cl 1000 (-9223372036854775808) 9223372036854775807) (.c 0) (.c 0))))
  (.bad 90))
  (.bad 90))))))))
  (.bad 200))
  (.bad 200))))))))
  (.bad 200))
  (.bad 200))))))))
  (.bad 200))
  (.bad 200)))))

def P (pc state cost nc nm nr cq rg rm mq : Int) : Prop :=
 (((bool01 (state != 0)) ≠ 0 →
  True) ∧ ((bool01 (state != 0)) = 0 →
  (((bool01 (decide (pc < 0))) ≠ 0 →
   False) ∧ ((bool01 (decide (pc < 0))) = 0 →
   (((bool01 (decide (nc ≤ pc))) ≠ 0 →
    False) ∧ ((bool01 (decide (nc ≤ pc))) = 0 →
    (((bool01 (decide (0 ≤ pc))) ≠ 0 →
     (((bool01 (decide (pc < nc))) ≠ 0 →
      ∀ y1000 : Int, y1000 = (IntKind.wrap .i64 (rdZ (rdZ cq pc) 0)) → ((-9223372036854775808) ≤ y1000 ∧ y1000 ≤ 9223372036854775807) →
      ∀ y1001 : Int, y1001 = (IntKind.wrap .i64 (rdZ (rdZ cq pc) 1)) → ((-9223372036854775808) ≤ y1001 ∧ y1001 ≤ 9223372036854775807) →
      ∀ y1002 : Int, y1002 = (IntKind.wrap .i64 (rdZ (rdZ cq pc) 2)) → ((-9223372036854775808) ≤ y1002 ∧ y1002 ≤ 9223372036854775807) →
      ∀ y1003 : Int, y1003 = (IntKind.wrap .i64 (rdZ (rdZ cq pc) 3)) → ((-9223372036854775808) ≤ y1003 ∧ y1003 ≤ 9223372036854775807) →
      ∀ y1004 : Int, y1004 = (IntKind.wrap .i64 (rdZ (rdZ cq pc) 4)) → ((-9223372036854775808) ≤ y1004 ∧ y1004 ≤ 9223372036854775807) →
      (((bool01 ((rdZ (rdZ cq pc) 5) == 0)) ≠ 0 →
       False) ∧ ((bool01 ((rdZ (rdZ cq pc) 5) == 0)) = 0 →
       (((bool01 (decide (0 ≤ y1002))) ≠ 0 →
        (((bool01 (decide (y1002 < 32))) ≠ 0 →
         (((bool01 (decide (y1000 ≤ 30))) ≠ 0 →
          (((bool01 (decide (0 ≤ y1003))) ≠ 0 →
           (((bool01 (decide (y1003 < 32))) ≠ 0 →
            ∀ y1005 : Int, y1005 = (aluV y1000 (IntKind.wrap .i32 (rdZ rg y1002)) (IntKind.wrap .i32 (rdZ rg y1003))) → ((-2147483648) ≤ y1005 ∧ y1005 ≤ 2147483647) →
            ∀ y1006 : Int, y1006 = (aluK y1000 (IntKind.wrap .i32 (rdZ rg y1002)) (IntKind.wrap .i32 (rdZ rg y1003))) → (0 ≤ y1006 ∧ y1006 ≤ 1) →
            (((bool01 (y1006 == 0)) ≠ 0 →
             False) ∧ ((bool01 (y1006 == 0)) = 0 →
             (((bool01 (y1001 != 0)) ≠ 0 →
              (((bool01 (decide (0 ≤ y1001))) ≠ 0 →
               (((bool01 (decide (y1001 < 32))) ≠ 0 →
                ∀ y1007 : Int, y1007 = (aluC y1000 (IntKind.wrap .i32 (rdZ rg y1002))) → (0 ≤ y1007 ∧ y1007 ≤ 67) →
                False) ∧ ((bool01 (decide (y1001 < 32))) = 0 →
                False))) ∧ ((bool01 (decide (0 ≤ y1001))) = 0 →
               False))) ∧ ((bool01 (y1001 != 0)) = 0 →
              ∀ y1007 : Int, y1007 = (aluC y1000 (IntKind.wrap .i32 (rdZ rg y1002))) → (0 ≤ y1007 ∧ y1007 ≤ 67) →
              False))))) ∧ ((bool01 (decide (y1003 < 32))) = 0 →
            False))) ∧ ((bool01 (decide (0 ≤ y1003))) = 0 →
           False))) ∧ ((bool01 (decide (y1000 ≤ 30))) = 0 →
          (((bool01 (y1000 == 31)) ≠ 0 →
           (((bool01 (y1001 != 0)) ≠ 0 →
            (((bool01 (decide (0 ≤ y1001))) ≠ 0 →
             (((bool01 (decide (y1001 < 32))) ≠ 0 →
              False) ∧ ((bool01 (decide (y1001 < 32))) = 0 →
              False))) ∧ ((bool01 (decide (0 ≤ y1001))) = 0 →
             False))) ∧ ((bool01 (y1001 != 0)) = 0 →
            False))) ∧ ((bool01 (y1000 == 31)) = 0 →
           (((bool01 (y1000 == 32)) ≠ 0 →
            (((bool01 (y1001 != 0)) ≠ 0 →
             (((bool01 (decide (0 ≤ y1001))) ≠ 0 →
              (((bool01 (decide (y1001 < 32))) ≠ 0 →
               False) ∧ ((bool01 (decide (y1001 < 32))) = 0 →
               False))) ∧ ((bool01 (decide (0 ≤ y1001))) = 0 →
              False))) ∧ ((bool01 (y1001 != 0)) = 0 →
             False))) ∧ ((bool01 (y1000 == 32)) = 0 →
            (((bool01 (y1000 == 33)) ≠ 0 →
             (((bool01 (y1001 != 0)) ≠ 0 →
              (((bool01 (decide (0 ≤ y1001))) ≠ 0 →
               (((bool01 (decide (y1001 < 32))) ≠ 0 →
                False) ∧ ((bool01 (decide (y1001 < 32))) = 0 →
                False))) ∧ ((bool01 (decide (0 ≤ y1001))) = 0 →
               False))) ∧ ((bool01 (y1001 != 0)) = 0 →
              False))) ∧ ((bool01 (y1000 == 33)) = 0 →
             (((bool01 (y1000 == 34)) ≠ 0 →
              ∀ y1005 : Int, y1005 = (IntKind.wrap .i32 ((IntKind.wrap .i32 (rdZ rg y1002)) + (IntKind.wrap .i32 y1004))) → ((-2147483648) ≤ y1005 ∧ y1005 ≤ 2147483647) →
              (((bool01 (decide (y1005 < 0))) ≠ 0 →
               False) ∧ ((bool01 (decide (y1005 < 0))) = 0 →
               (((bool01 (decide (nr ≤ y1005))) ≠ 0 →
                False) ∧ ((bool01 (decide (nr ≤ y1005))) = 0 →
                (((bool01 (decide (0 ≤ y1005))) ≠ 0 →
                 (((bool01 (decide (y1005 < nr))) ≠ 0 →
                  (((bool01 (decide (1024 ≤ y1005))) ≠ 0 →
                   (((bool01 (y1000 == 35)) ≠ 0 →
                    (((bool01 (decide (0 ≤ y1001))) ≠ 0 →
                     (((bool01 (decide (y1001 < 32))) ≠ 0 →
                      False) ∧ ((bool01 (decide (y1001 < 32))) = 0 →
                      False))) ∧ ((bool01 (decide (0 ≤ y1001))) = 0 →
                     False))) ∧ ((bool01 (y1000 == 35)) = 0 →
                    (((bool01 (y1001 != 0)) ≠ 0 →
                     (((bool01 (decide (0 ≤ y1001))) ≠ 0 →
                      (((bool01 (decide (y1001 < 32))) ≠ 0 →
                       False) ∧ ((bool01 (decide (y1001 < 32))) = 0 →
                       False))) ∧ ((bool01 (decide (0 ≤ y1001))) = 0 →
                      False))) ∧ ((bool01 (y1001 != 0)) = 0 →
                     False))))) ∧ ((bool01 (decide (1024 ≤ y1005))) = 0 →
                   (((bool01 (y1000 == 35)) ≠ 0 →
                    (((bool01 (decide (0 ≤ y1001))) ≠ 0 →
                     (((bool01 (decide (y1001 < 32))) ≠ 0 →
                      False) ∧ ((bool01 (decide (y1001 < 32))) = 0 →
                      False))) ∧ ((bool01 (decide (0 ≤ y1001))) = 0 →
                     False))) ∧ ((bool01 (y1000 == 35)) = 0 →
                    (((bool01 (y1001 != 0)) ≠ 0 →
                     (((bool01 (decide (0 ≤ y1001))) ≠ 0 →
                      (((bool01 (decide (y1001 < 32))) ≠ 0 →
                       False) ∧ ((bool01 (decide (y1001 < 32))) = 0 →
                       False))) ∧ ((bool01 (decide (0 ≤ y1001))) = 0 →
                      False))) ∧ ((bool01 (y1001 != 0)) = 0 →
                     False))))))) ∧ ((bool01 (decide (y1005 < nr))) = 0 →
                  False))) ∧ ((bool01 (decide (0 ≤ y1005))) = 0 →
                 False))))))) ∧ ((bool01 (y1000 == 34)) = 0 →
              (((bool01 (y1000 == 35)) ≠ 0 →
               ∀ y1005 : Int, y1005 = (IntKind.wrap .i32 ((IntKind.wrap .i32 (rdZ rg y1002)) + (IntKind.wrap .i32 y1004))) → ((-2147483648) ≤ y1005 ∧ y1005 ≤ 2147483647) →
               (((bool01 (decide (y1005 < 0))) ≠ 0 →
                False) ∧ ((bool01 (decide (y1005 < 0))) = 0 →
                (((bool01 (decide (nr ≤ y1005))) ≠ 0 →
                 False) ∧ ((bool01 (decide (nr ≤ y1005))) = 0 →
                 (((bool01 (decide (0 ≤ y1005))) ≠ 0 →
                  (((bool01 (decide (y1005 < nr))) ≠ 0 →
                   (((bool01 (decide (1024 ≤ y1005))) ≠ 0 →
                    (((bool01 (decide (0 ≤ y1001))) ≠ 0 →
                     (((bool01 (decide (y1001 < 32))) ≠ 0 →
                      False) ∧ ((bool01 (decide (y1001 < 32))) = 0 →
                      False))) ∧ ((bool01 (decide (0 ≤ y1001))) = 0 →
                     False))) ∧ ((bool01 (decide (1024 ≤ y1005))) = 0 →
                    (((bool01 (decide (0 ≤ y1001))) ≠ 0 →
                     (((bool01 (decide (y1001 < 32))) ≠ 0 →
                      False) ∧ ((bool01 (decide (y1001 < 32))) = 0 →
                      False))) ∧ ((bool01 (decide (0 ≤ y1001))) = 0 →
                     False))))) ∧ ((bool01 (decide (y1005 < nr))) = 0 →
                   False))) ∧ ((bool01 (decide (0 ≤ y1005))) = 0 →
                  False))))))) ∧ ((bool01 (y1000 == 35)) = 0 →
               (((bool01 (decide (0 ≤ y1001))) ≠ 0 →
                (((bool01 (decide (y1001 < 32))) ≠ 0 →
                 (((bool01 (y1000 == 36)) ≠ 0 →
                  (((bool01 ((IntKind.wrap .i32 (rdZ rg y1001)) != (IntKind.wrap .i32 (rdZ rg y1002)))) ≠ 0 →
                   False) ∧ ((bool01 ((IntKind.wrap .i32 (rdZ rg y1001)) != (IntKind.wrap .i32 (rdZ rg y1002)))) = 0 →
                   False))) ∧ ((bool01 (y1000 == 36)) = 0 →
                  (((bool01 (y1000 == 37)) ≠ 0 →
                   (((bool01 ((IntKind.wrap .i32 (rdZ rg y1001)) == (IntKind.wrap .i32 (rdZ rg y1002)))) ≠ 0 →
                    False) ∧ ((bool01 ((IntKind.wrap .i32 (rdZ rg y1001)) == (IntKind.wrap .i32 (rdZ rg y1002)))) = 0 →
                    False))) ∧ ((bool01 (y1000 == 37)) = 0 →
                   (((bool01 (y1000 == 38)) ≠ 0 →
                    (((bool01 ((bool01 (decide ((IntKind.wrap .i32 (rdZ rg y1001)) < (IntKind.wrap .i32 (rdZ rg y1002))))) == 0)) ≠ 0 →
                     False) ∧ ((bool01 ((bool01 (decide ((IntKind.wrap .i32 (rdZ rg y1001)) < (IntKind.wrap .i32 (rdZ rg y1002))))) == 0)) = 0 →
                     False))) ∧ ((bool01 (y1000 == 38)) = 0 →
                    (((bool01 (y1000 == 40)) ≠ 0 →
                     (((bool01 (y1001 != 0)) ≠ 0 →
                      ∀ y1005 : Int, y1005 = (IntKind.wrap .i64 (cost + (opCo y1000))) → ((-9223372036854775808) ≤ y1005 ∧ y1005 ≤ 9223372036854775807) →
                      False) ∧ ((bool01 (y1001 != 0)) = 0 →
                      ∀ y1005 : Int, y1005 = (IntKind.wrap .i64 (cost + (opCo y1000))) → ((-9223372036854775808) ≤ y1005 ∧ y1005 ≤ 9223372036854775807) →
                      False))) ∧ ((bool01 (y1000 == 40)) = 0 →
                     (((bool01 (y1000 == 39)) ≠ 0 →
                      ∀ y1005 : Int, y1005 = (IntKind.wrap .i64 (cost + (opCo y1000))) → ((-9223372036854775808) ≤ y1005 ∧ y1005 ≤ 9223372036854775807) →
                      False) ∧ ((bool01 (y1000 == 39)) = 0 →
                      (((bool01 (y1000 == 41)) ≠ 0 →
                       False) ∧ ((bool01 (y1000 == 41)) = 0 →
                       (((bool01 (y1000 == 43)) ≠ 0 →
                        ∀ y1005 : Int, y1005 = (IntKind.wrap .i64 (cost + (opCo y1000))) → ((-9223372036854775808) ≤ y1005 ∧ y1005 ≤ 9223372036854775807) →
                        False) ∧ ((bool01 (y1000 == 43)) = 0 →
                        False))))))))))))))) ∧ ((bool01 (decide (y1001 < 32))) = 0 →
                 False))) ∧ ((bool01 (decide (0 ≤ y1001))) = 0 →
                False))))))))))))))) ∧ ((bool01 (decide (y1002 < 32))) = 0 →
         False))) ∧ ((bool01 (decide (0 ≤ y1002))) = 0 →
        False))))) ∧ ((bool01 (decide (pc < nc))) = 0 →
      False))) ∧ ((bool01 (decide (0 ≤ pc))) = 0 →
     False))))))))

theorem bne_no {s : Int} (h : s ≠ 0) (h2 : bool01 (s != 0) = 0) : False := by simp [bool01, h] at h2
theorem holds (pc state cost nc nm nr cq rg rm mq : Int) (l_pc : -9223372036854775808 ≤ pc) (u_pc : pc ≤ 9223372036854775807) (l_state : -9223372036854775808 ≤ state) (u_state : state ≤ 9223372036854775807) (l_cost : -9223372036854775808 ≤ cost) (u_cost : cost ≤ 9223372036854775807) (l_nc : 0 ≤ nc) (u_nc : nc ≤ 16384) (l_nm : 0 ≤ nm) (u_nm : nm ≤ 999999) (l_nr : 0 ≤ nr) (u_nr : nr ≤ 2048) (h_pre0 : state ≠ 0) : P pc state cost nc nm nr cq rg rm mq := by
  unfold P
  exact ⟨fun _ => trivial, fun h => (bne_no h_pre0 h).elim⟩

theorem plain (i : Nat → Int) (v : Nat → Value) (ro : Nat → RO) (p : Program) : TT.hdP (rk.rh.cx (cxOf 2)) (rsF ⟨i, fN, v, ro, p⟩ rk.rs) tree ⟨i, fN, v, ro, p⟩ = P (i 0) (i 1) (i 2) (i 3) (i 4) (i 5) (i 6) (i 7) (i 8) (i 9) := by kernel_rfl
theorem ran : TT.beq (projL (rk.pj (cxOf 2)) (runH us (fun _ _ => .auto) rk 2 rk.f rk.args ⟨rk.inb, []⟩)) tree = true := by kernel_rfl
theorem fineT : (TT.fine (rk.rh.cx (cxOf 2)) 1000 [] tree && (rk.rh.cx (cxOf 2)).okB 1000 && SV.vbL 1000 rk.args && TT.tidy (rk.rh.cx (cxOf 2)) [] tree) = true := by kernel_rfl
theorem fineB : blVb 1000 rk.inb = true := by kernel_rfl
theorem ok : RhOk (cxOf 2) rk.rh :=
  rk_run (runH_ok us_ok (fun _ _ => .auto) rk 2) ran fineT fineB okk fun ρ hρ hpre => by
    obtain ⟨i, f, v, ro, p⟩ := ρ
    have hf : f = fN := hρ.hF
    subst hf
    rw [plain]
    exact holds (i 0) (i 1) (i 2) (i 3) (i 4) (i 5) (i 6) (i 7) (i 8) (i 9) (hρ.hi 0 _ rfl).1 (hρ.hi 0 _ rfl).2 (hρ.hi 1 _ rfl).1 (hρ.hi 1 _ rfl).2 (hρ.hi 2 _ rfl).1 (hρ.hi 2 _ rfl).2 (hρ.hi 3 _ rfl).1 (hρ.hi 3 _ rfl).2 (hρ.hi 4 _ rfl).1 (hρ.hi 4 _ rfl).2 (hρ.hi 5 _ rfl).1 (hρ.hi 5 _ rfl).2 (hpre _ (List.mem_of_getElem? (i := 0) rfl))
end Go.Proofs.YtlhcaeakfbokmaaDoor.CCStepN
