/-
  What code.Decode answers, as numbers of what it is handed: its run by the engine, and the plain statement behind it. No condition.
-/
import Derived.Test.YtlhcaeakfbokmaaDoorGab
import Derived.Test.YtlhcaeakfbokmaaDoorGmC
namespace Go.Proofs.YtlhcaeakfbokmaaDoor.CCDec
open Go.Eng Go.RowKit
set_option linter.unusedVariables false
set_option linter.unusedSimpArgs false
set_option maxRecDepth 100000
def rc : Rc := ⟨18, [none], [.int .u32], [], .tup [some 5, none], [.int .i64 (.f 67 (.v 0) (.c 0) (.c 0)), .int .i64 (.f 67 (.v 0) (.c 1) (.c 0)), .int .i64 (.f 67 (.v 0) (.c 2) (.c 0)), .int .i64 (.f 67 (.v 0) (.c 3) (.c 0)), .int .i64 (.f 67 (.v 0) (.c 4) (.c 0)), .int .i64 (.f 67 (.v 0) (.c 5) (.c 0))]⟩
theorem okb : rc.ok = true := by kernel_rfl
noncomputable def us : SMs := fun Γ ins n => smH (cxG n Γ ins) [] (smR (cxG n Γ ins) [])
theorem us_ok : SMsOk us := fun Γ ins n => smH_ok (tabsG n Γ ins) (rhs_nil _) (smR_ok (tabsG n Γ ins) (rcs_nil _))
def tree : TT (List E) :=
(.br (.b .le .i64 (.c 1) (.b .shr .u32 (.v 0) (.c 26)))
  (.br (.nt (.b .le .i64 (.b .shr .u32 (.v 0) (.c 26)) (.c 43)))
  (.leaf [(.c 0), (.c 0), (.c 0), (.c 0), (.c 0), (.c 2)])
  (.br (.b .le .i64 (.b .shr .u32 (.v 0) (.c 26)) (.c 23))
  (.new 1000 (.b .and .u32 (.b .and .u32 (.b .shr .u32 (.v 0) (.c 21)) (.c 31)) (.c 31))
  (.new 1001 (.b .or .u32 (.b .shl .u32 (.b .shr .u32 (.v 0) (.c 26)) (.c 26)) (.b .shl .u32 (.cl 1000 0 31) (.c 21)))
  (.new 1002 (.b .and .u32 (.b .and .u32 (.b .shr .u32 (.v 0) (.c 16)) (.c 31)) (.c 31))
  (.new 1003 (.b .and .u32 (.b .and .u32 (.b .shr .u32 (.v 0) (.c 11)) (.c 31)) (.c 31))
  (.new 1004 (.b .or .u32 (.b .or .u32 (.cl 1001 0 4294967295) (.b .shl .u32 (.cl 1002 0 31) (.c 16))) (.b .shl .u32 (.cl 1003 0 31) (.c 11)))
  (.br (.b .ne .i64 (.b .or .u32 (.cl 1004 0 4294967295) (.c 0)) (.v 0))
  (.leaf [(.c 0), (.c 0), (.c 0), (.c 0), (.c 0), (.c 3)])
  (.leaf [(.b .shr .u32 (.v 0) (.c 26)), (.b .and .u32 (.b .shr .u32 (.v 0) (.c 21)) (.c 31)), (.b .and .u32 (.b .shr .u32 (.v 0) (.c 16)) (.c 31)), (.b .and .u32 (.b .shr .u32 (.v 0) (.c 11)) (.c 31)), (.c 0), (.c 0)])))))))
  (.br (.b .le .i64 (.b .shr .u32 (.v 0) (.c 26)) (.c 30))
  (.new 1000 (.b .and .u32 (.b .and .u32 (.b .shr .u32 (.v 0) (.c 21)) (.c 31)) (.c 31))
  (.new 1001 (.b .or .u32 (.b .shl .u32 (.b .shr .u32 (.v 0) (.c 26)) (.c 26)) (.b .shl .u32 (.cl 1000 0 31) (.c 21)))
  (.new 1002 (.b .and .u32 (.b .and .u32 (.b .shr .u32 (.v 0) (.c 16)) (.c 31)) (.c 31))
  (.new 1003 (.b .or .u32 (.b .or .u32 (.cl 1001 0 4294967295) (.b .shl .u32 (.cl 1002 0 31) (.c 16))) (.c 0))
  (.br (.b .ne .i64 (.b .or .u32 (.cl 1003 0 4294967295) (.c 0)) (.v 0))
  (.leaf [(.c 0), (.c 0), (.c 0), (.c 0), (.c 0), (.c 3)])
  (.leaf [(.b .shr .u32 (.v 0) (.c 26)), (.b .and .u32 (.b .shr .u32 (.v 0) (.c 21)) (.c 31)), (.b .and .u32 (.b .shr .u32 (.v 0) (.c 16)) (.c 31)), (.c 0), (.c 0), (.c 0)]))))))
  (.br (.b .eq .i64 (.b .shr .u32 (.v 0) (.c 26)) (.c 31))
  (.new 1000 (.b .and .u32 (.b .and .u32 (.b .shr .u32 (.v 0) (.c 21)) (.c 31)) (.c 31))
  (.new 1001 (.b .or .u32 (.b .shl .u32 (.b .shr .u32 (.v 0) (.c 26)) (.c 26)) (.b .shl .u32 (.cl 1000 0 31) (.c 21)))
  (.new 1002 (.b .and .u32 (.b .and .u32 (.b .shr .u32 (.v 0) (.c 16)) (.c 31)) (.c 31))
  (.new 1003 (.b .or .u32 (.b .or .u32 (.cl 1001 0 4294967295) (.b .shl .u32 (.cl 1002 0 31) (.c 16))) (.c 0))
  (.new 1004 (.w .i16 (.b .and .u32 (.b .shr .u32 (.v 0) (.c 0)) (.c 65535)))
  (.new 1005 (.b .shl .u32 (.b .and .u32 (.w .u32 (.cl 1004 (-32768) 32767)) (.c 65535)) (.c 0))
  (.br (.b .ne .i64 (.b .or .u32 (.cl 1003 0 4294967295) (.cl 1005 0 65535)) (.v 0))
  (.leaf [(.c 0), (.c 0), (.c 0), (.c 0), (.c 0), (.c 3)])
  (.leaf [(.b .shr .u32 (.v 0) (.c 26)), (.b .and .u32 (.b .shr .u32 (.v 0) (.c 21)) (.c 31)), (.b .and .u32 (.b .shr .u32 (.v 0) (.c 16)) (.c 31)), (.c 0), (.w .i16 (.b .and .u32 (.b .shr .u32 (.v 0) (.c 0)) (.c 65535))), (.c 0)]))))))))
  (.br (.b .eq .i64 (.b .shr .u32 (.v 0) (.c 26)) (.c 33))
  (.new 1000 (.b .and .u32 (.b .and .u32 (.b .shr .u32 (.v 0) (.c 21)) (.c 31)) (.c 31))
  (.new 1001 (.b .or .u32 (.b .shl .u32 (.b .shr .u32 (.v 0) (.c 26)) (.c 26)) (.b .shl .u32 (.cl 1000 0 31) (.c 21)))
  (.new 1002 (.b .and .u32 (.b .and .u32 (.b .shr .u32 (.v 0) (.c 0)) (.c 65535)) (.c 65535))
  (.new 1003 (.b .or .u32 (.b .or .u32 (.b .or .u32 (.cl 1001 0 4294967295) (.c 0)) (.c 0)) (.b .shl .u32 (.cl 1002 0 65535) (.c 0)))
  (.br (.b .ne .i64 (.cl 1003 0 4294967295) (.v 0))
  (.leaf [(.c 0), (.c 0), (.c 0), (.c 0), (.c 0), (.c 3)])
  (.leaf [(.b .shr .u32 (.v 0) (.c 26)), (.b .and .u32 (.b .shr .u32 (.v 0) (.c 21)) (.c 31)), (.c 0), (.c 0), (.b .and .u32 (.b .shr .u32 (.v 0) (.c 0)) (.c 65535)), (.c 0)]))))))
  (.br (.b .eq .i64 (.b .shr .u32 (.v 0) (.c 26)) (.c 40))
  (.new 1000 (.b .and .u32 (.b .and .u32 (.b .shr .u32 (.v 0) (.c 21)) (.c 31)) (.c 31))
  (.new 1001 (.b .or .u32 (.b .shl .u32 (.b .shr .u32 (.v 0) (.c 26)) (.c 26)) (.b .shl .u32 (.cl 1000 0 31) (.c 21)))
  (.new 1002 (.b .and .u32 (.b .and .u32 (.b .shr .u32 (.v 0) (.c 0)) (.c 65535)) (.c 65535))
  (.new 1003 (.b .or .u32 (.b .or .u32 (.b .or .u32 (.cl 1001 0 4294967295) (.c 0)) (.c 0)) (.b .shl .u32 (.cl 1002 0 65535) (.c 0)))
  (.br (.b .ne .i64 (.cl 1003 0 4294967295) (.v 0))
  (.leaf [(.c 0), (.c 0), (.c 0), (.c 0), (.c 0), (.c 3)])
  (.leaf [(.b .shr .u32 (.v 0) (.c 26)), (.b .and .u32 (.b .shr .u32 (.v 0) (.c 21)) (.c 31)), (.c 0), (.c 0), (.b .and .u32 (.b .shr .u32 (.v 0) (.c 0)) (.c 65535)), (.c 0)]))))))
  (.br (.b .lt .i64 (.b .shr .u32 (.v 0) (.c 26)) (.c 39))
  (.new 1000 (.b .and .u32 (.b .and .u32 (.b .shr .u32 (.v 0) (.c 21)) (.c 31)) (.c 31))
  (.new 1001 (.b .or .u32 (.b .shl .u32 (.b .shr .u32 (.v 0) (.c 26)) (.c 26)) (.b .shl .u32 (.cl 1000 0 31) (.c 21)))
  (.new 1002 (.b .and .u32 (.b .and .u32 (.b .shr .u32 (.v 0) (.c 16)) (.c 31)) (.c 31))
  (.new 1003 (.b .or .u32 (.b .or .u32 (.cl 1001 0 4294967295) (.b .shl .u32 (.cl 1002 0 31) (.c 16))) (.c 0))
  (.new 1004 (.b .and .u32 (.b .and .u32 (.b .shr .u32 (.v 0) (.c 0)) (.c 65535)) (.c 65535))
  (.br (.b .ne .i64 (.b .or .u32 (.cl 1003 0 4294967295) (.b .shl .u32 (.cl 1004 0 65535) (.c 0))) (.v 0))
  (.leaf [(.c 0), (.c 0), (.c 0), (.c 0), (.c 0), (.c 3)])
  (.leaf [(.b .shr .u32 (.v 0) (.c 26)), (.b .and .u32 (.b .shr .u32 (.v 0) (.c 21)) (.c 31)), (.b .and .u32 (.b .shr .u32 (.v 0) (.c 16)) (.c 31)), (.c 0), (.b .and .u32 (.b .shr .u32 (.v 0) (.c 0)) (.c 65535)), (.c 0)])))))))
  (.br (.b .eq .i64 (.b .shr .u32 (.v 0) (.c 26)) (.c 39))
  (.new 1000 (.b .or .u32 (.b .shl .u32 (.b .shr .u32 (.v 0) (.c 26)) (.c 26)) (.c 0))
  (.new 1001 (.b .and .u32 (.b .and .u32 (.b .shr .u32 (.v 0) (.c 0)) (.c 65535)) (.c 65535))
  (.new 1002 (.b .or .u32 (.b .or .u32 (.b .or .u32 (.cl 1000 0 4294967295) (.c 0)) (.c 0)) (.b .shl .u32 (.cl 1001 0 65535) (.c 0)))
  (.br (.b .ne .i64 (.cl 1002 0 4294967295) (.v 0))
  (.leaf [(.c 0), (.c 0), (.c 0), (.c 0), (.c 0), (.c 3)])
  (.leaf [(.b .shr .u32 (.v 0) (.c 26)), (.c 0), (.c 0), (.c 0), (.b .and .u32 (.b .shr .u32 (.v 0) (.c 0)) (.c 65535)), (.c 0)])))))
  (.br (.b .eq .i64 (.b .shr .u32 (.v 0) (.c 26)) (.c 41))
  (.new 1000 (.b .or .u32 (.b .shl .u32 (.b .shr .u32 (.v 0) (.c 26)) (.c 26)) (.c 0))
  (.new 1001 (.b .and .u32 (.b .and .u32 (.b .shr .u32 (.v 0) (.c 16)) (.c 31)) (.c 31))
  (.new 1002 (.b .or .u32 (.b .or .u32 (.cl 1000 0 4294967295) (.b .shl .u32 (.cl 1001 0 31) (.c 16))) (.c 0))
  (.br (.b .ne .i64 (.b .or .u32 (.cl 1002 0 4294967295) (.c 0)) (.v 0))
  (.leaf [(.c 0), (.c 0), (.c 0), (.c 0), (.c 0), (.c 3)])
  (.leaf [(.b .shr .u32 (.v 0) (.c 26)), (.c 0), (.b .and .u32 (.b .shr .u32 (.v 0) (.c 16)) (.c 31)), (.c 0), (.c 0), (.c 0)])))))
  (.new 1000 (.b .or .u32 (.b .shl .u32 (.b .shr .u32 (.v 0) (.c 26)) (.c 26)) (.c 0))
  (.new 1001 (.b .or .u32 (.b .or .u32 (.b .or .u32 (.cl 1000 0 4294967295) (.c 0)) (.c 0)) (.c 0))
  (.br (.b .ne .i64 (.cl 1001 0 4294967295) (.v 0))
  (.leaf [(.c 0), (.c 0), (.c 0), (.c 0), (.c 0), (.c 3)])
  (.leaf [(.b .shr .u32 (.v 0) (.c 26)), (.c 0), (.c 0), (.c 0), (.c 0), (.c 0)])))))))))))))
  (.leaf [(.c 0), (.c 0), (.c 0), (.c 0), (.c 0), (.c 2)]))

def P (p0 : Int) : Prop :=
 (((bool01 (decide (1 ≤ (shrZ .u32 p0 26)))) ≠ 0 →
  (((bool01 ((bool01 (decide ((shrZ .u32 p0 26) ≤ 43))) == 0)) ≠ 0 →
   (0 : Int) = (decZ p0 0) ∧ (0 : Int) = (decZ p0 1) ∧ (0 : Int) = (decZ p0 2) ∧ (0 : Int) = (decZ p0 3) ∧ (0 : Int) = (decZ p0 4) ∧ (2 : Int) = (decZ p0 5) ∧ True) ∧ ((bool01 ((bool01 (decide ((shrZ .u32 p0 26) ≤ 43))) == 0)) = 0 →
   (((bool01 (decide ((shrZ .u32 p0 26) ≤ 23))) ≠ 0 →
    ∀ y1000 : Int, y1000 = (band .u32 (band .u32 (shrZ .u32 p0 21) 31) 31) → (0 ≤ y1000 ∧ y1000 ≤ 31) →
    ∀ y1001 : Int, y1001 = (bor .u32 (shlZ .u32 (shrZ .u32 p0 26) 26) (shlZ .u32 y1000 21)) → (0 ≤ y1001 ∧ y1001 ≤ 4294967295) →
    ∀ y1002 : Int, y1002 = (band .u32 (band .u32 (shrZ .u32 p0 16) 31) 31) → (0 ≤ y1002 ∧ y1002 ≤ 31) →
    ∀ y1003 : Int, y1003 = (band .u32 (band .u32 (shrZ .u32 p0 11) 31) 31) → (0 ≤ y1003 ∧ y1003 ≤ 31) →
    ∀ y1004 : Int, y1004 = (bor .u32 (bor .u32 y1001 (shlZ .u32 y1002 16)) (shlZ .u32 y1003 11)) → (0 ≤ y1004 ∧ y1004 ≤ 4294967295) →
    (((bool01 ((bor .u32 y1004 0) != p0)) ≠ 0 →
     (0 : Int) = (decZ p0 0) ∧ (0 : Int) = (decZ p0 1) ∧ (0 : Int) = (decZ p0 2) ∧ (0 : Int) = (decZ p0 3) ∧ (0 : Int) = (decZ p0 4) ∧ (3 : Int) = (decZ p0 5) ∧ True) ∧ ((bool01 ((bor .u32 y1004 0) != p0)) = 0 →
     ((shrZ .u32 p0 26) : Int) = (decZ p0 0) ∧ ((band .u32 (shrZ .u32 p0 21) 31) : Int) = (decZ p0 1) ∧ ((band .u32 (shrZ .u32 p0 16) 31) : Int) = (decZ p0 2) ∧ ((band .u32 (shrZ .u32 p0 11) 31) : Int) = (decZ p0 3) ∧ (0 : Int) = (decZ p0 4) ∧ (0 : Int) = (decZ p0 5) ∧ True))) ∧ ((bool01 (decide ((shrZ .u32 p0 26) ≤ 23))) = 0 →
    (((bool01 (decide ((shrZ .u32 p0 26) ≤ 30))) ≠ 0 →
     ∀ y1000 : Int, y1000 = (band .u32 (band .u32 (shrZ .u32 p0 21) 31) 31) → (0 ≤ y1000 ∧ y1000 ≤ 31) →
     ∀ y1001 : Int, y1001 = (bor .u32 (shlZ .u32 (shrZ .u32 p0 26) 26) (shlZ .u32 y1000 21)) → (0 ≤ y1001 ∧ y1001 ≤ 4294967295) →
     ∀ y1002 : Int, y1002 = (band .u32 (band .u32 (shrZ .u32 p0 16) 31) 31) → (0 ≤ y1002 ∧ y1002 ≤ 31) →
     ∀ y1003 : Int, y1003 = (bor .u32 (bor .u32 y1001 (shlZ .u32 y1002 16)) 0) → (0 ≤ y1003 ∧ y1003 ≤ 4294967295) →
     (((bool01 ((bor .u32 y1003 0) != p0)) ≠ 0 →
      (0 : Int) = (decZ p0 0) ∧ (0 : Int) = (decZ p0 1) ∧ (0 : Int) = (decZ p0 2) ∧ (0 : Int) = (decZ p0 3) ∧ (0 : Int) = (decZ p0 4) ∧ (3 : Int) = (decZ p0 5) ∧ True) ∧ ((bool01 ((bor .u32 y1003 0) != p0)) = 0 →
      ((shrZ .u32 p0 26) : Int) = (decZ p0 0) ∧ ((band .u32 (shrZ .u32 p0 21) 31) : Int) = (decZ p0 1) ∧ ((band .u32 (shrZ .u32 p0 16) 31) : Int) = (decZ p0 2) ∧ (0 : Int) = (decZ p0 3) ∧ (0 : Int) = (decZ p0 4) ∧ (0 : Int) = (decZ p0 5) ∧ True))) ∧ ((bool01 (decide ((shrZ .u32 p0 26) ≤ 30))) = 0 →
     (((bool01 ((shrZ .u32 p0 26) == 31)) ≠ 0 →
      ∀ y1000 : Int, y1000 = (band .u32 (band .u32 (shrZ .u32 p0 21) 31) 31) → (0 ≤ y1000 ∧ y1000 ≤ 31) →
      ∀ y1001 : Int, y1001 = (bor .u32 (shlZ .u32 (shrZ .u32 p0 26) 26) (shlZ .u32 y1000 21)) → (0 ≤ y1001 ∧ y1001 ≤ 4294967295) →
      ∀ y1002 : Int, y1002 = (band .u32 (band .u32 (shrZ .u32 p0 16) 31) 31) → (0 ≤ y1002 ∧ y1002 ≤ 31) →
      ∀ y1003 : Int, y1003 = (bor .u32 (bor .u32 y1001 (shlZ .u32 y1002 16)) 0) → (0 ≤ y1003 ∧ y1003 ≤ 4294967295) →
      ∀ y1004 : Int, y1004 = (IntKind.wrap .i16 (band .u32 (shrZ .u32 p0 0) 65535)) → ((-32768) ≤ y1004 ∧ y1004 ≤ 32767) →
      ∀ y1005 : Int, y1005 = (shlZ .u32 (band .u32 (IntKind.wrap .u32 y1004) 65535) 0) → (0 ≤ y1005 ∧ y1005 ≤ 65535) →
      (((bool01 ((bor .u32 y1003 y1005) != p0)) ≠ 0 →
       (0 : Int) = (decZ p0 0) ∧ (0 : Int) = (decZ p0 1) ∧ (0 : Int) = (decZ p0 2) ∧ (0 : Int) = (decZ p0 3) ∧ (0 : Int) = (decZ p0 4) ∧ (3 : Int) = (decZ p0 5) ∧ True) ∧ ((bool01 ((bor .u32 y1003 y1005) != p0)) = 0 →
       ((shrZ .u32 p0 26) : Int) = (decZ p0 0) ∧ ((band .u32 (shrZ .u32 p0 21) 31) : Int) = (decZ p0 1) ∧ ((band .u32 (shrZ .u32 p0 16) 31) : Int) = (decZ p0 2) ∧ (0 : Int) = (decZ p0 3) ∧ ((IntKind.wrap .i16 (band .u32 (shrZ .u32 p0 0) 65535)) : Int) = (decZ p0 4) ∧ (0 : Int) = (decZ p0 5) ∧ True))) ∧ ((bool01 ((shrZ .u32 p0 26) == 31)) = 0 →
      (((bool01 ((shrZ .u32 p0 26) == 33)) ≠ 0 →
       ∀ y1000 : Int, y1000 = (band .u32 (band .u32 (shrZ .u32 p0 21) 31) 31) → (0 ≤ y1000 ∧ y1000 ≤ 31) →
       ∀ y1001 : Int, y1001 = (bor .u32 (shlZ .u32 (shrZ .u32 p0 26) 26) (shlZ .u32 y1000 21)) → (0 ≤ y1001 ∧ y1001 ≤ 4294967295) →
       ∀ y1002 : Int, y1002 = (band .u32 (band .u32 (shrZ .u32 p0 0) 65535) 65535) → (0 ≤ y1002 ∧ y1002 ≤ 65535) →
       ∀ y1003 : Int, y1003 = (bor .u32 (bor .u32 (bor .u32 y1001 0) 0) (shlZ .u32 y1002 0)) → (0 ≤ y1003 ∧ y1003 ≤ 4294967295) →
       (((bool01 (y1003 != p0)) ≠ 0 →
        (0 : Int) = (decZ p0 0) ∧ (0 : Int) = (decZ p0 1) ∧ (0 : Int) = (decZ p0 2) ∧ (0 : Int) = (decZ p0 3) ∧ (0 : Int) = (decZ p0 4) ∧ (3 : Int) = (decZ p0 5) ∧ True) ∧ ((bool01 (y1003 != p0)) = 0 →
        ((shrZ .u32 p0 26) : Int) = (decZ p0 0) ∧ ((band .u32 (shrZ .u32 p0 21) 31) : Int) = (decZ p0 1) ∧ (0 : Int) = (decZ p0 2) ∧ (0 : Int) = (decZ p0 3) ∧ ((band .u32 (shrZ .u32 p0 0) 65535) : Int) = (decZ p0 4) ∧ (0 : Int) = (decZ p0 5) ∧ True))) ∧ ((bool01 ((shrZ .u32 p0 26) == 33)) = 0 →
       (((bool01 ((shrZ .u32 p0 26) == 40)) ≠ 0 →
        ∀ y1000 : Int, y1000 = (band .u32 (band .u32 (shrZ .u32 p0 21) 31) 31) → (0 ≤ y1000 ∧ y1000 ≤ 31) →
        ∀ y1001 : Int, y1001 = (bor .u32 (shlZ .u32 (shrZ .u32 p0 26) 26) (shlZ .u32 y1000 21)) → (0 ≤ y1001 ∧ y1001 ≤ 4294967295) →
        ∀ y1002 : Int, y1002 = (band .u32 (band .u32 (shrZ .u32 p0 0) 65535) 65535) → (0 ≤ y1002 ∧ y1002 ≤ 65535) →
        ∀ y1003 : Int, y1003 = (bor .u32 (bor .u32 (bor .u32 y1001 0) 0) (shlZ .u32 y1002 0)) → (0 ≤ y1003 ∧ y1003 ≤ 4294967295) →
        (((bool01 (y1003 != p0)) ≠ 0 →
         (0 : Int) = (decZ p0 0) ∧ (0 : Int) = (decZ p0 1) ∧ (0 : Int) = (decZ p0 2) ∧ (0 : Int) = (decZ p0 3) ∧ (0 : Int) = (decZ p0 4) ∧ (3 : Int) = (decZ p0 5) ∧ True) ∧ ((bool01 (y1003 != p0)) = 0 →
         ((shrZ .u32 p0 26) : Int) = (decZ p0 0) ∧ ((band .u32 (shrZ .u32 p0 21) 31) : Int) = (decZ p0 1) ∧ (0 : Int) = (decZ p0 2) ∧ (0 : Int) = (decZ p0 3) ∧ ((band .u32 (shrZ .u32 p0 0) 65535) : Int) = (decZ p0 4) ∧ (0 : Int) = (decZ p0 5) ∧ True))) ∧ ((bool01 ((shrZ .u32 p0 26) == 40)) = 0 →
        (((bool01 (decide ((shrZ .u32 p0 26) < 39))) ≠ 0 →
         ∀ y1000 : Int, y1000 = (band .u32 (band .u32 (shrZ .u32 p0 21) 31) 31) → (0 ≤ y1000 ∧ y1000 ≤ 31) →
         ∀ y1001 : Int, y1001 = (bor .u32 (shlZ .u32 (shrZ .u32 p0 26) 26) (shlZ .u32 y1000 21)) → (0 ≤ y1001 ∧ y1001 ≤ 4294967295) →
         ∀ y1002 : Int, y1002 = (band .u32 (band .u32 (shrZ .u32 p0 16) 31) 31) → (0 ≤ y1002 ∧ y1002 ≤ 31) →
         ∀ y1003 : Int, y1003 = (bor .u32 (bor .u32 y1001 (shlZ .u32 y1002 16)) 0) → (0 ≤ y1003 ∧ y1003 ≤ 4294967295) →
         ∀ y1004 : Int, y1004 = (band .u32 (band .u32 (shrZ .u32 p0 0) 65535) 65535) → (0 ≤ y1004 ∧ y1004 ≤ 65535) →
         (((bool01 ((bor .u32 y1003 (shlZ .u32 y1004 0)) != p0)) ≠ 0 →
          (0 : Int) = (decZ p0 0) ∧ (0 : Int) = (decZ p0 1) ∧ (0 : Int) = (decZ p0 2) ∧ (0 : Int) = (decZ p0 3) ∧ (0 : Int) = (decZ p0 4) ∧ (3 : Int) = (decZ p0 5) ∧ True) ∧ ((bool01 ((bor .u32 y1003 (shlZ .u32 y1004 0)) != p0)) = 0 →
          ((shrZ .u32 p0 26) : Int) = (decZ p0 0) ∧ ((band .u32 (shrZ .u32 p0 21) 31) : Int) = (decZ p0 1) ∧ ((band .u32 (shrZ .u32 p0 16) 31) : Int) = (decZ p0 2) ∧ (0 : Int) = (decZ p0 3) ∧ ((band .u32 (shrZ .u32 p0 0) 65535) : Int) = (decZ p0 4) ∧ (0 : Int) = (decZ p0 5) ∧ True))) ∧ ((bool01 (decide ((shrZ .u32 p0 26) < 39))) = 0 →
         (((bool01 ((shrZ .u32 p0 26) == 39)) ≠ 0 →
          ∀ y1000 : Int, y1000 = (bor .u32 (shlZ .u32 (shrZ .u32 p0 26) 26) 0) → (0 ≤ y1000 ∧ y1000 ≤ 4294967295) →
          ∀ y1001 : Int, y1001 = (band .u32 (band .u32 (shrZ .u32 p0 0) 65535) 65535) → (0 ≤ y1001 ∧ y1001 ≤ 65535) →
          ∀ y1002 : Int, y1002 = (bor .u32 (bor .u32 (bor .u32 y1000 0) 0) (shlZ .u32 y1001 0)) → (0 ≤ y1002 ∧ y1002 ≤ 4294967295) →
          (((bool01 (y1002 != p0)) ≠ 0 →
           (0 : Int) = (decZ p0 0) ∧ (0 : Int) = (decZ p0 1) ∧ (0 : Int) = (decZ p0 2) ∧ (0 : Int) = (decZ p0 3) ∧ (0 : Int) = (decZ p0 4) ∧ (3 : Int) = (decZ p0 5) ∧ True) ∧ ((bool01 (y1002 != p0)) = 0 →
           ((shrZ .u32 p0 26) : Int) = (decZ p0 0) ∧ (0 : Int) = (decZ p0 1) ∧ (0 : Int) = (decZ p0 2) ∧ (0 : Int) = (decZ p0 3) ∧ ((band .u32 (shrZ .u32 p0 0) 65535) : Int) = (decZ p0 4) ∧ (0 : Int) = (decZ p0 5) ∧ True))) ∧ ((bool01 ((shrZ .u32 p0 26) == 39)) = 0 →
          (((bool01 ((shrZ .u32 p0 26) == 41)) ≠ 0 →
           ∀ y1000 : Int, y1000 = (bor .u32 (shlZ .u32 (shrZ .u32 p0 26) 26) 0) → (0 ≤ y1000 ∧ y1000 ≤ 4294967295) →
           ∀ y1001 : Int, y1001 = (band .u32 (band .u32 (shrZ .u32 p0 16) 31) 31) → (0 ≤ y1001 ∧ y1001 ≤ 31) →
           ∀ y1002 : Int, y1002 = (bor .u32 (bor .u32 y1000 (shlZ .u32 y1001 16)) 0) → (0 ≤ y1002 ∧ y1002 ≤ 4294967295) →
           (((bool01 ((bor .u32 y1002 0) != p0)) ≠ 0 →
            (0 : Int) = (decZ p0 0) ∧ (0 : Int) = (decZ p0 1) ∧ (0 : Int) = (decZ p0 2) ∧ (0 : Int) = (decZ p0 3) ∧ (0 : Int) = (decZ p0 4) ∧ (3 : Int) = (decZ p0 5) ∧ True) ∧ ((bool01 ((bor .u32 y1002 0) != p0)) = 0 →
            ((shrZ .u32 p0 26) : Int) = (decZ p0 0) ∧ (0 : Int) = (decZ p0 1) ∧ ((band .u32 (shrZ .u32 p0 16) 31) : Int) = (decZ p0 2) ∧ (0 : Int) = (decZ p0 3) ∧ (0 : Int) = (decZ p0 4) ∧ (0 : Int) = (decZ p0 5) ∧ True))) ∧ ((bool01 ((shrZ .u32 p0 26) == 41)) = 0 →
           ∀ y1000 : Int, y1000 = (bor .u32 (shlZ .u32 (shrZ .u32 p0 26) 26) 0) → (0 ≤ y1000 ∧ y1000 ≤ 4294967295) →
           ∀ y1001 : Int, y1001 = (bor .u32 (bor .u32 (bor .u32 y1000 0) 0) 0) → (0 ≤ y1001 ∧ y1001 ≤ 4294967295) →
           (((bool01 (y1001 != p0)) ≠ 0 →
            (0 : Int) = (decZ p0 0) ∧ (0 : Int) = (decZ p0 1) ∧ (0 : Int) = (decZ p0 2) ∧ (0 : Int) = (decZ p0 3) ∧ (0 : Int) = (decZ p0 4) ∧ (3 : Int) = (decZ p0 5) ∧ True) ∧ ((bool01 (y1001 != p0)) = 0 →
            ((shrZ .u32 p0 26) : Int) = (decZ p0 0) ∧ (0 : Int) = (decZ p0 1) ∧ (0 : Int) = (decZ p0 2) ∧ (0 : Int) = (decZ p0 3) ∧ (0 : Int) = (decZ p0 4) ∧ (0 : Int) = (decZ p0 5) ∧ True))))))))))))))))))))) ∧ ((bool01 (decide (1 ≤ (shrZ .u32 p0 26)))) = 0 →
  (0 : Int) = (decZ p0 0) ∧ (0 : Int) = (decZ p0 1) ∧ (0 : Int) = (decZ p0 2) ∧ (0 : Int) = (decZ p0 3) ∧ (0 : Int) = (decZ p0 4) ∧ (2 : Int) = (decZ p0 5) ∧ True))

theorem wi16 (x : Int) : IntKind.wrap .i16 x = (x + 32768) % 65536 - 32768 := by
  simp [IntKind.wrap, IntKind.bits, IntKind.signed] <;> (try split) <;> omega
set_option maxHeartbeats 4000000 in
theorem holds (p0 : Int) (l_p0 : 0 ≤ p0) (u_p0 : p0 ≤ 4294967295) : P p0 := by
  unfold P
  simp only [sh26, sh21, sh16, sh11, sh0, sl26, sl21, sl16, sl11, sl0, ba31, ba16, wi16, wu32]
  simp only [b01_eq, decide_eq_true_eq, decide_eq_false_iff_not, beq_iff_eq, beq_eq_false_iff_ne, bne_iff_ne, bne_eq_false_iff_eq, Int.not_le, Int.not_lt, true_and, and_true, iteZ_ne, ne_eq, Bool.not_eq_false, Bool.not_eq_true, not_true_eq_false, not_false_eq_true, Decidable.not_not, forall_const, false_implies, true_iff, iff_true, false_iff, iff_false, Int.reduceEq, Int.reduceNeg, eq_self, if_true, if_false, reduceIte]
  refine ⟨fun c1 => ⟨fun c2 => dec_no2 l_p0 u_p0 (by omega), fun c2 => ?_⟩, fun c1 => dec_no2 l_p0 u_p0 (by omega)⟩
  refine ⟨fun d0 => ?_, fun d0 => ?_⟩
  · skip
    intro y0 hy0 by0 y1 hy1 by1 y2 hy2 by2 y3 hy3 by3 y4 hy4 by4
    have ey1 : y1 = p0 / 67108864 * 67108864 + y0 * 2097152 := by rw [hy1, or21 (h := p0 / 67108864 * 67108864 % 4294967296) (by omega) (by omega) (by omega) (by omega) (by omega)] <;> omega
    have ey4 : y4 = y1 + y2 * 65536 + y3 * 2048 := by rw [hy4, or16 (h := y1) (by omega) (by omega) (by omega) (by omega) (by omega), or11 (h := y1 + y2 * 65536 % 4294967296) (by omega) (by omega) (by omega) (by omega) (by omega)] <;> omega
    rw [or_0 (h := y4) (by omega) (by omega)]
    refine ⟨fun hne => dec_no3 l_p0 u_p0 (by omega) (by unfold decP; simp only; omega), fun heq => dec_fit l_p0 u_p0 (by unfold decP; simp only; omega) (by omega) (by omega) (by omega) (by split <;> omega) (by unfold decN; simp only; split <;> (try split) <;> omega)⟩
  refine ⟨fun d1 => ?_, fun d1 => ?_⟩
  · skip
    intro y0 hy0 by0 y1 hy1 by1 y2 hy2 by2 y3 hy3 by3
    have ey1 : y1 = p0 / 67108864 * 67108864 + y0 * 2097152 := by rw [hy1, or21 (h := p0 / 67108864 * 67108864 % 4294967296) (by omega) (by omega) (by omega) (by omega) (by omega)] <;> omega
    have ey3 : y3 = y1 + y2 * 65536 := by rw [hy3, or16 (h := y1) (by omega) (by omega) (by omega) (by omega) (by omega), or_0 (h := y1 + y2 * 65536 % 4294967296) (by omega) (by omega)] <;> omega
    rw [or_0 (h := y3) (by omega) (by omega)]
    refine ⟨fun hne => dec_no3 l_p0 u_p0 (by omega) (by unfold decP; simp only; omega), fun heq => dec_fit l_p0 u_p0 (by unfold decP; simp only; omega) (by omega) (by omega) (by omega) (by split <;> omega) (by unfold decN; simp only; split <;> (try split) <;> omega)⟩
  refine ⟨fun d2 => ?_, fun d2 => ?_⟩
  · skip
    intro y0 hy0 by0 y1 hy1 by1 y2 hy2 by2 y3 hy3 by3 y4 hy4 by4 y5 hy5 by5
    have ey1 : y1 = p0 / 67108864 * 67108864 + y0 * 2097152 := by rw [hy1, or21 (h := p0 / 67108864 * 67108864 % 4294967296) (by omega) (by omega) (by omega) (by omega) (by omega)] <;> omega
    have ey3 : y3 = y1 + y2 * 65536 := by rw [hy3, or16 (h := y1) (by omega) (by omega) (by omega) (by omega) (by omega), or_0 (h := y1 + y2 * 65536 % 4294967296) (by omega) (by omega)] <;> omega
    rw [or11 (h := y3) (by omega) (by omega) (by omega) (by omega) (by omega)]
    refine ⟨fun hne => dec_no3 l_p0 u_p0 (by omega) (by unfold decP; simp only; omega), fun heq => dec_fit l_p0 u_p0 (by unfold decP; simp only; omega) (by omega) (by omega) (by omega) (by split <;> omega) (by unfold decN; simp only; split <;> (try split) <;> omega)⟩
  refine ⟨fun d3 => ?_, fun d3 => ?_⟩
  · skip
    intro y0 hy0 by0 y1 hy1 by1 y2 hy2 by2 y3 hy3 by3
    have ey1 : y1 = p0 / 67108864 * 67108864 + y0 * 2097152 := by rw [hy1, or21 (h := p0 / 67108864 * 67108864 % 4294967296) (by omega) (by omega) (by omega) (by omega) (by omega)] <;> omega
    have ey3 : y3 = y1 + y2 := by rw [hy3, or_0 (h := y1) (by omega) (by omega), or_0 (h := y1) (by omega) (by omega), or11 (h := y1) (by omega) (by omega) (by omega) (by omega) (by omega)] <;> omega
    refine ⟨fun hne => dec_no3 l_p0 u_p0 (by omega) (by unfold decP; simp only; omega), fun heq => dec_fit l_p0 u_p0 (by unfold decP; simp only; omega) (by omega) (by omega) (by omega) (by split <;> omega) (by unfold decN; simp only; split <;> (try split) <;> omega)⟩
  refine ⟨fun d4 => ?_, fun d4 => ?_⟩
  · skip
    intro y0 hy0 by0 y1 hy1 by1 y2 hy2 by2 y3 hy3 by3
    have ey1 : y1 = p0 / 67108864 * 67108864 + y0 * 2097152 := by rw [hy1, or21 (h := p0 / 67108864 * 67108864 % 4294967296) (by omega) (by omega) (by omega) (by omega) (by omega)] <;> omega
    have ey3 : y3 = y1 + y2 := by rw [hy3, or_0 (h := y1) (by omega) (by omega), or_0 (h := y1) (by omega) (by omega), or11 (h := y1) (by omega) (by omega) (by omega) (by omega) (by omega)] <;> omega
    refine ⟨fun hne => dec_no3 l_p0 u_p0 (by omega) (by unfold decP; simp only; omega), fun heq => dec_fit l_p0 u_p0 (by unfold decP; simp only; omega) (by omega) (by omega) (by omega) (by split <;> omega) (by unfold decN; simp only; split <;> (try split) <;> omega)⟩
  refine ⟨fun d5 => ?_, fun d5 => ?_⟩
  · skip
    intro y0 hy0 by0 y1 hy1 by1 y2 hy2 by2 y3 hy3 by3 y4 hy4 by4
    have ey1 : y1 = p0 / 67108864 * 67108864 + y0 * 2097152 := by rw [hy1, or21 (h := p0 / 67108864 * 67108864 % 4294967296) (by omega) (by omega) (by omega) (by omega) (by omega)] <;> omega
    have ey3 : y3 = y1 + y2 * 65536 := by rw [hy3, or16 (h := y1) (by omega) (by omega) (by omega) (by omega) (by omega), or_0 (h := y1 + y2 * 65536 % 4294967296) (by omega) (by omega)] <;> omega
    rw [or11 (h := y3) (by omega) (by omega) (by omega) (by omega) (by omega)]
    refine ⟨fun hne => dec_no3 l_p0 u_p0 (by omega) (by unfold decP; simp only; omega), fun heq => dec_fit l_p0 u_p0 (by unfold decP; simp only; omega) (by omega) (by omega) (by omega) (by split <;> omega) (by unfold decN; simp only; split <;> (try split) <;> omega)⟩
  refine ⟨fun d6 => ?_, fun d6 => ?_⟩
  · skip
    intro y0 hy0 by0 y1 hy1 by1 y2 hy2 by2
    have ey0 : y0 = p0 / 67108864 * 67108864 := by rw [hy0, or_0 (h := p0 / 67108864 * 67108864 % 4294967296) (by omega) (by omega)] <;> omega
    have ey2 : y2 = y0 + y1 := by rw [hy2, or_0 (h := y0) (by omega) (by omega), or_0 (h := y0) (by omega) (by omega), or11 (h := y0) (by omega) (by omega) (by omega) (by omega) (by omega)] <;> omega
    refine ⟨fun hne => dec_no3 l_p0 u_p0 (by omega) (by unfold decP; simp only; omega), fun heq => dec_fit l_p0 u_p0 (by unfold decP; simp only; omega) (by omega) (by omega) (by omega) (by split <;> omega) (by unfold decN; simp only; split <;> (try split) <;> omega)⟩
  refine ⟨fun d7 => ?_, fun d7 => ?_⟩
  · skip
    intro y0 hy0 by0 y1 hy1 by1 y2 hy2 by2
    have ey0 : y0 = p0 / 67108864 * 67108864 := by rw [hy0, or_0 (h := p0 / 67108864 * 67108864 % 4294967296) (by omega) (by omega)] <;> omega
    have ey2 : y2 = y0 + y1 * 65536 := by rw [hy2, or16 (h := y0) (by omega) (by omega) (by omega) (by omega) (by omega), or_0 (h := y0 + y1 * 65536 % 4294967296) (by omega) (by omega)] <;> omega
    rw [or_0 (h := y2) (by omega) (by omega)]
    refine ⟨fun hne => dec_no3 l_p0 u_p0 (by omega) (by unfold decP; simp only; omega), fun heq => dec_fit l_p0 u_p0 (by unfold decP; simp only; omega) (by omega) (by omega) (by omega) (by split <;> omega) (by unfold decN; simp only; split <;> (try split) <;> omega)⟩
  intro y0 hy0 by0 y1 hy1 by1
  have ey0 : y0 = p0 / 67108864 * 67108864 := by rw [hy0, or_0 (h := p0 / 67108864 * 67108864 % 4294967296) (by omega) (by omega)] <;> omega
  have ey1 : y1 = y0 := by rw [hy1, or_0 (h := y0) (by omega) (by omega), or_0 (h := y0) (by omega) (by omega), or_0 (h := y0) (by omega) (by omega)] <;> omega
  refine ⟨fun hne => dec_no3 l_p0 u_p0 (by omega) (by unfold decP; simp only; omega), fun heq => dec_fit l_p0 u_p0 (by unfold decP; simp only; omega) (by omega) (by omega) (by omega) (by split <;> omega) (by unfold decN; simp only; split <;> (try split) <;> omega)⟩

theorem plain (i : Nat → Int) (v : Nat → Value) (ro : Nat → RO) (p : Program) : TT.hdP (rc.cx (cxOf 2)) (rlF ⟨i, fN, v, ro, p⟩ rc.res) tree ⟨i, fN, v, ro, p⟩ = P (i 0) := by kernel_rfl
theorem ran : TT.beq (projL (rc.pj (cxOf 2)) (runT us (fun f _ => if [29].contains f then .unroll 40 else .auto) rc 2 rc.f rc.args ⟨[], []⟩)) tree = true := by kernel_rfl
theorem fineT : (TT.fine (rc.cx (cxOf 2)) 1000 [] tree && (rc.cx (cxOf 2)).okB 1000 && SV.vbL 1000 rc.args && TT.tidy (rc.cx (cxOf 2)) [] tree) = true := by kernel_rfl
theorem ok : RcOk (cxOf 2) rc :=
  rc_run (runT_ok us_ok (fun f _ => if [29].contains f then .unroll 40 else .auto) rc 2) ran fineT okb fun ρ hρ hcap hpre => by
    obtain ⟨i, f, v, ro, p⟩ := ρ
    have hf : f = fN := hρ.hF
    subst hf
    rw [plain]
    exact holds (i 0) (hρ.hi 0 _ rfl).1 (hρ.hi 0 _ rfl).2
end Go.Proofs.YtlhcaeakfbokmaaDoor.CCDec
