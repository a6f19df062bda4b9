/-
  What alu.Do answers, as numbers of what it is handed: its run by the engine, and the plain statement behind it. No condition.
-/
import Derived.Test.YtlhcaeakfbokmaaDoorGab
import Derived.Test.YtlhcaeakfbokmaaDoorGib
import Derived.Test.YtlhcaeakfbokmaaDoorGmC
namespace Go.Proofs.YtlhcaeakfbokmaaDoor.CADo
open Go.Eng Go.RowKit
set_option linter.unusedVariables false
set_option linter.unusedSimpArgs false
set_option maxRecDepth 100000
def rc : Rc := ⟨33, [none, none, none], [.int .i64, .int .i32, .int .i32], [], .tup [none, none], [.int .i32 (.f 63 (.v 0) (.v 1) (.v 2)), .bool (.f 64 (.v 0) (.v 1) (.v 2))]⟩
theorem okb : rc.ok = true := by kernel_rfl
noncomputable def us : SMs := fun Γ ins n => smH (cxG n Γ ins) [] (smAnd 100 (libLen32 Γ ins n) (smR (cxG n Γ ins) []))
theorem us_ok : SMsOk us := fun Γ ins n => smH_ok (tabsG n Γ ins) (rhs_nil _) (smAnd_ok (libLen32_ok Γ ins n) (smR_ok (tabsG n Γ ins) (rcs_nil _)))
def tree : TT (List E) :=
(.br (.b .eq .i64 (.v 0) (.c 1))
  (.leaf [(.w .i32 (.b .padd .i64 (.v 1) (.v 2))), (.c 1)])
  (.br (.b .eq .i64 (.v 0) (.c 2))
  (.leaf [(.w .i32 (.b .psub .i64 (.v 1) (.v 2))), (.c 1)])
  (.br (.b .eq .i64 (.v 0) (.c 3))
  (.leaf [(.b .min .i64 (.b .max .i64 (.b .padd .i64 (.v 1) (.v 2)) (.c (-2147483648))) (.c 2147483647)), (.c 1)])
  (.br (.b .eq .i64 (.v 0) (.c 4))
  (.leaf [(.b .min .i64 (.b .max .i64 (.b .psub .i64 (.v 1) (.v 2)) (.c (-2147483648))) (.c 2147483647)), (.c 1)])
  (.br (.b .eq .i64 (.v 0) (.c 5))
  (.leaf [(.b .and .i32 (.v 1) (.v 2)), (.c 1)])
  (.br (.b .eq .i64 (.v 0) (.c 6))
  (.leaf [(.b .or .i32 (.v 1) (.v 2)), (.c 1)])
  (.br (.b .eq .i64 (.v 0) (.c 7))
  (.leaf [(.b .xor .i32 (.v 1) (.v 2)), (.c 1)])
  (.br (.b .eq .i64 (.v 0) (.c 8))
  (.leaf [(.b .andNot .i32 (.v 1) (.v 2)), (.c 1)])
  (.br (.b .eq .i64 (.v 0) (.c 9))
  (.leaf [(.w .i32 (.b .shl .u32 (.w .u32 (.v 1)) (.b .and .i32 (.v 2) (.c 31)))), (.c 1)])
  (.br (.b .eq .i64 (.v 0) (.c 10))
  (.leaf [(.w .i32 (.b .shr .u32 (.w .u32 (.v 1)) (.b .and .i32 (.v 2) (.c 31)))), (.c 1)])
  (.br (.b .eq .i64 (.v 0) (.c 11))
  (.leaf [(.b .shr .i32 (.v 1) (.b .and .i32 (.v 2) (.c 31))), (.c 1)])
  (.br (.b .eq .i64 (.v 0) (.c 12))
  (.leaf [(.w .i32 (.b .or .u32 (.b .shl .u32 (.w .u32 (.v 1)) (.b .and .u64 (.b .and .i32 (.v 2) (.c 31)) (.c 31))) (.b .shr .u32 (.w .u32 (.v 1)) (.b .psub .i64 (.c 32) (.b .and .u64 (.b .and .i32 (.v 2) (.c 31)) (.c 31)))))), (.c 1)])
  (.br (.b .eq .i64 (.v 0) (.c 13))
  (.br (.b .lt .i64 (.v 1) (.v 2))
  (.leaf [(.c 1), (.c 1)])
  (.leaf [(.c 0), (.c 1)]))
  (.br (.b .eq .i64 (.v 0) (.c 14))
  (.br (.b .lt .i64 (.w .u32 (.v 1)) (.w .u32 (.v 2)))
  (.leaf [(.c 1), (.c 1)])
  (.leaf [(.c 0), (.c 1)]))
  (.br (.b .eq .i64 (.v 0) (.c 15))
  (.br (.b .eq .i64 (.v 1) (.v 2))
  (.leaf [(.c 1), (.c 1)])
  (.leaf [(.c 0), (.c 1)]))
  (.br (.b .eq .i64 (.v 0) (.c 16))
  (.leaf [(.b .min .i64 (.v 1) (.v 2)), (.c 1)])
  (.br (.b .eq .i64 (.v 0) (.c 17))
  (.leaf [(.b .max .i64 (.v 1) (.v 2)), (.c 1)])
  (.br (.b .eq .i64 (.v 0) (.c 18))
  (.leaf [(.w .i32 (.b .pmul .i64 (.v 1) (.v 2))), (.c 1)])
  (.br (.b .eq .i64 (.v 0) (.c 19))
  (.leaf [(.b .shr .i64 (.b .pmul .i64 (.v 1) (.v 2)) (.c 32)), (.c 1)])
  (.br (.b .eq .i64 (.v 0) (.c 20))
  (.leaf [(.b .min .i64 (.b .max .i64 (.b .padd .i64 (.b .shr .i64 (.b .pmul .i64 (.v 1) (.v 2)) (.c 30)) (.b .and .i64 (.b .shr .i64 (.b .pmul .i64 (.v 1) (.v 2)) (.c 29)) (.c 1))) (.c (-2147483648))) (.c 2147483647)), (.c 1)])
  (.br (.b .eq .i64 (.v 0) (.c 21))
  (.leaf [(.b .min .i64 (.b .max .i64 (.b .padd .i64 (.b .shr .i64 (.b .pmul .i64 (.v 1) (.v 2)) (.c 16)) (.b .and .i64 (.b .shr .i64 (.b .pmul .i64 (.v 1) (.v 2)) (.c 15)) (.c 1))) (.c (-2147483648))) (.c 2147483647)), (.c 1)])
  (.br (.b .eq .i64 (.v 0) (.c 22))
  (.br (.b .eq .i64 (.v 2) (.c 0))
  (.leaf [(.c 0), (.c 0)])
  (.leaf [(.w .i32 (.b .quo .i64 (.v 1) (.v 2))), (.c 1)]))
  (.br (.b .eq .i64 (.v 0) (.c 23))
  (.br (.b .eq .i64 (.v 2) (.c 0))
  (.leaf [(.c 0), (.c 0)])
  (.leaf [(.w .i32 (.b .psub .i64 (.v 1) (.w .i64 (.b .pmul .i64 (.b .quo .i64 (.v 1) (.v 2)) (.v 2))))), (.c 1)]))
  (.br (.b .eq .i64 (.v 0) (.c 24))
  (.leaf [(.b .psub .i64 (.c 32) (.f 0 (.w .u32 (.v 1)) (.c 0) (.c 0))), (.c 1)])
  (.br (.b .eq .i64 (.v 0) (.c 25))
  (.leaf [(.b .min .i64 (.b .psub .i64 (.c 0) (.v 1)) (.c 2147483647)), (.c 1)])
  (.br (.b .eq .i64 (.v 0) (.c 26))
  (.leaf [(.b .max .i64 (.v 1) (.b .min .i64 (.b .psub .i64 (.c 0) (.v 1)) (.c 2147483647))), (.c 1)])
  (.br (.b .eq .i64 (.v 0) (.c 27))
  (.br (.b .ne .i64 (.v 1) (.c 0))
  (.leaf [(.c (-1)), (.c 1)])
  (.leaf [(.c 0), (.c 1)]))
  (.br (.b .eq .i64 (.v 0) (.c 28))
  (.leaf [(.b .shr .i32 (.v 1) (.c 31)), (.c 1)])
  (.br (.b .eq .i64 (.v 0) (.c 29))
  (.leaf [(.w .i16 (.v 1)), (.c 1)])
  (.br (.b .eq .i64 (.v 0) (.c 30))
  (.leaf [(.b .shr .i32 (.v 1) (.c 16)), (.c 1)])
  (.leaf [(.c 0), (.c 0)])))))))))))))))))))))))))))))))

def P (p0 p1 p2 : Int) : Prop :=
 (((bool01 (p0 == 1)) ≠ 0 →
  ((IntKind.wrap .i32 (p1 + p2)) : Int) = (aluV p0 p1 p2) ∧ ((1 : Int) ≠ 0 ↔ ((aluK p0 p1 p2) : Int) ≠ 0) ∧ True) ∧ ((bool01 (p0 == 1)) = 0 →
  (((bool01 (p0 == 2)) ≠ 0 →
   ((IntKind.wrap .i32 (p1 - p2)) : Int) = (aluV p0 p1 p2) ∧ ((1 : Int) ≠ 0 ↔ ((aluK p0 p1 p2) : Int) ≠ 0) ∧ True) ∧ ((bool01 (p0 == 2)) = 0 →
   (((bool01 (p0 == 3)) ≠ 0 →
    ((sat32 (p1 + p2)) : Int) = (aluV p0 p1 p2) ∧ ((1 : Int) ≠ 0 ↔ ((aluK p0 p1 p2) : Int) ≠ 0) ∧ True) ∧ ((bool01 (p0 == 3)) = 0 →
    (((bool01 (p0 == 4)) ≠ 0 →
     ((sat32 (p1 - p2)) : Int) = (aluV p0 p1 p2) ∧ ((1 : Int) ≠ 0 ↔ ((aluK p0 p1 p2) : Int) ≠ 0) ∧ True) ∧ ((bool01 (p0 == 4)) = 0 →
     (((bool01 (p0 == 5)) ≠ 0 →
      ((band .i32 p1 p2) : Int) = (aluV p0 p1 p2) ∧ ((1 : Int) ≠ 0 ↔ ((aluK p0 p1 p2) : Int) ≠ 0) ∧ True) ∧ ((bool01 (p0 == 5)) = 0 →
      (((bool01 (p0 == 6)) ≠ 0 →
       ((bor .i32 p1 p2) : Int) = (aluV p0 p1 p2) ∧ ((1 : Int) ≠ 0 ↔ ((aluK p0 p1 p2) : Int) ≠ 0) ∧ True) ∧ ((bool01 (p0 == 6)) = 0 →
       (((bool01 (p0 == 7)) ≠ 0 →
        ((bxor .i32 p1 p2) : Int) = (aluV p0 p1 p2) ∧ ((1 : Int) ≠ 0 ↔ ((aluK p0 p1 p2) : Int) ≠ 0) ∧ True) ∧ ((bool01 (p0 == 7)) = 0 →
        (((bool01 (p0 == 8)) ≠ 0 →
         ((bandn .i32 p1 p2) : Int) = (aluV p0 p1 p2) ∧ ((1 : Int) ≠ 0 ↔ ((aluK p0 p1 p2) : Int) ≠ 0) ∧ True) ∧ ((bool01 (p0 == 8)) = 0 →
         (((bool01 (p0 == 9)) ≠ 0 →
          ((IntKind.wrap .i32 (shlZ .u32 (IntKind.wrap .u32 p1) (band .i32 p2 31))) : Int) = (aluV p0 p1 p2) ∧ ((1 : Int) ≠ 0 ↔ ((aluK p0 p1 p2) : Int) ≠ 0) ∧ True) ∧ ((bool01 (p0 == 9)) = 0 →
          (((bool01 (p0 == 10)) ≠ 0 →
           ((IntKind.wrap .i32 (shrZ .u32 (IntKind.wrap .u32 p1) (band .i32 p2 31))) : Int) = (aluV p0 p1 p2) ∧ ((1 : Int) ≠ 0 ↔ ((aluK p0 p1 p2) : Int) ≠ 0) ∧ True) ∧ ((bool01 (p0 == 10)) = 0 →
           (((bool01 (p0 == 11)) ≠ 0 →
            ((shrZ .i32 p1 (band .i32 p2 31)) : Int) = (aluV p0 p1 p2) ∧ ((1 : Int) ≠ 0 ↔ ((aluK p0 p1 p2) : Int) ≠ 0) ∧ True) ∧ ((bool01 (p0 == 11)) = 0 →
            (((bool01 (p0 == 12)) ≠ 0 →
             ((IntKind.wrap .i32 (bor .u32 (shlZ .u32 (IntKind.wrap .u32 p1) (band .u64 (band .i32 p2 31) 31)) (shrZ .u32 (IntKind.wrap .u32 p1) (32 - (band .u64 (band .i32 p2 31) 31))))) : Int) = (aluV p0 p1 p2) ∧ ((1 : Int) ≠ 0 ↔ ((aluK p0 p1 p2) : Int) ≠ 0) ∧ True) ∧ ((bool01 (p0 == 12)) = 0 →
             (((bool01 (p0 == 13)) ≠ 0 →
              (((bool01 (decide (p1 < p2))) ≠ 0 →
               (1 : Int) = (aluV p0 p1 p2) ∧ ((1 : Int) ≠ 0 ↔ ((aluK p0 p1 p2) : Int) ≠ 0) ∧ True) ∧ ((bool01 (decide (p1 < p2))) = 0 →
               (0 : Int) = (aluV p0 p1 p2) ∧ ((1 : Int) ≠ 0 ↔ ((aluK p0 p1 p2) : Int) ≠ 0) ∧ True))) ∧ ((bool01 (p0 == 13)) = 0 →
              (((bool01 (p0 == 14)) ≠ 0 →
               (((bool01 (decide ((IntKind.wrap .u32 p1) < (IntKind.wrap .u32 p2)))) ≠ 0 →
                (1 : Int) = (aluV p0 p1 p2) ∧ ((1 : Int) ≠ 0 ↔ ((aluK p0 p1 p2) : Int) ≠ 0) ∧ True) ∧ ((bool01 (decide ((IntKind.wrap .u32 p1) < (IntKind.wrap .u32 p2)))) = 0 →
                (0 : Int) = (aluV p0 p1 p2) ∧ ((1 : Int) ≠ 0 ↔ ((aluK p0 p1 p2) : Int) ≠ 0) ∧ True))) ∧ ((bool01 (p0 == 14)) = 0 →
               (((bool01 (p0 == 15)) ≠ 0 →
                (((bool01 (p1 == p2)) ≠ 0 →
                 (1 : Int) = (aluV p0 p1 p2) ∧ ((1 : Int) ≠ 0 ↔ ((aluK p0 p1 p2) : Int) ≠ 0) ∧ True) ∧ ((bool01 (p1 == p2)) = 0 →
                 (0 : Int) = (aluV p0 p1 p2) ∧ ((1 : Int) ≠ 0 ↔ ((aluK p0 p1 p2) : Int) ≠ 0) ∧ True))) ∧ ((bool01 (p0 == 15)) = 0 →
                (((bool01 (p0 == 16)) ≠ 0 →
                 ((minZ p1 p2) : Int) = (aluV p0 p1 p2) ∧ ((1 : Int) ≠ 0 ↔ ((aluK p0 p1 p2) : Int) ≠ 0) ∧ True) ∧ ((bool01 (p0 == 16)) = 0 →
                 (((bool01 (p0 == 17)) ≠ 0 →
                  ((maxZ p1 p2) : Int) = (aluV p0 p1 p2) ∧ ((1 : Int) ≠ 0 ↔ ((aluK p0 p1 p2) : Int) ≠ 0) ∧ True) ∧ ((bool01 (p0 == 17)) = 0 →
                  (((bool01 (p0 == 18)) ≠ 0 →
                   ((IntKind.wrap .i32 (p1 * p2)) : Int) = (aluV p0 p1 p2) ∧ ((1 : Int) ≠ 0 ↔ ((aluK p0 p1 p2) : Int) ≠ 0) ∧ True) ∧ ((bool01 (p0 == 18)) = 0 →
                   (((bool01 (p0 == 19)) ≠ 0 →
                    ((shrZ .i64 (p1 * p2) 32) : Int) = (aluV p0 p1 p2) ∧ ((1 : Int) ≠ 0 ↔ ((aluK p0 p1 p2) : Int) ≠ 0) ∧ True) ∧ ((bool01 (p0 == 19)) = 0 →
                    (((bool01 (p0 == 20)) ≠ 0 →
                     ((sat32 ((shrZ .i64 (p1 * p2) 30) + (band .i64 (shrZ .i64 (p1 * p2) 29) 1))) : Int) = (aluV p0 p1 p2) ∧ ((1 : Int) ≠ 0 ↔ ((aluK p0 p1 p2) : Int) ≠ 0) ∧ True) ∧ ((bool01 (p0 == 20)) = 0 →
                     (((bool01 (p0 == 21)) ≠ 0 →
                      ((sat32 ((shrZ .i64 (p1 * p2) 16) + (band .i64 (shrZ .i64 (p1 * p2) 15) 1))) : Int) = (aluV p0 p1 p2) ∧ ((1 : Int) ≠ 0 ↔ ((aluK p0 p1 p2) : Int) ≠ 0) ∧ True) ∧ ((bool01 (p0 == 21)) = 0 →
                      (((bool01 (p0 == 22)) ≠ 0 →
                       (((bool01 (p2 == 0)) ≠ 0 →
                        (0 : Int) = (aluV p0 p1 p2) ∧ ((0 : Int) ≠ 0 ↔ ((aluK p0 p1 p2) : Int) ≠ 0) ∧ True) ∧ ((bool01 (p2 == 0)) = 0 →
                        ((IntKind.wrap .i32 (BO.ev .quo .i64 p1 p2)) : Int) = (aluV p0 p1 p2) ∧ ((1 : Int) ≠ 0 ↔ ((aluK p0 p1 p2) : Int) ≠ 0) ∧ True))) ∧ ((bool01 (p0 == 22)) = 0 →
                       (((bool01 (p0 == 23)) ≠ 0 →
                        (((bool01 (p2 == 0)) ≠ 0 →
                         (0 : Int) = (aluV p0 p1 p2) ∧ ((0 : Int) ≠ 0 ↔ ((aluK p0 p1 p2) : Int) ≠ 0) ∧ True) ∧ ((bool01 (p2 == 0)) = 0 →
                         ((IntKind.wrap .i32 (p1 - (IntKind.wrap .i64 ((BO.ev .quo .i64 p1 p2) * p2)))) : Int) = (aluV p0 p1 p2) ∧ ((1 : Int) ≠ 0 ↔ ((aluK p0 p1 p2) : Int) ≠ 0) ∧ True))) ∧ ((bool01 (p0 == 23)) = 0 →
                        (((bool01 (p0 == 24)) ≠ 0 →
                         ((32 - (blen (IntKind.wrap .u32 p1))) : Int) = (aluV p0 p1 p2) ∧ ((1 : Int) ≠ 0 ↔ ((aluK p0 p1 p2) : Int) ≠ 0) ∧ True) ∧ ((bool01 (p0 == 24)) = 0 →
                         (((bool01 (p0 == 25)) ≠ 0 →
                          ((minZ (0 - p1) 2147483647) : Int) = (aluV p0 p1 p2) ∧ ((1 : Int) ≠ 0 ↔ ((aluK p0 p1 p2) : Int) ≠ 0) ∧ True) ∧ ((bool01 (p0 == 25)) = 0 →
                          (((bool01 (p0 == 26)) ≠ 0 →
                           ((maxZ p1 (minZ (0 - p1) 2147483647)) : Int) = (aluV p0 p1 p2) ∧ ((1 : Int) ≠ 0 ↔ ((aluK p0 p1 p2) : Int) ≠ 0) ∧ True) ∧ ((bool01 (p0 == 26)) = 0 →
                           (((bool01 (p0 == 27)) ≠ 0 →
                            (((bool01 (p1 != 0)) ≠ 0 →
                             ((-1) : Int) = (aluV p0 p1 p2) ∧ ((1 : Int) ≠ 0 ↔ ((aluK p0 p1 p2) : Int) ≠ 0) ∧ True) ∧ ((bool01 (p1 != 0)) = 0 →
                             (0 : Int) = (aluV p0 p1 p2) ∧ ((1 : Int) ≠ 0 ↔ ((aluK p0 p1 p2) : Int) ≠ 0) ∧ True))) ∧ ((bool01 (p0 == 27)) = 0 →
                            (((bool01 (p0 == 28)) ≠ 0 →
                             ((shrZ .i32 p1 31) : Int) = (aluV p0 p1 p2) ∧ ((1 : Int) ≠ 0 ↔ ((aluK p0 p1 p2) : Int) ≠ 0) ∧ True) ∧ ((bool01 (p0 == 28)) = 0 →
                             (((bool01 (p0 == 29)) ≠ 0 →
                              ((IntKind.wrap .i16 p1) : Int) = (aluV p0 p1 p2) ∧ ((1 : Int) ≠ 0 ↔ ((aluK p0 p1 p2) : Int) ≠ 0) ∧ True) ∧ ((bool01 (p0 == 29)) = 0 →
                              (((bool01 (p0 == 30)) ≠ 0 →
                               ((shrZ .i32 p1 16) : Int) = (aluV p0 p1 p2) ∧ ((1 : Int) ≠ 0 ↔ ((aluK p0 p1 p2) : Int) ≠ 0) ∧ True) ∧ ((bool01 (p0 == 30)) = 0 →
                               (0 : Int) = (aluV p0 p1 p2) ∧ ((0 : Int) ≠ 0 ↔ ((aluK p0 p1 p2) : Int) ≠ 0) ∧ True))))))))))))))))))))))))))))))))))))))))))))))))))))))))))))

theorem holds (p0 p1 p2 : Int) (l_p0 : -9223372036854775808 ≤ p0) (u_p0 : p0 ≤ 9223372036854775807) (l_p1 : -2147483648 ≤ p1) (u_p1 : p1 ≤ 2147483647) (l_p2 : -2147483648 ≤ p2) (u_p2 : p2 ≤ 2147483647) : P p0 p1 p2 := by
  unfold P
  simp only [b01_eq, decide_eq_true_eq, decide_eq_false_iff_not, beq_iff_eq, beq_eq_false_iff_ne, bne_iff_ne, bne_eq_false_iff_eq, Int.not_le, Int.not_lt, true_and, and_true, iteZ_ne, ne_eq, Bool.not_eq_false, Bool.not_eq_true, not_true_eq_false, not_false_eq_true, Decidable.not_not, forall_const, false_implies, true_iff, iff_true, false_iff, iff_false, Int.reduceEq, Int.reduceNeg, eq_self, if_true, if_false, reduceIte]
  have hv : ∀ x op, aluP op p2 → x = aluX op p1 p2 → (x = aluV op p1 p2 ∧ ¬ aluK op p1 p2 = 0) := fun x op h e =>
    ⟨by rw [aluV_of h l_p1 u_p1 l_p2 u_p2, e], aluK_ne.2 h⟩
  have hn : ∀ op, ¬ aluP op p2 → ((0 : Int) = aluV op p1 p2 ∧ aluK op p1 p2 = 0) := fun op h => ⟨(aluV_no h).symm, by unfold aluK; rw [if_neg h]⟩
  refine ⟨fun h => ?_, fun h1 => ?_⟩
  · subst h; exact hv _ _ (by unfold aluP; omega) (by unfold aluX; simp only [Int.reduceEq, if_false, if_true]; all_goals rfl)
  refine ⟨fun h => ?_, fun h2 => ?_⟩
  · subst h; exact hv _ _ (by unfold aluP; omega) (by unfold aluX; simp only [Int.reduceEq, if_false, if_true]; all_goals rfl)
  refine ⟨fun h => ?_, fun h3 => ?_⟩
  · subst h; exact hv _ _ (by unfold aluP; omega) (by unfold aluX; simp only [Int.reduceEq, if_false, if_true]; all_goals rfl)
  refine ⟨fun h => ?_, fun h4 => ?_⟩
  · subst h; exact hv _ _ (by unfold aluP; omega) (by unfold aluX; simp only [Int.reduceEq, if_false, if_true]; all_goals rfl)
  refine ⟨fun h => ?_, fun h5 => ?_⟩
  · subst h; exact hv _ _ (by unfold aluP; omega) (by unfold aluX; simp only [Int.reduceEq, if_false, if_true]; all_goals rfl)
  refine ⟨fun h => ?_, fun h6 => ?_⟩
  · subst h; exact hv _ _ (by unfold aluP; omega) (by unfold aluX; simp only [Int.reduceEq, if_false, if_true]; all_goals rfl)
  refine ⟨fun h => ?_, fun h7 => ?_⟩
  · subst h; exact hv _ _ (by unfold aluP; omega) (by unfold aluX; simp only [Int.reduceEq, if_false, if_true]; all_goals rfl)
  refine ⟨fun h => ?_, fun h8 => ?_⟩
  · subst h; exact hv _ _ (by unfold aluP; omega) (by unfold aluX; simp only [Int.reduceEq, if_false, if_true]; all_goals rfl)
  refine ⟨fun h => ?_, fun h9 => ?_⟩
  · subst h; exact hv _ _ (by unfold aluP; omega) (by unfold aluX; simp only [Int.reduceEq, if_false, if_true]; all_goals rfl)
  refine ⟨fun h => ?_, fun h10 => ?_⟩
  · subst h; exact hv _ _ (by unfold aluP; omega) (by unfold aluX; simp only [Int.reduceEq, if_false, if_true]; all_goals rfl)
  refine ⟨fun h => ?_, fun h11 => ?_⟩
  · subst h; exact hv _ _ (by unfold aluP; omega) (by unfold aluX; simp only [Int.reduceEq, if_false, if_true]; all_goals rfl)
  refine ⟨fun h => ?_, fun h12 => ?_⟩
  · subst h; exact hv _ _ (by unfold aluP; omega) (by unfold aluX; simp only [Int.reduceEq, if_false, if_true]; all_goals rfl)
  refine ⟨fun h => ?_, fun h13 => ?_⟩
  · subst h; exact ⟨fun g => hv _ _ (by unfold aluP; omega) (by unfold aluX; simp only [Int.reduceEq, if_false, if_true]; rw [if_pos g]), fun g => hv _ _ (by unfold aluP; omega) (by unfold aluX; simp only [Int.reduceEq, if_false, if_true]; rw [if_neg (by omega)])⟩
  refine ⟨fun h => ?_, fun h14 => ?_⟩
  · subst h; exact ⟨fun g => hv _ _ (by unfold aluP; omega) (by unfold aluX; simp only [Int.reduceEq, if_false, if_true]; rw [if_pos g]), fun g => hv _ _ (by unfold aluP; omega) (by unfold aluX; simp only [Int.reduceEq, if_false, if_true]; rw [if_neg (by omega)])⟩
  refine ⟨fun h => ?_, fun h15 => ?_⟩
  · subst h; exact ⟨fun g => hv _ _ (by unfold aluP; omega) (by unfold aluX; simp only [Int.reduceEq, if_false, if_true]; rw [if_pos g]), fun g => hv _ _ (by unfold aluP; omega) (by unfold aluX; simp only [Int.reduceEq, if_false, if_true]; rw [if_neg (by omega)])⟩
  refine ⟨fun h => ?_, fun h16 => ?_⟩
  · subst h; exact hv _ _ (by unfold aluP; omega) (by unfold aluX; simp only [Int.reduceEq, if_false, if_true]; all_goals rfl)
  refine ⟨fun h => ?_, fun h17 => ?_⟩
  · subst h; exact hv _ _ (by unfold aluP; omega) (by unfold aluX; simp only [Int.reduceEq, if_false, if_true]; all_goals rfl)
  refine ⟨fun h => ?_, fun h18 => ?_⟩
  · subst h; exact hv _ _ (by unfold aluP; omega) (by unfold aluX; simp only [Int.reduceEq, if_false, if_true]; all_goals rfl)
  refine ⟨fun h => ?_, fun h19 => ?_⟩
  · subst h; exact hv _ _ (by unfold aluP; omega) (by unfold aluX; simp only [Int.reduceEq, if_false, if_true]; all_goals rfl)
  refine ⟨fun h => ?_, fun h20 => ?_⟩
  · subst h; exact hv _ _ (by unfold aluP; omega) (by unfold aluX; simp only [Int.reduceEq, if_false, if_true]; all_goals rfl)
  refine ⟨fun h => ?_, fun h21 => ?_⟩
  · subst h; exact hv _ _ (by unfold aluP; omega) (by unfold aluX; simp only [Int.reduceEq, if_false, if_true]; all_goals rfl)
  refine ⟨fun h => ?_, fun h22 => ?_⟩
  · subst h; exact ⟨fun g => hn _ (by unfold aluP; omega), fun g => hv _ _ (by unfold aluP; omega) (by unfold aluX; simp only [Int.reduceEq, if_false, if_true])⟩
  refine ⟨fun h => ?_, fun h23 => ?_⟩
  · subst h; exact ⟨fun g => hn _ (by unfold aluP; omega), fun g => hv _ _ (by unfold aluP; omega) (by unfold aluX; simp only [Int.reduceEq, if_false, if_true])⟩
  refine ⟨fun h => ?_, fun h24 => ?_⟩
  · subst h; exact hv _ _ (by unfold aluP; omega) (by unfold aluX; simp only [Int.reduceEq, if_false, if_true]; all_goals rfl)
  refine ⟨fun h => ?_, fun h25 => ?_⟩
  · subst h; exact hv _ _ (by unfold aluP; omega) (by unfold aluX; simp only [Int.reduceEq, if_false, if_true]; all_goals rfl)
  refine ⟨fun h => ?_, fun h26 => ?_⟩
  · subst h; exact hv _ _ (by unfold aluP; omega) (by unfold aluX; simp only [Int.reduceEq, if_false, if_true]; all_goals rfl)
  refine ⟨fun h => ?_, fun h27 => ?_⟩
  · subst h; exact ⟨fun g => hv _ _ (by unfold aluP; omega) (by unfold aluX; simp only [Int.reduceEq, if_false, if_true]; rw [if_neg g]), fun g => hv _ _ (by unfold aluP; omega) (by unfold aluX; simp only [Int.reduceEq, if_false, if_true]; rw [if_pos g])⟩
  refine ⟨fun h => ?_, fun h28 => ?_⟩
  · subst h; exact hv _ _ (by unfold aluP; omega) (by unfold aluX; simp only [Int.reduceEq, if_false, if_true]; all_goals rfl)
  refine ⟨fun h => ?_, fun h29 => ?_⟩
  · subst h; exact hv _ _ (by unfold aluP; omega) (by unfold aluX; simp only [Int.reduceEq, if_false, if_true]; all_goals rfl)
  refine ⟨fun h => ?_, fun h30 => ?_⟩
  · subst h; exact hv _ _ (by unfold aluP; omega) (by unfold aluX; simp only [Int.reduceEq, if_false, if_true]; all_goals rfl)
  exact hn _ (by unfold aluP; omega)

theorem plain (i : Nat → Int) (v : Nat → Value) (ro : Nat → RO) (p : Program) : TT.hdP (rc.cx (cxOf 2)) (rlF ⟨i, fN, v, ro, p⟩ rc.res) tree ⟨i, fN, v, ro, p⟩ = P (i 0) (i 1) (i 2) := by kernel_rfl
theorem ran : TT.beq (projL (rc.pj (cxOf 2)) (runT us (fun _ _ => .auto) rc 2 rc.f rc.args ⟨[], []⟩)) tree = true := by kernel_rfl
theorem fineT : (TT.fine (rc.cx (cxOf 2)) 1000 [] tree && (rc.cx (cxOf 2)).okB 1000 && SV.vbL 1000 rc.args && TT.tidy (rc.cx (cxOf 2)) [] tree) = true := by kernel_rfl
theorem ok : RcOk (cxOf 2) rc :=
  rc_run (runT_ok us_ok (fun _ _ => .auto) rc 2) ran fineT okb fun ρ hρ hcap hpre => by
    obtain ⟨i, f, v, ro, p⟩ := ρ
    have hf : f = fN := hρ.hF
    subst hf
    rw [plain]
    exact holds (i 0) (i 1) (i 2) (hρ.hi 0 _ rfl).1 (hρ.hi 0 _ rfl).2 (hρ.hi 1 _ rfl).1 (hρ.hi 1 _ rfl).2 (hρ.hi 2 _ rfl).1 (hρ.hi 2 _ rfl).2
end Go.Proofs.YtlhcaeakfbokmaaDoor.CADo
