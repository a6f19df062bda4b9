/-
  What astrolaberef12.Span answers, as numbers of what it is handed: its run by the engine, and the plain statement behind it. No condition.
-/
import Derived.Test.YtlepjbacaffddaaGab
import Derived.Test.YtlepjbacaffddaaCRPlaces
import Derived.Test.YtlepjbacaffddaaGmB
namespace Go.Proofs.Ytlepjbacaffddaa.CRSpan
open Go.Eng Go.RowKit
set_option linter.unusedVariables false
set_option linter.unusedSimpArgs false
set_option maxRecDepth 100000
def rc : Rc := ⟨14, [none, none], [.row [.int .u8] 100000, .row [.int .u8] 100000], [], .one, [.int .i64 (.ite (.b .eq .i64 (.v 0) (.v 1)) (.f 33 (.v 2) (.v 3) (.v 0)) (.c (-1)))]⟩
theorem okb : rc.ok = true := by kernel_rfl
noncomputable def us : SMs := fun m n => smR (m.cx (cxOf n)) [CRPlaces.rc]
theorem us_ok : SMsOk us := fun m n => smR_ok (rcs_cons CRPlaces.okb (rc_n CRPlaces.ok) (rcs_nil _))
def tree : TT (List E) :=
(.br (.b .ne .i64 (.v 0) (.v 1))
  (.leaf [(.c (-1))])
  (.br (.b .le .i64 (.v 0) (.v 4))
  (.br (.b .le .i64 (.v 1) (.v 5))
  (.br (.b .eq .i64 (.ite (.b .eq .i64 (.v 0) (.v 1)) (.f 30 (.v 2) (.v 3) (.v 0)) (.c 0)) (.c 0))
  (.leaf [(.c 0)])
  (.new 1000 (.b .psub .i64 (.ite (.b .eq .i64 (.v 0) (.v 1)) (.f 30 (.v 2) (.v 3) (.v 0)) (.c 0)) (.c 1))
  (.br (.b .le .i64 (.c 0) (.cl 1000 (-1) 999999))
  (.br (.b .lt .i64 (.cl 1000 (-1) 999999) (.ite (.b .eq .i64 (.v 0) (.v 1)) (.f 30 (.v 2) (.v 3) (.v 0)) (.c 0)))
  (.new 1001 (.w .i64 (.f 13 (.f 31 (.v 2) (.v 3) (.v 0)) (.cl 1000 (-1) 999999) (.c 0)))
  (.br (.b .lt .i64 (.c 0) (.ite (.b .eq .i64 (.v 0) (.v 1)) (.f 30 (.v 2) (.v 3) (.v 0)) (.c 0)))
  (.new 1002 (.w .i64 (.f 13 (.f 31 (.v 2) (.v 3) (.v 0)) (.c 0) (.c 0)))
  (.new 1003 (.w .i64 (.b .psub .i64 (.w .i64 (.b .padd .i64 (.c 1) (.cl 1001 (-9223372036854775808) 9223372036854775807))) (.cl 1002 (-9223372036854775808) 9223372036854775807)))
  (.leaf [(.cl 1003 (-9223372036854775808) 9223372036854775807)])))
  (.bad 200)))
  (.bad 200))
  (.bad 200))))
  (.bad 200))
  (.bad 200)))

def P (n0 n1 c0 c1 r0 r1 : Int) : Prop :=
 (((bool01 (n0 != n1)) ≠ 0 →
  ((-1) : Int) = (iteZ (bool01 (n0 == n1)) (spanZ c0 c1 n0) (-1)) ∧ True) ∧ ((bool01 (n0 != n1)) = 0 →
  (((bool01 (decide (n0 ≤ r0))) ≠ 0 →
   (((bool01 (decide (n1 ≤ r1))) ≠ 0 →
    (((bool01 ((iteZ (bool01 (n0 == n1)) (plN c0 c1 n0) 0) == 0)) ≠ 0 →
     (0 : Int) = (iteZ (bool01 (n0 == n1)) (spanZ c0 c1 n0) (-1)) ∧ True) ∧ ((bool01 ((iteZ (bool01 (n0 == n1)) (plN c0 c1 n0) 0) == 0)) = 0 →
     ∀ y1000 : Int, y1000 = ((iteZ (bool01 (n0 == n1)) (plN c0 c1 n0) 0) - 1) → ((-1) ≤ y1000 ∧ y1000 ≤ 999999) →
     (((bool01 (decide (0 ≤ y1000))) ≠ 0 →
      (((bool01 (decide (y1000 < (iteZ (bool01 (n0 == n1)) (plN c0 c1 n0) 0)))) ≠ 0 →
       ∀ y1001 : Int, y1001 = (IntKind.wrap .i64 (rdZ (plC c0 c1 n0) y1000)) → ((-9223372036854775808) ≤ y1001 ∧ y1001 ≤ 9223372036854775807) →
       (((bool01 (decide (0 < (iteZ (bool01 (n0 == n1)) (plN c0 c1 n0) 0)))) ≠ 0 →
        ∀ y1002 : Int, y1002 = (IntKind.wrap .i64 (rdZ (plC c0 c1 n0) 0)) → ((-9223372036854775808) ≤ y1002 ∧ y1002 ≤ 9223372036854775807) →
        ∀ y1003 : Int, y1003 = (IntKind.wrap .i64 ((IntKind.wrap .i64 (1 + y1001)) - y1002)) → ((-9223372036854775808) ≤ y1003 ∧ y1003 ≤ 9223372036854775807) →
        (y1003 : Int) = (iteZ (bool01 (n0 == n1)) (spanZ c0 c1 n0) (-1)) ∧ True) ∧ ((bool01 (decide (0 < (iteZ (bool01 (n0 == n1)) (plN c0 c1 n0) 0)))) = 0 →
        False))) ∧ ((bool01 (decide (y1000 < (iteZ (bool01 (n0 == n1)) (plN c0 c1 n0) 0)))) = 0 →
       False))) ∧ ((bool01 (decide (0 ≤ y1000))) = 0 →
      False))))) ∧ ((bool01 (decide (n1 ≤ r1))) = 0 →
    False))) ∧ ((bool01 (decide (n0 ≤ r0))) = 0 →
   False))))

theorem holds (n0 n1 c0 c1 r0 r1 : Int) (l_n0 : 0 ≤ n0) (u_n0 : n0 ≤ 100000) (l_n1 : 0 ≤ n1) (u_n1 : n1 ≤ 100000) (h_n0 : n0 ≤ r0) (h_n1 : n1 ≤ r1) : P n0 n1 c0 c1 r0 r1 := by
  unfold P
  simp only [b01_eq, decide_eq_true_eq, decide_eq_false_iff_not, beq_iff_eq, beq_eq_false_iff_ne, bne_iff_ne, bne_eq_false_iff_eq, Int.not_le, Int.not_lt, true_and, and_true, iteZ_ne, ne_eq, Bool.not_eq_false, Bool.not_eq_true, not_true_eq_false, not_false_eq_true, Decidable.not_not, forall_const, false_implies, true_iff, iff_true, false_iff, iff_false, Int.reduceEq, Int.reduceNeg, eq_self, if_true, if_false, reduceIte]
  refine ⟨fun h => by rw [if_neg h], fun h => ?_⟩
  subst h
  simp only [if_true]
  have hbd := plN_bd c0 c1 n0
  refine ⟨fun _ => ⟨fun _ => ⟨fun h => (span_zero h).symm, fun h => ?_⟩, fun _ => by omega⟩, fun _ => by omega⟩
  intro x hx _
  refine ⟨fun _ => ⟨fun _ => ?_, fun _ => by omega⟩, fun _ => by omega⟩
  intro y hy _
  refine ⟨fun _ => ?_, fun _ => by omega⟩
  intro z hz _ v hv _
  rw [hv, hz, hy, hx, span_some h]

theorem plain (i : Nat → Int) (v : Nat → Value) (ro : Nat → RO) (p : Program) : TT.hdP (rc.cx (cxOf 2)) (rlF ⟨i, fN, v, ro, p⟩ rc.res) tree ⟨i, fN, v, ro, p⟩ = P (i 0) (i 1) (i 2) (i 3) (i 4) (i 5) := by kernel_rfl
theorem ran : TT.beq (projL (rc.pj (cxOf 2)) (runT us (fun _ _ => .auto) rc 2 rc.f rc.args ⟨[], []⟩)) tree = true := by kernel_rfl
theorem fineT : (TT.fine (rc.cx (cxOf 2)) 1000 [] tree && (rc.cx (cxOf 2)).okB 1000 && SV.vbL 1000 rc.args && TT.tidy (rc.cx (cxOf 2)) [] tree) = true := by kernel_rfl
theorem ok : RcOk (cxOf 2) rc :=
  rc_run (runT_ok us_ok (fun _ _ => .auto) rc 2) ran fineT okb fun ρ hρ hcap hpre => by
    obtain ⟨i, f, v, ro, p⟩ := ρ
    have hf : f = fN := hρ.hF
    subst hf
    rw [plain]
    exact holds (i 0) (i 1) (i 2) (i 3) (i 4) (i 5) (hρ.hi 0 _ rfl).1 (hρ.hi 0 _ rfl).2 (hρ.hi 1 _ rfl).1 (hρ.hi 1 _ rfl).2 (hcap _ (List.mem_of_getElem? (i := 0) rfl)) (hcap _ (List.mem_of_getElem? (i := 1) rfl))
end Go.Proofs.Ytlepjbacaffddaa.CRSpan
