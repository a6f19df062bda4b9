/-
  What plan.Plan).Alloc answers, as numbers of what it is handed: its run by the engine, and the plain statement behind it. No condition.
-/
import Derived.Test.YtefpbddmpiaaiaaDoorGab
import Derived.Test.YtefpbddmpiaaiaaDoorCPFind
import Derived.Test.YtefpbddmpiaaiaaDoorCPIs
import Derived.Test.YtefpbddmpiaaiaaDoorGmP
namespace Go.Proofs.YtefpbddmpiaaiaaDoor.CPAlloc
open Go.Eng Go.RowKit
set_option linter.unusedVariables false
set_option linter.unusedSimpArgs false
set_option maxRecDepth 100000
def rk : Rk := ⟨9, [(-9223372036854775808, 9223372036854775807), (-9223372036854775808, 9223372036854775807), (0, 100), (0, 1), (-9223372036854775808, 9223372036854775807)], 8, [.ptr 0 0, .str (.v 6), .int .i64 (.v 4), .bool (.v 7)], [.cells [.int .i64 (.v 0), .int .i64 (.v 1), .sl (.own 1) 4 (.c 0) (.v 2) none, .bool (.v 3)] 73 none, .arr [.str, .int .i64, .int .i64, .bool] 37 (.v 5) (.v 2)], [(.v 3)], .tup [.int .i64 (.v 1000000), .int .i64 (.v 1000001)], [.cells [.int .i64 (.v 0), .int .i64 (.v 1000002), .sl (.own 2) 4 (.c 0) (.v 1000003) none, .bool (.v 3)] 73 none, .gone, .arr [.str, .int .i64, .int .i64, .bool] 37 (.v 1000004) (.v 1000003)], [.num (.ite (.b .eq .i64 (.f 57 (.v 5) (.v 2) (listE [(.v 6), (.v 4), (.v 0), (.v 1)])) (.c 0)) (.v 1) (.c 0)), .num (.f 57 (.v 5) (.v 2) (listE [(.v 6), (.v 4), (.v 0), (.v 1)])), .num (.ite (.b .eq .i64 (.f 57 (.v 5) (.v 2) (listE [(.v 6), (.v 4), (.v 0), (.v 1)])) (.c 0)) (.w .i64 (.b .padd .i64 (.v 1) (.v 4))) (.v 1)), .num (.b .padd .i64 (.v 2) (.b .eq .i64 (.f 57 (.v 5) (.v 2) (listE [(.v 6), (.v 4), (.v 0), (.v 1)])) (.c 0))), .code [.str, .int .i64, .int .i64, .bool] (.ite (.b .eq .i64 (.f 57 (.v 5) (.v 2) (listE [(.v 6), (.v 4), (.v 0), (.v 1)])) (.c 0)) (.f 58 (.v 5) (.v 2) (listE [(.v 6), (.v 1), (.v 4), (.v 7)])) (.v 5)) (.b .padd .i64 (.v 2) (.b .eq .i64 (.f 57 (.v 5) (.v 2) (listE [(.v 6), (.v 4), (.v 0), (.v 1)])) (.c 0)))]⟩
theorem okk : rk.ok = true := by kernel_rfl
theorem okh : rk.rh.ok = true := by kernel_rfl
noncomputable def us : SMs := fun Γ ins n => smH (cxG n Γ ins) [CPFind.rk.rh] (smR (cxG n Γ ins) [CPIs.rc])
theorem us_ok : SMsOk us := fun Γ ins n => smH_ok (rhs_cons CPFind.okh (rh_n CPFind.ok) (rhs_nil _)) (smR_ok (rcs_cons CPIs.okb (rc_n CPIs.ok) (rcs_nil _)))
def tree : TT (List E) :=
(.br (.nt (.v 3))
  (.leaf [(.c 0), (.c 1), (.v 1), (.v 2), (.v 5)])
  (.br (.nt (.f 53 (.v 6) (.c 0) (.c 0)))
  (.leaf [(.c 0), (.c 8), (.v 1), (.v 2), (.v 5)])
  (.br (.b .le .i64 (.c 0) (.f 54 (.v 5) (.v 2) (.v 6)))
  (.leaf [(.c 0), (.c 9), (.v 1), (.v 2), (.v 5)])
  (.br (.b .lt .i64 (.v 4) (.c 1))
  (.leaf [(.c 0), (.c 2), (.v 1), (.v 2), (.v 5)])
  (.br (.b .lt .i64 (.w .i64 (.b .psub .i64 (.v 0) (.v 1))) (.v 4))
  (.leaf [(.c 0), (.c 11), (.v 1), (.v 2), (.v 5)])
  (.leaf [(.v 1), (.c 0), (.w .i64 (.b .padd .i64 (.v 1) (.v 4))), (.b .padd .i64 (.v 2) (.c 1)), (.f 14 (.v 5) (.v 2) (.f 11 (.v 6) (.f 11 (.v 1) (.f 11 (.v 4) (.f 11 (.v 7) (.c 0) (.c 0)) (.c 0)) (.c 0)) (.c 0)))]))))))

def P (size used n live k q nm sec : Int) : Prop :=
 (((bool01 (live == 0)) ≠ 0 →
  (0 : Int) = (iteZ (bool01 ((allE q n (consZ nm (consZ k (consZ size (consZ used 0))))) == 0)) used 0) ∧ (1 : Int) = (allE q n (consZ nm (consZ k (consZ size (consZ used 0))))) ∧ (used : Int) = (iteZ (bool01 ((allE q n (consZ nm (consZ k (consZ size (consZ used 0))))) == 0)) (IntKind.wrap .i64 (used + k)) used) ∧ (n : Int) = (n + (bool01 ((allE q n (consZ nm (consZ k (consZ size (consZ used 0))))) == 0))) ∧ rowEq [.str, .int .i64, .int .i64, .bool] q (iteZ (bool01 ((allE q n (consZ nm (consZ k (consZ size (consZ used 0))))) == 0)) (allQ q n (consZ nm (consZ used (consZ k (consZ sec 0))))) q) (n + (bool01 ((allE q n (consZ nm (consZ k (consZ size (consZ used 0))))) == 0))) ∧ True) ∧ ((bool01 (live == 0)) = 0 →
  (((bool01 ((isZ nm) == 0)) ≠ 0 →
   (0 : Int) = (iteZ (bool01 ((allE q n (consZ nm (consZ k (consZ size (consZ used 0))))) == 0)) used 0) ∧ (8 : Int) = (allE q n (consZ nm (consZ k (consZ size (consZ used 0))))) ∧ (used : Int) = (iteZ (bool01 ((allE q n (consZ nm (consZ k (consZ size (consZ used 0))))) == 0)) (IntKind.wrap .i64 (used + k)) used) ∧ (n : Int) = (n + (bool01 ((allE q n (consZ nm (consZ k (consZ size (consZ used 0))))) == 0))) ∧ rowEq [.str, .int .i64, .int .i64, .bool] q (iteZ (bool01 ((allE q n (consZ nm (consZ k (consZ size (consZ used 0))))) == 0)) (allQ q n (consZ nm (consZ used (consZ k (consZ sec 0))))) q) (n + (bool01 ((allE q n (consZ nm (consZ k (consZ size (consZ used 0))))) == 0))) ∧ True) ∧ ((bool01 ((isZ nm) == 0)) = 0 →
   (((bool01 (decide (0 ≤ (findZ q n nm)))) ≠ 0 →
    (0 : Int) = (iteZ (bool01 ((allE q n (consZ nm (consZ k (consZ size (consZ used 0))))) == 0)) used 0) ∧ (9 : Int) = (allE q n (consZ nm (consZ k (consZ size (consZ used 0))))) ∧ (used : Int) = (iteZ (bool01 ((allE q n (consZ nm (consZ k (consZ size (consZ used 0))))) == 0)) (IntKind.wrap .i64 (used + k)) used) ∧ (n : Int) = (n + (bool01 ((allE q n (consZ nm (consZ k (consZ size (consZ used 0))))) == 0))) ∧ rowEq [.str, .int .i64, .int .i64, .bool] q (iteZ (bool01 ((allE q n (consZ nm (consZ k (consZ size (consZ used 0))))) == 0)) (allQ q n (consZ nm (consZ used (consZ k (consZ sec 0))))) q) (n + (bool01 ((allE q n (consZ nm (consZ k (consZ size (consZ used 0))))) == 0))) ∧ True) ∧ ((bool01 (decide (0 ≤ (findZ q n nm)))) = 0 →
    (((bool01 (decide (k < 1))) ≠ 0 →
     (0 : Int) = (iteZ (bool01 ((allE q n (consZ nm (consZ k (consZ size (consZ used 0))))) == 0)) used 0) ∧ (2 : Int) = (allE q n (consZ nm (consZ k (consZ size (consZ used 0))))) ∧ (used : Int) = (iteZ (bool01 ((allE q n (consZ nm (consZ k (consZ size (consZ used 0))))) == 0)) (IntKind.wrap .i64 (used + k)) used) ∧ (n : Int) = (n + (bool01 ((allE q n (consZ nm (consZ k (consZ size (consZ used 0))))) == 0))) ∧ rowEq [.str, .int .i64, .int .i64, .bool] q (iteZ (bool01 ((allE q n (consZ nm (consZ k (consZ size (consZ used 0))))) == 0)) (allQ q n (consZ nm (consZ used (consZ k (consZ sec 0))))) q) (n + (bool01 ((allE q n (consZ nm (consZ k (consZ size (consZ used 0))))) == 0))) ∧ True) ∧ ((bool01 (decide (k < 1))) = 0 →
     (((bool01 (decide ((IntKind.wrap .i64 (size - used)) < k))) ≠ 0 →
      (0 : Int) = (iteZ (bool01 ((allE q n (consZ nm (consZ k (consZ size (consZ used 0))))) == 0)) used 0) ∧ (11 : Int) = (allE q n (consZ nm (consZ k (consZ size (consZ used 0))))) ∧ (used : Int) = (iteZ (bool01 ((allE q n (consZ nm (consZ k (consZ size (consZ used 0))))) == 0)) (IntKind.wrap .i64 (used + k)) used) ∧ (n : Int) = (n + (bool01 ((allE q n (consZ nm (consZ k (consZ size (consZ used 0))))) == 0))) ∧ rowEq [.str, .int .i64, .int .i64, .bool] q (iteZ (bool01 ((allE q n (consZ nm (consZ k (consZ size (consZ used 0))))) == 0)) (allQ q n (consZ nm (consZ used (consZ k (consZ sec 0))))) q) (n + (bool01 ((allE q n (consZ nm (consZ k (consZ size (consZ used 0))))) == 0))) ∧ True) ∧ ((bool01 (decide ((IntKind.wrap .i64 (size - used)) < k))) = 0 →
      (used : Int) = (iteZ (bool01 ((allE q n (consZ nm (consZ k (consZ size (consZ used 0))))) == 0)) used 0) ∧ (0 : Int) = (allE q n (consZ nm (consZ k (consZ size (consZ used 0))))) ∧ ((IntKind.wrap .i64 (used + k)) : Int) = (iteZ (bool01 ((allE q n (consZ nm (consZ k (consZ size (consZ used 0))))) == 0)) (IntKind.wrap .i64 (used + k)) used) ∧ ((n + 1) : Int) = (n + (bool01 ((allE q n (consZ nm (consZ k (consZ size (consZ used 0))))) == 0))) ∧ rowEq [.str, .int .i64, .int .i64, .bool] (updZ q n (consZ nm (consZ used (consZ k (consZ sec 0))))) (iteZ (bool01 ((allE q n (consZ nm (consZ k (consZ size (consZ used 0))))) == 0)) (allQ q n (consZ nm (consZ used (consZ k (consZ sec 0))))) q) (n + (bool01 ((allE q n (consZ nm (consZ k (consZ size (consZ used 0))))) == 0))) ∧ True))))))))))

theorem holds (size used n live k q nm sec : Int) (l_size : -9223372036854775808 ≤ size) (u_size : size ≤ 9223372036854775807) (l_used : -9223372036854775808 ≤ used) (u_used : used ≤ 9223372036854775807) (l_n : 0 ≤ n) (u_n : n ≤ 100) (l_live : 0 ≤ live) (u_live : live ≤ 1) (l_k : -9223372036854775808 ≤ k) (u_k : k ≤ 9223372036854775807) (h_pre0 : live ≠ 0) : P size used n live k q nm sec := by
  unfold P
  simp only [b01_eq, decide_eq_true_eq, decide_eq_false_iff_not, beq_iff_eq, beq_eq_false_iff_ne, bne_iff_ne, bne_eq_false_iff_eq, Int.not_le, Int.not_lt, true_and, and_true, iteZ_ne, ne_eq, Bool.not_eq_false, Bool.not_eq_true, not_true_eq_false, not_false_eq_true, Decidable.not_not, forall_const, false_implies, true_iff, iff_true, false_iff, iff_false, Int.reduceEq, Int.reduceNeg, eq_self, if_true, if_false, reduceIte]
  have hA := allE_cons q n nm k size used
  generalize allE q n _ = A at hA ⊢
  refine ⟨fun h => absurd h h_pre0, fun _ => ⟨fun h1 => ?_, fun h1 => ⟨fun h2 => ?_, fun h2 => ⟨fun h3 => ?_, fun h3 => ⟨fun h4 => ?_, fun h4 => ?_⟩⟩⟩⟩⟩
  · rw [if_pos h1] at hA; subst hA; exact ⟨by simp, rfl, by simp, by simp [bool01], by simp [rowEq_refl]⟩
  · rw [if_neg h1, if_pos h2] at hA; subst hA; exact ⟨by simp, rfl, by simp, by simp [bool01], by simp [rowEq_refl]⟩
  · rw [if_neg h1, if_neg (by omega), if_pos h3] at hA; subst hA; exact ⟨by simp, rfl, by simp, by simp [bool01], by simp [rowEq_refl]⟩
  · rw [if_neg h1, if_neg (by omega), if_neg (by omega), if_pos h4] at hA; subst hA; exact ⟨by simp, rfl, by simp, by simp [bool01], by simp [rowEq_refl]⟩
  · rw [if_neg h1, if_neg (by omega), if_neg (by omega), if_neg (by omega)] at hA; subst hA; exact ⟨by simp, rfl, by simp, by simp [bool01], by simp [rowEq_refl, allQ]⟩

theorem plain (i : Nat → Int) (v : Nat → Value) (ro : Nat → RO) (p : Program) : TT.hdP (rk.rh.cx (cxOf 2)) (rsF ⟨i, fN, v, ro, p⟩ rk.rs) tree ⟨i, fN, v, ro, p⟩ = P (i 0) (i 1) (i 2) (i 3) (i 4) (i 5) (i 6) (i 7) := by kernel_rfl
theorem ran : TT.beq (projL (rk.pj (cxOf 2)) (runH us (fun _ _ => .auto) rk 2 rk.f rk.args ⟨rk.inb, []⟩)) tree = true := by kernel_rfl
theorem fineT : (TT.fine (rk.rh.cx (cxOf 2)) 1000 [] tree && (rk.rh.cx (cxOf 2)).okB 1000 && SV.vbL 1000 rk.args && TT.tidy (rk.rh.cx (cxOf 2)) [] tree) = true := by kernel_rfl
theorem fineB : blVb 1000 rk.inb = true := by kernel_rfl
theorem ok : RhOk (cxOf 2) rk.rh :=
  rk_run (runH_ok us_ok (fun _ _ => .auto) rk 2) ran fineT fineB okk fun ρ hρ hpre => by
    obtain ⟨i, f, v, ro, p⟩ := ρ
    have hf : f = fN := hρ.hF
    subst hf
    rw [plain]
    exact holds (i 0) (i 1) (i 2) (i 3) (i 4) (i 5) (i 6) (i 7) (hρ.hi 0 _ rfl).1 (hρ.hi 0 _ rfl).2 (hρ.hi 1 _ rfl).1 (hρ.hi 1 _ rfl).2 (hρ.hi 2 _ rfl).1 (hρ.hi 2 _ rfl).2 (hρ.hi 3 _ rfl).1 (hρ.hi 3 _ rfl).2 (hρ.hi 4 _ rfl).1 (hρ.hi 4 _ rfl).2 (hpre _ (List.mem_of_getElem? (i := 0) rfl))
end Go.Proofs.YtefpbddmpiaaiaaDoor.CPAlloc
