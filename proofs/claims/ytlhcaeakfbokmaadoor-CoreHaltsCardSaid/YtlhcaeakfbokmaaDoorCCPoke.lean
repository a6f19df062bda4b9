/-
  What core.Core).Poke answers, as numbers of what it is handed: its run by the engine, and the plain statement behind it. No condition.
-/
import Derived.Test.YtlhcaeakfbokmaaDoorGab
import Derived.Test.YtlhcaeakfbokmaaDoorGmC
namespace Go.Proofs.YtlhcaeakfbokmaaDoor.CCPoke
open Go.Eng Go.RowKit
set_option linter.unusedVariables false
set_option linter.unusedSimpArgs false
set_option maxRecDepth 100000
def rk : Rk := ⟨11, [(-9223372036854775808, 9223372036854775807), (-2147483648, 2147483647), (-9223372036854775808, 9223372036854775807), (-9223372036854775808, 9223372036854775807), (-9223372036854775808, 9223372036854775807), (0, 16384), (0, 999999), (0, 2048)], 12, [.ptr 0 0, .int .i64 (.v 0), .int .i32 (.v 1)], [.cells [.ptr 1 0, .sl (.own 2) 6 (.c 0) (.v 5) none, .int .i32 (.w .i32 (.f 13 (.v 9) (.c 0) (.c 0))), .int .i32 (.w .i32 (.f 13 (.v 9) (.c 1) (.c 0))), .int .i32 (.w .i32 (.f 13 (.v 9) (.c 2) (.c 0))), .int .i32 (.w .i32 (.f 13 (.v 9) (.c 3) (.c 0))), .int .i32 (.w .i32 (.f 13 (.v 9) (.c 4) (.c 0))), .int .i32 (.w .i32 (.f 13 (.v 9) (.c 5) (.c 0))), .int .i32 (.w .i32 (.f 13 (.v 9) (.c 6) (.c 0))), .int .i32 (.w .i32 (.f 13 (.v 9) (.c 7) (.c 0))), .int .i32 (.w .i32 (.f 13 (.v 9) (.c 8) (.c 0))), .int .i32 (.w .i32 (.f 13 (.v 9) (.c 9) (.c 0))), .int .i32 (.w .i32 (.f 13 (.v 9) (.c 10) (.c 0))), .int .i32 (.w .i32 (.f 13 (.v 9) (.c 11) (.c 0))), .int .i32 (.w .i32 (.f 13 (.v 9) (.c 12) (.c 0))), .int .i32 (.w .i32 (.f 13 (.v 9) (.c 13) (.c 0))), .int .i32 (.w .i32 (.f 13 (.v 9) (.c 14) (.c 0))), .int .i32 (.w .i32 (.f 13 (.v 9) (.c 15) (.c 0))), .int .i32 (.w .i32 (.f 13 (.v 9) (.c 16) (.c 0))), .int .i32 (.w .i32 (.f 13 (.v 9) (.c 17) (.c 0))), .int .i32 (.w .i32 (.f 13 (.v 9) (.c 18) (.c 0))), .int .i32 (.w .i32 (.f 13 (.v 9) (.c 19) (.c 0))), .int .i32 (.w .i32 (.f 13 (.v 9) (.c 20) (.c 0))), .int .i32 (.w .i32 (.f 13 (.v 9) (.c 21) (.c 0))), .int .i32 (.w .i32 (.f 13 (.v 9) (.c 22) (.c 0))), .int .i32 (.w .i32 (.f 13 (.v 9) (.c 23) (.c 0))), .int .i32 (.w .i32 (.f 13 (.v 9) (.c 24) (.c 0))), .int .i32 (.w .i32 (.f 13 (.v 9) (.c 25) (.c 0))), .int .i32 (.w .i32 (.f 13 (.v 9) (.c 26) (.c 0))), .int .i32 (.w .i32 (.f 13 (.v 9) (.c 27) (.c 0))), .int .i32 (.w .i32 (.f 13 (.v 9) (.c 28) (.c 0))), .int .i32 (.w .i32 (.f 13 (.v 9) (.c 29) (.c 0))), .int .i32 (.w .i32 (.f 13 (.v 9) (.c 30) (.c 0))), .int .i32 (.w .i32 (.f 13 (.v 9) (.c 31) (.c 0))), .int .i64 (.v 2), .int .i64 (.v 3), .int .i64 (.v 4), .sl (.own 4) 3 (.c 0) (.v 6) none] 42 none, .cells [.sl (.own 3) 1 (.c 0) (.v 7) none, .bool (.c 1)] 62 none, .arr [.int .i64, .int .i64, .int .i64, .int .i64, .int .i64, .bool] 52 (.v 8) (.v 5), .arr [.int .i32] 21 (.v 10) (.v 7), .arr [.int .i64, .int .i64, .int .i64] 55 (.v 11) (.v 6)], [], .bool (.v 1000000), [.cells [.ptr 1 0, .sl (.own 2) 6 (.c 0) (.v 5) none, .int .i32 (.w .i32 (.f 13 (.v 9) (.c 0) (.c 0))), .int .i32 (.w .i32 (.f 13 (.v 9) (.c 1) (.c 0))), .int .i32 (.w .i32 (.f 13 (.v 9) (.c 2) (.c 0))), .int .i32 (.w .i32 (.f 13 (.v 9) (.c 3) (.c 0))), .int .i32 (.w .i32 (.f 13 (.v 9) (.c 4) (.c 0))), .int .i32 (.w .i32 (.f 13 (.v 9) (.c 5) (.c 0))), .int .i32 (.w .i32 (.f 13 (.v 9) (.c 6) (.c 0))), .int .i32 (.w .i32 (.f 13 (.v 9) (.c 7) (.c 0))), .int .i32 (.w .i32 (.f 13 (.v 9) (.c 8) (.c 0))), .int .i32 (.w .i32 (.f 13 (.v 9) (.c 9) (.c 0))), .int .i32 (.w .i32 (.f 13 (.v 9) (.c 10) (.c 0))), .int .i32 (.w .i32 (.f 13 (.v 9) (.c 11) (.c 0))), .int .i32 (.w .i32 (.f 13 (.v 9) (.c 12) (.c 0))), .int .i32 (.w .i32 (.f 13 (.v 9) (.c 13) (.c 0))), .int .i32 (.w .i32 (.f 13 (.v 9) (.c 14) (.c 0))), .int .i32 (.w .i32 (.f 13 (.v 9) (.c 15) (.c 0))), .int .i32 (.w .i32 (.f 13 (.v 9) (.c 16) (.c 0))), .int .i32 (.w .i32 (.f 13 (.v 9) (.c 17) (.c 0))), .int .i32 (.w .i32 (.f 13 (.v 9) (.c 18) (.c 0))), .int .i32 (.w .i32 (.f 13 (.v 9) (.c 19) (.c 0))), .int .i32 (.w .i32 (.f 13 (.v 9) (.c 20) (.c 0))), .int .i32 (.w .i32 (.f 13 (.v 9) (.c 21) (.c 0))), .int .i32 (.w .i32 (.f 13 (.v 9) (.c 22) (.c 0))), .int .i32 (.w .i32 (.f 13 (.v 9) (.c 23) (.c 0))), .int .i32 (.w .i32 (.f 13 (.v 9) (.c 24) (.c 0))), .int .i32 (.w .i32 (.f 13 (.v 9) (.c 25) (.c 0))), .int .i32 (.w .i32 (.f 13 (.v 9) (.c 26) (.c 0))), .int .i32 (.w .i32 (.f 13 (.v 9) (.c 27) (.c 0))), .int .i32 (.w .i32 (.f 13 (.v 9) (.c 28) (.c 0))), .int .i32 (.w .i32 (.f 13 (.v 9) (.c 29) (.c 0))), .int .i32 (.w .i32 (.f 13 (.v 9) (.c 30) (.c 0))), .int .i32 (.w .i32 (.f 13 (.v 9) (.c 31) (.c 0))), .int .i64 (.v 2), .int .i64 (.v 3), .int .i64 (.v 4), .sl (.own 4) 3 (.c 0) (.v 6) none] 42 none, .cells [.sl (.own 3) 1 (.c 0) (.v 7) none, .bool (.c 1)] 62 none, .arr [.int .i64, .int .i64, .int .i64, .int .i64, .int .i64, .bool] 52 (.v 8) (.v 5), .arr [.int .i32] 21 (.v 1000001) (.v 7), .arr [.int .i64, .int .i64, .int .i64] 55 (.v 11) (.v 6)], [.bool (.b .pmul .i64 (.b .le .i64 (.c 0) (.v 0)) (.b .lt .i64 (.v 0) (.v 7))), .code [.int .i32] (.ite (.b .pmul .i64 (.b .le .i64 (.c 0) (.v 0)) (.b .lt .i64 (.v 0) (.v 7))) (.f 14 (.v 10) (.v 0) (.v 1)) (.v 10)) (.v 7)]⟩
theorem okk : rk.ok = true := by kernel_rfl
theorem okh : rk.rh.ok = true := by kernel_rfl
noncomputable def us : SMs := fun Γ ins n => smH (cxG n Γ ins) [] (smR (cxG n Γ ins) [])
theorem us_ok : SMsOk us := fun Γ ins n => smH_ok (tabsG n Γ ins) (rhs_nil _) (smR_ok (tabsG n Γ ins) (rcs_nil _))
def tree : TT (List E) :=
(.br (.b .le .i64 (.c 0) (.v 0))
  (.br (.b .lt .i64 (.v 0) (.c 2048))
  (.br (.b .lt .i64 (.w .i32 (.v 0)) (.c 0))
  (.leaf [(.c 0), (.v 10)])
  (.br (.b .le .i64 (.v 7) (.w .i32 (.v 0)))
  (.leaf [(.c 0), (.v 10)])
  (.br (.b .le .i64 (.c 0) (.w .i32 (.v 0)))
  (.br (.b .lt .i64 (.w .i32 (.v 0)) (.v 7))
  (.leaf [(.c 1), (.f 14 (.v 10) (.w .i32 (.v 0)) (.v 1))])
  (.bad 200))
  (.bad 200))))
  (.leaf [(.c 0), (.v 10)]))
  (.leaf [(.c 0), (.v 10)]))

def P (addr x pc state cost nc nm nr cq rg rm mq : Int) : Prop :=
 (((bool01 (decide (0 ≤ addr))) ≠ 0 →
  (((bool01 (decide (addr < 2048))) ≠ 0 →
   (((bool01 (decide ((IntKind.wrap .i32 addr) < 0))) ≠ 0 →
    ((0 : Int) ≠ 0 ↔ (((bool01 (decide (0 ≤ addr))) * (bool01 (decide (addr < nr)))) : Int) ≠ 0) ∧ rowEq [.int .i32] rm (iteZ ((bool01 (decide (0 ≤ addr))) * (bool01 (decide (addr < nr)))) (updZ rm addr x) rm) nr ∧ True) ∧ ((bool01 (decide ((IntKind.wrap .i32 addr) < 0))) = 0 →
    (((bool01 (decide (nr ≤ (IntKind.wrap .i32 addr)))) ≠ 0 →
     ((0 : Int) ≠ 0 ↔ (((bool01 (decide (0 ≤ addr))) * (bool01 (decide (addr < nr)))) : Int) ≠ 0) ∧ rowEq [.int .i32] rm (iteZ ((bool01 (decide (0 ≤ addr))) * (bool01 (decide (addr < nr)))) (updZ rm addr x) rm) nr ∧ True) ∧ ((bool01 (decide (nr ≤ (IntKind.wrap .i32 addr)))) = 0 →
     (((bool01 (decide (0 ≤ (IntKind.wrap .i32 addr)))) ≠ 0 →
      (((bool01 (decide ((IntKind.wrap .i32 addr) < nr))) ≠ 0 →
       ((1 : Int) ≠ 0 ↔ (((bool01 (decide (0 ≤ addr))) * (bool01 (decide (addr < nr)))) : Int) ≠ 0) ∧ rowEq [.int .i32] (updZ rm (IntKind.wrap .i32 addr) x) (iteZ ((bool01 (decide (0 ≤ addr))) * (bool01 (decide (addr < nr)))) (updZ rm addr x) rm) nr ∧ True) ∧ ((bool01 (decide ((IntKind.wrap .i32 addr) < nr))) = 0 →
       False))) ∧ ((bool01 (decide (0 ≤ (IntKind.wrap .i32 addr)))) = 0 →
      False))))))) ∧ ((bool01 (decide (addr < 2048))) = 0 →
   ((0 : Int) ≠ 0 ↔ (((bool01 (decide (0 ≤ addr))) * (bool01 (decide (addr < nr)))) : Int) ≠ 0) ∧ rowEq [.int .i32] rm (iteZ ((bool01 (decide (0 ≤ addr))) * (bool01 (decide (addr < nr)))) (updZ rm addr x) rm) nr ∧ True))) ∧ ((bool01 (decide (0 ≤ addr))) = 0 →
  ((0 : Int) ≠ 0 ↔ (((bool01 (decide (0 ≤ addr))) * (bool01 (decide (addr < nr)))) : Int) ≠ 0) ∧ rowEq [.int .i32] rm (iteZ ((bool01 (decide (0 ≤ addr))) * (bool01 (decide (addr < nr)))) (updZ rm addr x) rm) nr ∧ True))

theorem two_in (a n : Int) : (bool01 (decide (0 ≤ a)) * bool01 (decide (a < n))) = if 0 ≤ a ∧ a < n then 1 else 0 := by
  by_cases h1 : 0 ≤ a <;> by_cases h2 : a < n <;> simp [bool01, h1, h2]
theorem holds (addr x pc state cost nc nm nr cq rg rm mq : Int) (l_addr : -9223372036854775808 ≤ addr) (u_addr : addr ≤ 9223372036854775807) (l_x : -2147483648 ≤ x) (u_x : x ≤ 2147483647) (l_pc : -9223372036854775808 ≤ pc) (u_pc : pc ≤ 9223372036854775807) (l_state : -9223372036854775808 ≤ state) (u_state : state ≤ 9223372036854775807) (l_cost : -9223372036854775808 ≤ cost) (u_cost : cost ≤ 9223372036854775807) (l_nc : 0 ≤ nc) (u_nc : nc ≤ 16384) (l_nm : 0 ≤ nm) (u_nm : nm ≤ 999999) (l_nr : 0 ≤ nr) (u_nr : nr ≤ 2048) : P addr x pc state cost nc nm nr cq rg rm mq := by
  unfold P
  simp only [two_in]
  simp only [b01_eq, decide_eq_true_eq, decide_eq_false_iff_not, beq_iff_eq, beq_eq_false_iff_ne, bne_iff_ne, bne_eq_false_iff_eq, Int.not_le, Int.not_lt, true_and, and_true, iteZ_ne, ne_eq, Bool.not_eq_false, Bool.not_eq_true, not_true_eq_false, not_false_eq_true, Decidable.not_not, forall_const, false_implies, true_iff, iff_true, false_iff, iff_false, Int.reduceEq, Int.reduceNeg, eq_self, if_true, if_false, reduceIte]
  have wi : 0 ≤ addr → addr < 2048 → IntKind.wrap .i32 addr = addr := fun h1 h2 => wi32 (by omega) (by omega)
  have no : ¬ (0 ≤ addr ∧ addr < nr) → (((if 0 ≤ addr ∧ addr < nr then (1 : Int) else 0) = 0) ∧ rowEq [.int .i32] rm (if ¬ (if 0 ≤ addr ∧ addr < nr then (1 : Int) else 0) = 0 then updZ rm addr x else rm) nr) := fun h => by
    simp only [if_neg h, not_true_eq_false, if_false]
    exact ⟨trivial, rowEq_refl _ _ _⟩
  refine ⟨fun h1 => ⟨fun h2 => ?_, fun h2 => no (by omega)⟩, fun h1 => no (by omega)⟩
  rw [wi h1 h2]
  refine ⟨fun h3 => by omega, fun h3 => ⟨fun h4 => no (by omega), fun h4 => ⟨fun h5 => ⟨fun h6 => ?_, fun h6 => by omega⟩, fun h5 => by omega⟩⟩⟩
  simp only [if_pos (show 0 ≤ addr ∧ addr < nr from ⟨h1, h6⟩)]
  exact ⟨by decide, by rw [if_pos (by decide)]; exact rowEq_refl _ _ _⟩

theorem plain (i : Nat → Int) (v : Nat → Value) (ro : Nat → RO) (p : Program) : TT.hdP (rk.rh.cx (cxOf 2)) (rsF ⟨i, fN, v, ro, p⟩ rk.rs) tree ⟨i, fN, v, ro, p⟩ = P (i 0) (i 1) (i 2) (i 3) (i 4) (i 5) (i 6) (i 7) (i 8) (i 9) (i 10) (i 11) := by kernel_rfl
theorem ran : TT.beq (projL (rk.pj (cxOf 2)) (runH us (fun _ _ => .auto) rk 2 rk.f rk.args ⟨rk.inb, []⟩)) tree = true := by kernel_rfl
theorem fineT : (TT.fine (rk.rh.cx (cxOf 2)) 1000 [] tree && (rk.rh.cx (cxOf 2)).okB 1000 && SV.vbL 1000 rk.args && TT.tidy (rk.rh.cx (cxOf 2)) [] tree) = true := by kernel_rfl
theorem fineB : blVb 1000 rk.inb = true := by kernel_rfl
theorem ok : RhOk (cxOf 2) rk.rh :=
  rk_run (runH_ok us_ok (fun _ _ => .auto) rk 2) ran fineT fineB okk fun ρ hρ hpre => by
    obtain ⟨i, f, v, ro, p⟩ := ρ
    have hf : f = fN := hρ.hF
    subst hf
    rw [plain]
    exact holds (i 0) (i 1) (i 2) (i 3) (i 4) (i 5) (i 6) (i 7) (i 8) (i 9) (i 10) (i 11) (hρ.hi 0 _ rfl).1 (hρ.hi 0 _ rfl).2 (hρ.hi 1 _ rfl).1 (hρ.hi 1 _ rfl).2 (hρ.hi 2 _ rfl).1 (hρ.hi 2 _ rfl).2 (hρ.hi 3 _ rfl).1 (hρ.hi 3 _ rfl).2 (hρ.hi 4 _ rfl).1 (hρ.hi 4 _ rfl).2 (hρ.hi 5 _ rfl).1 (hρ.hi 5 _ rfl).2 (hρ.hi 6 _ rfl).1 (hρ.hi 6 _ rfl).2 (hρ.hi 7 _ rfl).1 (hρ.hi 7 _ rfl).2
end Go.Proofs.YtlhcaeakfbokmaaDoor.CCPoke
