/-
  What core.Core).Run answers, as numbers of what it is handed: its run by the engine, and the plain statement behind it. No condition.
-/
import Derived.Test.YtlhcaeakfbokmaaDoorGab
import Derived.Test.YtlhcaeakfbokmaaDoorGmC
namespace Go.Proofs.YtlhcaeakfbokmaaDoor.CCRunM
open Go.Eng Go.RowKit
set_option linter.unusedVariables false
set_option linter.unusedSimpArgs false
set_option maxRecDepth 100000
def rk : Rk := ⟨6, [(-9223372036854775808, 9223372036854775807), (-9223372036854775808, 9223372036854775807), (-9223372036854775808, 9223372036854775807), (0, 16384), (0, 999999), (0, 2048)], 10, [.ptr 0 0, .int .i64 (.c (-1))], [.cells [.ptr 1 0, .sl (.own 2) 6 (.c 0) (.v 3) none, .int .i32 (.w .i32 (.f 13 (.v 7) (.c 0) (.c 0))), .int .i32 (.w .i32 (.f 13 (.v 7) (.c 1) (.c 0))), .int .i32 (.w .i32 (.f 13 (.v 7) (.c 2) (.c 0))), .int .i32 (.w .i32 (.f 13 (.v 7) (.c 3) (.c 0))), .int .i32 (.w .i32 (.f 13 (.v 7) (.c 4) (.c 0))), .int .i32 (.w .i32 (.f 13 (.v 7) (.c 5) (.c 0))), .int .i32 (.w .i32 (.f 13 (.v 7) (.c 6) (.c 0))), .int .i32 (.w .i32 (.f 13 (.v 7) (.c 7) (.c 0))), .int .i32 (.w .i32 (.f 13 (.v 7) (.c 8) (.c 0))), .int .i32 (.w .i32 (.f 13 (.v 7) (.c 9) (.c 0))), .int .i32 (.w .i32 (.f 13 (.v 7) (.c 10) (.c 0))), .int .i32 (.w .i32 (.f 13 (.v 7) (.c 11) (.c 0))), .int .i32 (.w .i32 (.f 13 (.v 7) (.c 12) (.c 0))), .int .i32 (.w .i32 (.f 13 (.v 7) (.c 13) (.c 0))), .int .i32 (.w .i32 (.f 13 (.v 7) (.c 14) (.c 0))), .int .i32 (.w .i32 (.f 13 (.v 7) (.c 15) (.c 0))), .int .i32 (.w .i32 (.f 13 (.v 7) (.c 16) (.c 0))), .int .i32 (.w .i32 (.f 13 (.v 7) (.c 17) (.c 0))), .int .i32 (.w .i32 (.f 13 (.v 7) (.c 18) (.c 0))), .int .i32 (.w .i32 (.f 13 (.v 7) (.c 19) (.c 0))), .int .i32 (.w .i32 (.f 13 (.v 7) (.c 20) (.c 0))), .int .i32 (.w .i32 (.f 13 (.v 7) (.c 21) (.c 0))), .int .i32 (.w .i32 (.f 13 (.v 7) (.c 22) (.c 0))), .int .i32 (.w .i32 (.f 13 (.v 7) (.c 23) (.c 0))), .int .i32 (.w .i32 (.f 13 (.v 7) (.c 24) (.c 0))), .int .i32 (.w .i32 (.f 13 (.v 7) (.c 25) (.c 0))), .int .i32 (.w .i32 (.f 13 (.v 7) (.c 26) (.c 0))), .int .i32 (.w .i32 (.f 13 (.v 7) (.c 27) (.c 0))), .int .i32 (.w .i32 (.f 13 (.v 7) (.c 28) (.c 0))), .int .i32 (.w .i32 (.f 13 (.v 7) (.c 29) (.c 0))), .int .i32 (.w .i32 (.f 13 (.v 7) (.c 30) (.c 0))), .int .i32 (.w .i32 (.f 13 (.v 7) (.c 31) (.c 0))), .int .i64 (.v 0), .int .i64 (.v 1), .int .i64 (.v 2), .sl (.own 4) 3 (.c 0) (.v 4) none] 42 none, .cells [.sl (.own 3) 1 (.c 0) (.v 5) none, .bool (.c 1)] 62 none, .arr [.int .i64, .int .i64, .int .i64, .int .i64, .int .i64, .bool] 52 (.v 6) (.v 3), .arr [.int .i32] 21 (.v 8) (.v 5), .arr [.int .i64, .int .i64, .int .i64] 55 (.v 9) (.v 4)], [], .int .i64 (.c 0), [.cells [.ptr 1 0, .sl (.own 2) 6 (.c 0) (.v 3) none, .int .i32 (.w .i32 (.f 13 (.v 7) (.c 0) (.c 0))), .int .i32 (.w .i32 (.f 13 (.v 7) (.c 1) (.c 0))), .int .i32 (.w .i32 (.f 13 (.v 7) (.c 2) (.c 0))), .int .i32 (.w .i32 (.f 13 (.v 7) (.c 3) (.c 0))), .int .i32 (.w .i32 (.f 13 (.v 7) (.c 4) (.c 0))), .int .i32 (.w .i32 (.f 13 (.v 7) (.c 5) (.c 0))), .int .i32 (.w .i32 (.f 13 (.v 7) (.c 6) (.c 0))), .int .i32 (.w .i32 (.f 13 (.v 7) (.c 7) (.c 0))), .int .i32 (.w .i32 (.f 13 (.v 7) (.c 8) (.c 0))), .int .i32 (.w .i32 (.f 13 (.v 7) (.c 9) (.c 0))), .int .i32 (.w .i32 (.f 13 (.v 7) (.c 10) (.c 0))), .int .i32 (.w .i32 (.f 13 (.v 7) (.c 11) (.c 0))), .int .i32 (.w .i32 (.f 13 (.v 7) (.c 12) (.c 0))), .int .i32 (.w .i32 (.f 13 (.v 7) (.c 13) (.c 0))), .int .i32 (.w .i32 (.f 13 (.v 7) (.c 14) (.c 0))), .int .i32 (.w .i32 (.f 13 (.v 7) (.c 15) (.c 0))), .int .i32 (.w .i32 (.f 13 (.v 7) (.c 16) (.c 0))), .int .i32 (.w .i32 (.f 13 (.v 7) (.c 17) (.c 0))), .int .i32 (.w .i32 (.f 13 (.v 7) (.c 18) (.c 0))), .int .i32 (.w .i32 (.f 13 (.v 7) (.c 19) (.c 0))), .int .i32 (.w .i32 (.f 13 (.v 7) (.c 20) (.c 0))), .int .i32 (.w .i32 (.f 13 (.v 7) (.c 21) (.c 0))), .int .i32 (.w .i32 (.f 13 (.v 7) (.c 22) (.c 0))), .int .i32 (.w .i32 (.f 13 (.v 7) (.c 23) (.c 0))), .int .i32 (.w .i32 (.f 13 (.v 7) (.c 24) (.c 0))), .int .i32 (.w .i32 (.f 13 (.v 7) (.c 25) (.c 0))), .int .i32 (.w .i32 (.f 13 (.v 7) (.c 26) (.c 0))), .int .i32 (.w .i32 (.f 13 (.v 7) (.c 27) (.c 0))), .int .i32 (.w .i32 (.f 13 (.v 7) (.c 28) (.c 0))), .int .i32 (.w .i32 (.f 13 (.v 7) (.c 29) (.c 0))), .int .i32 (.w .i32 (.f 13 (.v 7) (.c 30) (.c 0))), .int .i32 (.w .i32 (.f 13 (.v 7) (.c 31) (.c 0))), .int .i64 (.v 0), .int .i64 (.v 1), .int .i64 (.v 2), .sl (.own 4) 3 (.c 0) (.v 4) none] 42 none, .cells [.sl (.own 3) 1 (.c 0) (.v 5) none, .bool (.c 1)] 62 none, .arr [.int .i64, .int .i64, .int .i64, .int .i64, .int .i64, .bool] 52 (.v 6) (.v 3), .arr [.int .i32] 21 (.v 8) (.v 5), .arr [.int .i64, .int .i64, .int .i64] 55 (.v 9) (.v 4)], []⟩
theorem okk : rk.ok = true := by kernel_rfl
theorem okh : rk.rh.ok = true := by kernel_rfl
noncomputable def us : SMs := fun Γ ins n => smH (cxG n Γ ins) [] (smR (cxG n Γ ins) [])
theorem us_ok : SMsOk us := fun Γ ins n => smH_ok (tabsG n Γ ins) (rhs_nil _) (smR_ok (tabsG n Γ ins) (rcs_nil _))
def tree : TT (List E) :=
(.leaf [])

def P (pc state cost nc nm nr cq rg rm mq : Int) : Prop :=
 True

theorem holds (pc state cost nc nm nr cq rg rm mq : Int) (l_pc : -9223372036854775808 ≤ pc) (u_pc : pc ≤ 9223372036854775807) (l_state : -9223372036854775808 ≤ state) (u_state : state ≤ 9223372036854775807) (l_cost : -9223372036854775808 ≤ cost) (u_cost : cost ≤ 9223372036854775807) (l_nc : 0 ≤ nc) (u_nc : nc ≤ 16384) (l_nm : 0 ≤ nm) (u_nm : nm ≤ 999999) (l_nr : 0 ≤ nr) (u_nr : nr ≤ 2048) : P pc state cost nc nm nr cq rg rm mq := by
  unfold P
  trivial

theorem plain (i : Nat → Int) (v : Nat → Value) (ro : Nat → RO) (p : Program) : TT.hdP (rk.rh.cx (cxOf 2)) (rsF ⟨i, fN, v, ro, p⟩ rk.rs) tree ⟨i, fN, v, ro, p⟩ = P (i 0) (i 1) (i 2) (i 3) (i 4) (i 5) (i 6) (i 7) (i 8) (i 9) := by kernel_rfl
theorem ran : TT.beq (projL (rk.pj (cxOf 2)) (runH us (fun _ _ => .auto) rk 2 rk.f rk.args ⟨rk.inb, []⟩)) tree = true := by kernel_rfl
theorem fineT : (TT.fine (rk.rh.cx (cxOf 2)) 1000 [] tree && (rk.rh.cx (cxOf 2)).okB 1000 && SV.vbL 1000 rk.args && TT.tidy (rk.rh.cx (cxOf 2)) [] tree) = true := by kernel_rfl
theorem fineB : blVb 1000 rk.inb = true := by kernel_rfl
theorem ok : RhOk (cxOf 2) rk.rh :=
  rk_run (runH_ok us_ok (fun _ _ => .auto) rk 2) ran fineT fineB okk fun ρ hρ hpre => by
    obtain ⟨i, f, v, ro, p⟩ := ρ
    have hf : f = fN := hρ.hF
    subst hf
    rw [plain]
    exact holds (i 0) (i 1) (i 2) (i 3) (i 4) (i 5) (i 6) (i 7) (i 8) (i 9) (hρ.hi 0 _ rfl).1 (hρ.hi 0 _ rfl).2 (hρ.hi 1 _ rfl).1 (hρ.hi 1 _ rfl).2 (hρ.hi 2 _ rfl).1 (hρ.hi 2 _ rfl).2 (hρ.hi 3 _ rfl).1 (hρ.hi 3 _ rfl).2 (hρ.hi 4 _ rfl).1 (hρ.hi 4 _ rfl).2 (hρ.hi 5 _ rfl).1 (hρ.hi 5 _ rfl).2
end Go.Proofs.YtlhcaeakfbokmaaDoor.CCRunM
