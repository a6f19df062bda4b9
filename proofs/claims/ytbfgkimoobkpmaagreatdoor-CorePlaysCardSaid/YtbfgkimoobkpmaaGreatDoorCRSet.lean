/-
  What astrolaberef16.Core).set answers, as numbers of what it is handed: its run by the engine, and the plain statement behind it. No condition.
-/
import Derived.Test.YtbfgkimoobkpmaaGreatDoorGab
import Derived.Test.YtbfgkimoobkpmaaGreatDoorGmD
namespace Go.Proofs.YtbfgkimoobkpmaaGreatDoor.CRSet
open Go.Eng Go.RowKit
set_option linter.unusedVariables false
set_option linter.unusedSimpArgs false
set_option maxRecDepth 100000
def rk : Rk := ⟨30, [(0, 31), (-2147483648, 2147483647)], 3, [.ptr 0 0, .int .i64 (.v 0), .int .i32 (.v 1)], [.cells [.wild 1, .wild 2, .int .i32 (.w .i32 (.f 13 (.v 2) (.c 0) (.c 0))), .int .i32 (.w .i32 (.f 13 (.v 2) (.c 1) (.c 0))), .int .i32 (.w .i32 (.f 13 (.v 2) (.c 2) (.c 0))), .int .i32 (.w .i32 (.f 13 (.v 2) (.c 3) (.c 0))), .int .i32 (.w .i32 (.f 13 (.v 2) (.c 4) (.c 0))), .int .i32 (.w .i32 (.f 13 (.v 2) (.c 5) (.c 0))), .int .i32 (.w .i32 (.f 13 (.v 2) (.c 6) (.c 0))), .int .i32 (.w .i32 (.f 13 (.v 2) (.c 7) (.c 0))), .int .i32 (.w .i32 (.f 13 (.v 2) (.c 8) (.c 0))), .int .i32 (.w .i32 (.f 13 (.v 2) (.c 9) (.c 0))), .int .i32 (.w .i32 (.f 13 (.v 2) (.c 10) (.c 0))), .int .i32 (.w .i32 (.f 13 (.v 2) (.c 11) (.c 0))), .int .i32 (.w .i32 (.f 13 (.v 2) (.c 12) (.c 0))), .int .i32 (.w .i32 (.f 13 (.v 2) (.c 13) (.c 0))), .int .i32 (.w .i32 (.f 13 (.v 2) (.c 14) (.c 0))), .int .i32 (.w .i32 (.f 13 (.v 2) (.c 15) (.c 0))), .int .i32 (.w .i32 (.f 13 (.v 2) (.c 16) (.c 0))), .int .i32 (.w .i32 (.f 13 (.v 2) (.c 17) (.c 0))), .int .i32 (.w .i32 (.f 13 (.v 2) (.c 18) (.c 0))), .int .i32 (.w .i32 (.f 13 (.v 2) (.c 19) (.c 0))), .int .i32 (.w .i32 (.f 13 (.v 2) (.c 20) (.c 0))), .int .i32 (.w .i32 (.f 13 (.v 2) (.c 21) (.c 0))), .int .i32 (.w .i32 (.f 13 (.v 2) (.c 22) (.c 0))), .int .i32 (.w .i32 (.f 13 (.v 2) (.c 23) (.c 0))), .int .i32 (.w .i32 (.f 13 (.v 2) (.c 24) (.c 0))), .int .i32 (.w .i32 (.f 13 (.v 2) (.c 25) (.c 0))), .int .i32 (.w .i32 (.f 13 (.v 2) (.c 26) (.c 0))), .int .i32 (.w .i32 (.f 13 (.v 2) (.c 27) (.c 0))), .int .i32 (.w .i32 (.f 13 (.v 2) (.c 28) (.c 0))), .int .i32 (.w .i32 (.f 13 (.v 2) (.c 29) (.c 0))), .int .i32 (.w .i32 (.f 13 (.v 2) (.c 30) (.c 0))), .int .i32 (.w .i32 (.f 13 (.v 2) (.c 31) (.c 0))), .wild 3, .wild 4, .wild 5] 34 none, .gone, .gone, .gone, .gone, .gone], [], .tup [], [.cells [.wild 1, .wild 2, .int .i32 (.w .i32 (.f 13 (.v 1000000) (.c 0) (.c 0))), .int .i32 (.w .i32 (.f 13 (.v 1000000) (.c 1) (.c 0))), .int .i32 (.w .i32 (.f 13 (.v 1000000) (.c 2) (.c 0))), .int .i32 (.w .i32 (.f 13 (.v 1000000) (.c 3) (.c 0))), .int .i32 (.w .i32 (.f 13 (.v 1000000) (.c 4) (.c 0))), .int .i32 (.w .i32 (.f 13 (.v 1000000) (.c 5) (.c 0))), .int .i32 (.w .i32 (.f 13 (.v 1000000) (.c 6) (.c 0))), .int .i32 (.w .i32 (.f 13 (.v 1000000) (.c 7) (.c 0))), .int .i32 (.w .i32 (.f 13 (.v 1000000) (.c 8) (.c 0))), .int .i32 (.w .i32 (.f 13 (.v 1000000) (.c 9) (.c 0))), .int .i32 (.w .i32 (.f 13 (.v 1000000) (.c 10) (.c 0))), .int .i32 (.w .i32 (.f 13 (.v 1000000) (.c 11) (.c 0))), .int .i32 (.w .i32 (.f 13 (.v 1000000) (.c 12) (.c 0))), .int .i32 (.w .i32 (.f 13 (.v 1000000) (.c 13) (.c 0))), .int .i32 (.w .i32 (.f 13 (.v 1000000) (.c 14) (.c 0))), .int .i32 (.w .i32 (.f 13 (.v 1000000) (.c 15) (.c 0))), .int .i32 (.w .i32 (.f 13 (.v 1000000) (.c 16) (.c 0))), .int .i32 (.w .i32 (.f 13 (.v 1000000) (.c 17) (.c 0))), .int .i32 (.w .i32 (.f 13 (.v 1000000) (.c 18) (.c 0))), .int .i32 (.w .i32 (.f 13 (.v 1000000) (.c 19) (.c 0))), .int .i32 (.w .i32 (.f 13 (.v 1000000) (.c 20) (.c 0))), .int .i32 (.w .i32 (.f 13 (.v 1000000) (.c 21) (.c 0))), .int .i32 (.w .i32 (.f 13 (.v 1000000) (.c 22) (.c 0))), .int .i32 (.w .i32 (.f 13 (.v 1000000) (.c 23) (.c 0))), .int .i32 (.w .i32 (.f 13 (.v 1000000) (.c 24) (.c 0))), .int .i32 (.w .i32 (.f 13 (.v 1000000) (.c 25) (.c 0))), .int .i32 (.w .i32 (.f 13 (.v 1000000) (.c 26) (.c 0))), .int .i32 (.w .i32 (.f 13 (.v 1000000) (.c 27) (.c 0))), .int .i32 (.w .i32 (.f 13 (.v 1000000) (.c 28) (.c 0))), .int .i32 (.w .i32 (.f 13 (.v 1000000) (.c 29) (.c 0))), .int .i32 (.w .i32 (.f 13 (.v 1000000) (.c 30) (.c 0))), .int .i32 (.w .i32 (.f 13 (.v 1000000) (.c 31) (.c 0))), .wild 3, .wild 4, .wild 5] 34 none, .gone, .gone, .gone, .gone, .gone], [.code [.int .i32] (.ite (.b .eq .i64 (.v 0) (.c 0)) (.v 2) (.f 14 (.v 2) (.v 0) (.v 1))) (.c 32)], []⟩
theorem okk : rk.ok = true := by kernel_rfl
theorem okh : rk.rh.ok = true := by kernel_rfl
noncomputable def us : SMs := fun Γ ins n => smH (cxG n Γ ins) [] (smR (cxG n Γ ins) [])
theorem us_ok : SMsOk us := fun Γ ins n => smH_ok (tabsG n Γ ins) (rhs_nil _) (smR_ok (tabsG n Γ ins) (rcs_nil _))
def tree : TT (List E) :=
(.br (.b .ne .i64 (.v 0) (.c 0))
  (.leaf [(.f 14 (.v 2) (.v 0) (.v 1))])
  (.leaf [(.v 2)]))

def P (i x rg : Int) : Prop :=
 (((bool01 (i != 0)) ≠ 0 →
  rowEq [.int .i32] (updZ rg i x) (iteZ (bool01 (i == 0)) rg (updZ rg i x)) 32 ∧ True) ∧ ((bool01 (i != 0)) = 0 →
  rowEq [.int .i32] rg (iteZ (bool01 (i == 0)) rg (updZ rg i x)) 32 ∧ True))

theorem holds (i x rg : Int) (l_i : 0 ≤ i) (u_i : i ≤ 31) (l_x : -2147483648 ≤ x) (u_x : x ≤ 2147483647) : P i x rg := by
  unfold P
  refine ⟨fun h => ?_, fun h => ?_⟩
  · have h1 : i ≠ 0 := by simpa [b01_eq] using h
    have e : bool01 (i == 0) = 0 := by simp [bool01, h1]
    rw [e]
    exact ⟨rowEq_refl _ _ _, trivial⟩
  · have h1 : i = 0 := by simpa [b01_eq] using h
    subst h1
    exact ⟨rowEq_refl _ _ _, trivial⟩

theorem plain (i v ro p) : statH 2 rk tree ⟨i, fN, v, ro, p⟩ = P (i 0) (i 1) (i 2) := by kernel_rfl
theorem ran : ranH us (fun _ _ => .auto) rk 2 tree = true := by kernel_rfl
theorem fineT : fineH 2 rk tree = true := by kernel_rfl
theorem fineB : blVb 1000 rk.inb = true := by kernel_rfl
theorem ok : RhOk (cxOf 2) rk.rh := okH us_ok ran fineT fineB okk fun i v ro p hρ hpre => by rw [plain]; exact holds (i 0) (i 1) (i 2) (hρ.hi 0 _ rfl).1 (hρ.hi 0 _ rfl).2 (hρ.hi 1 _ rfl).1 (hρ.hi 1 _ rfl).2
end Go.Proofs.YtbfgkimoobkpmaaGreatDoor.CRSet
