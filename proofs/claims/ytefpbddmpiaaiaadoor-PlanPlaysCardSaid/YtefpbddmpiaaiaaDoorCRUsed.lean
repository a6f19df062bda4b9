/-
  What astrolaberef20.Plan).Used answers, as numbers of what it is handed: its run by the engine, and the plain statement behind it. No condition.
-/
import Derived.Test.YtefpbddmpiaaiaaDoorGab
import Derived.Test.YtefpbddmpiaaiaaDoorGmP
namespace Go.Proofs.YtefpbddmpiaaiaaDoor.CRUsed
open Go.Eng Go.RowKit
set_option linter.unusedVariables false
set_option linter.unusedSimpArgs false
set_option maxRecDepth 100000
def rk : Rk := ⟨16, [(-9223372036854775808, 9223372036854775807), (0, 100)], 3, [.ptr 0 0], [.cells [.int .i64 (.v 0), .sl (.own 1) 4 (.c 0) (.v 1) none] 31 none, .arr [.str, .int .i64, .int .i64, .bool] 37 (.v 2) (.v 1)], [], .int .i64 (.v 1000000), [.cells [.int .i64 (.v 0), .sl (.own 1) 4 (.c 0) (.v 1) none] 31 none, .arr [.str, .int .i64, .int .i64, .bool] 37 (.v 2) (.v 1)], [.num (.f 56 (.v 2) (.v 1) (.c 0))]⟩
theorem okk : rk.ok = true := by kernel_rfl
theorem okh : rk.rh.ok = true := by kernel_rfl
noncomputable def us : SMs := fun Γ ins n => smH (cxG n Γ ins) [] (smR (cxG n Γ ins) [])
theorem us_ok : SMsOk us := fun Γ ins n => smH_ok (rhs_nil _) (smR_ok (rcs_nil _))
def tree : TT (List E) :=
(.loop ⟨1000, [some (-9223372036854775808, 9223372036854775807), some (0, 4611686018427387904)], [(.c 0), (.c 0)], 1003⟩
  (.br (.b .lt .i64 (.cl 1001 0 4611686018427387904) (.v 1))
  (.br (.b .le .i64 (.b .padd .i64 (.cl 1001 0 4611686018427387904) (.c 1)) (.c 4611686018427387904))
  (.back [(.w .i64 (.b .padd .i64 (.cl 1000 (-9223372036854775808) 9223372036854775807) (.w .i64 (.f 13 (.f 13 (.v 2) (.cl 1001 0 4611686018427387904) (.c 0)) (.c 2) (.c 0))))), (.b .padd .i64 (.cl 1001 0 4611686018427387904) (.c 1))])
  (.bad 303))
  (.exit 0))
  (.leaf [(.cl 1000 (-9223372036854775808) 9223372036854775807)]))

def P (size n q : Int) : Prop :=
 ∃ I1000 : Int → Int → Nat → Prop, (∃ m, I1000 0 0 m) ∧
 ∀ y1000 y1001 : Int, ∀ m1000, (((-9223372036854775808) ≤ y1000 ∧ y1000 ≤ 9223372036854775807) ∧ (0 ≤ y1001 ∧ y1001 ≤ 4611686018427387904) ∧ True) → I1000 y1000 y1001 m1000 →
  (((bool01 (decide (y1001 < n))) ≠ 0 →
   (((bool01 (decide ((y1001 + 1) ≤ 4611686018427387904))) ≠ 0 →
    ∃ m', m' < m1000 ∧ I1000 (IntKind.wrap .i64 (y1000 + (IntKind.wrap .i64 (rdZ (rdZ q y1001) 2)))) (y1001 + 1) m') ∧ ((bool01 (decide ((y1001 + 1) ≤ 4611686018427387904))) = 0 →
    False))) ∧ ((bool01 (decide (y1001 < n))) = 0 →
   (y1000 : Int) = (usedZ q n) ∧ True))

theorem holds (size n q : Int) (l_size : -9223372036854775808 ≤ size) (u_size : size ≤ 9223372036854775807) (l_n : 0 ≤ n) (u_n : n ≤ 100) : P size n q := by
  unfold P
  simp only [b01_eq, decide_eq_true_eq, decide_eq_false_iff_not, beq_iff_eq, beq_eq_false_iff_ne, bne_iff_ne, bne_eq_false_iff_eq, Int.not_le, Int.not_lt, true_and, and_true, iteZ_ne, ne_eq, Bool.not_eq_false, Bool.not_eq_true, not_true_eq_false, not_false_eq_true, Decidable.not_not, forall_const, false_implies, true_iff, iff_true, false_iff, iff_false, Int.reduceEq, Int.reduceNeg, eq_self, if_true, if_false, reduceIte]
  simp only [wrap_rd]
  refine ⟨fun s i m => s = usedF q i.toNat ∧ i ≤ n ∧ m = (n - i).toNat, ⟨_, rfl, l_n, rfl⟩, fun s i m hb hI => ?_⟩
  obtain ⟨rfl, hi, rfl⟩ := hI
  have hi0 := nat_i hb.2.1
  refine ⟨fun h1 => ⟨fun h2 => ⟨_, ?_, ?_, by omega, rfl⟩, fun h2 => by omega⟩, fun h1 => ?_⟩
  · omega
  · rw [succ_i hb.2.1, usedF, hi0]
  · rw [show i = n by omega]; rfl

theorem plain (i : Nat → Int) (v : Nat → Value) (ro : Nat → RO) (p : Program) : TT.hdP (rk.rh.cx (cxOf 2)) (rsF ⟨i, fN, v, ro, p⟩ rk.rs) tree ⟨i, fN, v, ro, p⟩ = P (i 0) (i 1) (i 2) := by kernel_rfl
theorem ran : TT.beq (projL (rk.pj (cxOf 2)) (runH us (fun _ _ => .auto) rk 2 rk.f rk.args ⟨rk.inb, []⟩)) tree = true := by kernel_rfl
theorem fineT : (TT.fine (rk.rh.cx (cxOf 2)) 1000 [] tree && (rk.rh.cx (cxOf 2)).okB 1000 && SV.vbL 1000 rk.args && TT.tidy (rk.rh.cx (cxOf 2)) [] tree) = true := by kernel_rfl
theorem fineB : blVb 1000 rk.inb = true := by kernel_rfl
theorem ok : RhOk (cxOf 2) rk.rh :=
  rk_run (runH_ok us_ok (fun _ _ => .auto) rk 2) ran fineT fineB okk fun ρ hρ hpre => by
    obtain ⟨i, f, v, ro, p⟩ := ρ
    have hf : f = fN := hρ.hF
    subst hf
    rw [plain]
    exact holds (i 0) (i 1) (i 2) (hρ.hi 0 _ rfl).1 (hρ.hi 0 _ rfl).2 (hρ.hi 1 _ rfl).1 (hρ.hi 1 _ rfl).2
end Go.Proofs.YtefpbddmpiaaiaaDoor.CRUsed
