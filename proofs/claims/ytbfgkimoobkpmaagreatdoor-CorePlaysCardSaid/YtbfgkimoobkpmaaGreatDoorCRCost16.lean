/-
  What astrolaberef16.Cost answers, as numbers of what it is handed: its run by the engine, and the plain statement behind it. No condition.
-/
import Derived.Test.YtbfgkimoobkpmaaGreatDoorGab
import Derived.Test.YtbfgkimoobkpmaaGreatDoorGmT
namespace Go.Proofs.YtbfgkimoobkpmaaGreatDoor.CRCost16
open Go.Eng Go.RowKit
set_option linter.unusedVariables false
set_option linter.unusedSimpArgs false
set_option maxRecDepth 100000
def rc : Rc := ⟨17, [none], [.row [.int .i64, .int .i64, .int .i64] 1000000], [], .one, [.int .i64 (.f 35 (.v 1) (.v 0) (.c 0))]⟩
theorem okb : rc.ok = true := by kernel_rfl
noncomputable def us : SMs := fun Γ ins n => smH (cxG n Γ ins) [] (smR (cxG n Γ ins) [])
theorem us_ok : SMsOk us := fun Γ ins n => smH_ok (tabsG n Γ ins) (rhs_nil _) (smR_ok (tabsG n Γ ins) (rcs_nil _))
def tree : TT (List E) :=
(.loop ⟨1000, [some (-9223372036854775808, 9223372036854775807), some (0, 4611686018427387904)], [(.c 0), (.c 0)], 1003⟩
  (.br (.b .lt .i64 (.cl 1001 0 4611686018427387904) (.v 0))
  (.br (.b .le .i64 (.b .padd .i64 (.cl 1001 0 4611686018427387904) (.c 1)) (.c 4611686018427387904))
  (.back [(.w .i64 (.b .padd .i64 (.cl 1000 (-9223372036854775808) 9223372036854775807) (.w .i64 (.f 13 (.f 13 (.v 1) (.cl 1001 0 4611686018427387904) (.c 0)) (.c 2) (.c 0))))), (.b .padd .i64 (.cl 1001 0 4611686018427387904) (.c 1))])
  (.bad 303))
  (.exit 0))
  (.leaf [(.cl 1000 (-9223372036854775808) 9223372036854775807)]))

def P (n0 c0 r0 : Int) : Prop :=
 ∃ I1000 : Int → Int → Nat → Prop, (∃ m, I1000 0 0 m) ∧
 ∀ y1000 y1001 : Int, ∀ m1000, (((-9223372036854775808) ≤ y1000 ∧ y1000 ≤ 9223372036854775807) ∧ (0 ≤ y1001 ∧ y1001 ≤ 4611686018427387904) ∧ True) → I1000 y1000 y1001 m1000 →
  (((bool01 (decide (y1001 < n0))) ≠ 0 →
   (((bool01 (decide ((y1001 + 1) ≤ 4611686018427387904))) ≠ 0 →
    ∃ m', m' < m1000 ∧ I1000 (IntKind.wrap .i64 (y1000 + (IntKind.wrap .i64 (rdZ (rdZ c0 y1001) 2)))) (y1001 + 1) m') ∧ ((bool01 (decide ((y1001 + 1) ≤ 4611686018427387904))) = 0 →
    False))) ∧ ((bool01 (decide (y1001 < n0))) = 0 →
   (y1000 : Int) = (costZ c0 n0) ∧ True))

theorem holds (n0 c0 r0 : Int) (l_n0 : 0 ≤ n0) (u_n0 : n0 ≤ 1000000) (h_n0 : n0 ≤ r0) : P n0 c0 r0 := by
  unfold P
  simp only [b01_eq, decide_eq_true_eq, decide_eq_false_iff_not, beq_iff_eq, beq_eq_false_iff_ne, bne_iff_ne, bne_eq_false_iff_eq, Int.not_le, Int.not_lt, true_and, and_true, iteZ_ne, ne_eq, Bool.not_eq_false, Bool.not_eq_true, not_true_eq_false, not_false_eq_true, Decidable.not_not, forall_const, false_implies, true_iff, iff_true, false_iff, iff_false, Int.reduceEq, Int.reduceNeg, eq_self, if_true, if_false, reduceIte, mk_fold]
  refine ⟨fun s i m => s = costF c0 i.toNat ∧ i ≤ n0 ∧ m = (n0 - i).toNat, ⟨_, rfl, l_n0, rfl⟩, fun s i m hb hI => ?_⟩
  obtain ⟨rfl, hi, rfl⟩ := hI
  have hi0 := nat_i hb.2.1
  refine ⟨fun h1 => ⟨fun h2 => ⟨_, ?_, ?_, by omega, rfl⟩, fun h2 => by omega⟩, fun h1 => ?_⟩
  · omega
  · rw [succ_i hb.2.1, costF, hi0]
  · rw [show i = n0 by omega]; rfl

theorem plain (i v ro p) : statR 2 rc tree ⟨i, fN, v, ro, p⟩ = P (i 0) (i 1) (i 2) := by kernel_rfl
theorem ran : ranR us (fun _ _ => .auto) rc 2 tree = true := by kernel_rfl
theorem fineT : fineR 2 rc tree = true := by kernel_rfl
theorem ok : RcOk (cxOf 2) rc := okR us_ok ran fineT okb fun i v ro p hρ hcap hpre => by rw [plain]; exact holds (i 0) (i 1) (i 2) (hρ.hi 0 _ rfl).1 (hρ.hi 0 _ rfl).2 (hcap _ (List.mem_of_getElem? (i := 0) rfl))
end Go.Proofs.YtbfgkimoobkpmaaGreatDoor.CRCost16
