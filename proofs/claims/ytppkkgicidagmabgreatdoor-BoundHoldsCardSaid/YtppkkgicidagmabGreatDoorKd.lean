/-
  What functions of the program answer, as numbers of what they are handed: their runs by the engine, the plain statements behind them. No condition.
-/
import Derived.Test.YtppkkgicidagmabGreatDoorKa
import Derived.Test.YtppkkgicidagmabGreatDoorGab
import Derived.Test.YtppkkgicidagmabGreatDoorGib
import Derived.Test.YtppkkgicidagmabGreatDoorGp2
set_option linter.unusedVariables false
set_option linter.unusedSimpArgs false
set_option maxRecDepth 100000
namespace Go.Proofs.YtppkkgicidagmabGreatDoor
open Go.Eng Go.RowKit
namespace CACost
def rc : Rc := ⟨44, [none, none], [.int .i64, .int .i32], [], .one, [.int .i64 (.f 65 (.v 0) (.v 1) (.c 0))]⟩
theorem okb : rc.ok = true := by kernel_rfl
noncomputable def us : SMs := fun Γ ins n => smH (cxG n Γ ins) [] (smAnd 63 (libLen64 Γ ins n) (smR (cxG n Γ ins) [COCost.rc]))
theorem us_ok : SMsOk us := fun Γ ins n => smH_ok (tabsG n Γ ins) (qKh _) (smAnd_ok (libLen64_ok Γ ins n) (smR_ok (tabsG n Γ ins) (qJv COCost.okb (rc_n COCost.ok) (qKi _))))
def tree : TT (List E) :=
(.br (.b .eq .i64 (.v 0) (.c 22))
 (.leaf [(.b .padd .i64 (.f 66 (.v 0) (.c 0) (.c 0)) (.f 3 (.w .u64 (.b .max .i64 (.v 1) (.b .psub .i64 (.c 0) (.v 1)))) (.c 0) (.c 0)))])
 (.br (.b .eq .i64 (.v 0) (.c 23))
 (.leaf [(.b .padd .i64 (.f 66 (.v 0) (.c 0) (.c 0)) (.f 3 (.w .u64 (.b .max .i64 (.v 1) (.b .psub .i64 (.c 0) (.v 1)))) (.c 0) (.c 0)))])
 (.leaf [(.f 66 (.v 0) (.c 0) (.c 0))])))
def P (p0 p1 : Int) : Prop :=
 (((qQj (p0 == 22)) ≠ 0 →
  (((opCo p0) + (blen64 (IntKind.wrap .u64 (maxZ p1 (0 - p1))))) : Int) = (aluC p0 p1) ∧ True) ∧ ((qQj (p0 == 22)) = 0 →
  (((qQj (p0 == 23)) ≠ 0 →
   (((opCo p0) + (blen64 (IntKind.wrap .u64 (maxZ p1 (0 - p1))))) : Int) = (aluC p0 p1) ∧ True) ∧ ((qQj (p0 == 23)) = 0 →
   ((opCo p0) : Int) = (aluC p0 p1) ∧ True))))
theorem holds (p0 p1 : Int) (l_p0 : -9223372036854775808 ≤ p0) (u_p0 : p0 ≤ 9223372036854775807) (l_p1 : -2147483648 ≤ p1) (u_p1 : p1 ≤ 2147483647) : P p0 p1 := by
 unfold P
 simp only [nrm, Int.reduceEq, Int.reduceNeg, reduceIte]
 have e : ∀ p, p = 22 ∨ p = 23 → opCo p + blen64 (IntKind.wrap .u64 (maxZ p1 (0 - p1))) = aluC p p1 := fun p h => by unfold aluC; rw [if_pos h]; rfl
 refine ⟨fun h => e _ (.inl h), fun h => ⟨fun h => e _ (.inr h), fun h => ?_⟩⟩
 unfold aluC; rw [if_neg (by omega)]; omega
theorem plain (i v ro p) : statR 2 rc tree ⟨i, fN, v, ro, p⟩ = P (i 0) (i 1) := by kernel_rfl
theorem ran : ranR us (fun _ _ => .auto) rc 2 tree = true := by kernel_rfl
theorem fineT : fineR 2 rc tree = true := by kernel_rfl
theorem ok : RcOk (cxOf 2) rc := okR us_ok ran fineT okb fun i v ro p hρ hcap hpre => by rw [plain]; have q := hρ.hi; exact holds _ _ (q 0 _ rfl).1 (q 0 _ rfl).2 (q 1 _ rfl).1 (q 1 _ rfl).2
end CACost
end Go.Proofs.YtppkkgicidagmabGreatDoor
