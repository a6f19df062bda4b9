/-
  What functions of the program answer, as numbers of what they are handed: their runs by the engine, the plain statements behind them. No condition.
-/
import Derived.Test.YtppkkgicidagmabGreatDoorGab
import Derived.Test.YtppkkgicidagmabGreatDoorGp2
set_option linter.unusedVariables false
set_option linter.unusedSimpArgs false
set_option maxRecDepth 100000
namespace Go.Proofs.YtppkkgicidagmabGreatDoor
open Go.Eng Go.RowKit
namespace COCost
def rc : Rc := ⟨22, [none], [.int .i64], [], .one, [.int .i64 (.f 66 (.v 0) (.c 0) (.c 0))]⟩
theorem okb : rc.ok = true := by kernel_rfl
noncomputable def us : SMs := fun Γ ins n => smH (cxG n Γ ins) [] (smR (cxG n Γ ins) [])
theorem us_ok : SMsOk us := fun Γ ins n => smH_ok (tabsG n Γ ins) (qKh _) (smR_ok (tabsG n Γ ins) (qKi _))
def tree : TT (List E) :=
(.br (.b .le .i64 (.c 1) (.v 0))
 (.br (.nt (.b .le .i64 (.v 0) (.c 43)))
 (.leaf [(.c 0)])
 (.br (.b .le .i64 (.c 0) (.w .i64 (.b .psub .i64 (.v 0) (.c 1))))
 (.br (.b .lt .i64 (.w .i64 (.b .psub .i64 (.v 0) (.c 1))) (.c 43))
 (.leaf [(.w .i64 (.f 13 (.f 11 (.c 1) (.f 11 (.c 1) (.f 11 (.c 1) (.f 11 (.c 1) (.f 11 (.c 1) (.f 11 (.c 1) (.f 11 (.c 1) (.f 11 (.c 1) (.f 11 (.c 1) (.f 11 (.c 1) (.f 11 (.c 1) (.f 11 (.c 1) (.f 11 (.c 1) (.f 11 (.c 1) (.f 11 (.c 1) (.f 11 (.c 1) (.f 11 (.c 1) (.f 11 (.c 3) (.f 11 (.c 3) (.f 11 (.c 3) (.f 11 (.c 3) (.f 11 (.c 2) (.f 11 (.c 2) (.f 11 (.c 1) (.f 11 (.c 1) (.f 11 (.c 1) (.f 11 (.c 1) (.f 11 (.c 1) (.f 11 (.c 1) (.f 11 (.c 1) (.f 11 (.c 1) (.f 11 (.c 1) (.f 11 (.c 1) (.f 11 (.c 2) (.f 11 (.c 2) (.f 11 (.c 1) (.f 11 (.c 1) (.f 11 (.c 1) (.f 11 (.c 3) (.f 11 (.c 3) (.f 11 (.c 3) (.f 11 (.c 1) (.f 11 (.c 1) (.c 0) (.c 0)) (.c 0)) (.c 0)) (.c 0)) (.c 0)) (.c 0)) (.c 0)) (.c 0)) (.c 0)) (.c 0)) (.c 0)) (.c 0)) (.c 0)) (.c 0)) (.c 0)) (.c 0)) (.c 0)) (.c 0)) (.c 0)) (.c 0)) (.c 0)) (.c 0)) (.c 0)) (.c 0)) (.c 0)) (.c 0)) (.c 0)) (.c 0)) (.c 0)) (.c 0)) (.c 0)) (.c 0)) (.c 0)) (.c 0)) (.c 0)) (.c 0)) (.c 0)) (.c 0)) (.c 0)) (.c 0)) (.c 0)) (.c 0)) (.c 0)) (.w .i64 (.b .psub .i64 (.v 0) (.c 1))) (.c 0)))])
 (.bad 200))
 (.bad 200)))
 (.leaf [(.c 0)]))
def P (p0 : Int) : Prop :=
 (((qQj (decide (1 ≤ p0))) ≠ 0 →
  (((qQj ((qQj (decide (p0 ≤ 43))) == 0)) ≠ 0 →
   (0 : Int) = (opCo p0) ∧ True) ∧ ((qQj ((qQj (decide (p0 ≤ 43))) == 0)) = 0 →
   (((qQj (decide (0 ≤ (IntKind.wrap .i64 (p0 - 1))))) ≠ 0 →
    (((qQj (decide ((IntKind.wrap .i64 (p0 - 1)) < 43))) ≠ 0 →
     ((IntKind.wrap .i64 (rdZ (qQq 1 (qQq 1 (qQq 1 (qQq 1 (qQq 1 (qQq 1 (qQq 1 (qQq 1 (qQq 1 (qQq 1 (qQq 1 (qQq 1 (qQq 1 (qQq 1 (qQq 1 (qQq 1 (qQq 1 (qQq 3 (qQq 3 (qQq 3 (qQq 3 (qQq 2 (qQq 2 (qQq 1 (qQq 1 (qQq 1 (qQq 1 (qQq 1 (qQq 1 (qQq 1 (qQq 1 (qQq 1 (qQq 1 (qQq 2 (qQq 2 (qQq 1 (qQq 1 (qQq 1 (qQq 3 (qQq 3 (qQq 3 (qQq 1 (qQq 1 0))))))))))))))))))))))))))))))))))))))))))) (IntKind.wrap .i64 (p0 - 1)))) : Int) = (opCo p0) ∧ True) ∧ ((qQj (decide ((IntKind.wrap .i64 (p0 - 1)) < 43))) = 0 →
     False))) ∧ ((qQj (decide (0 ≤ (IntKind.wrap .i64 (p0 - 1))))) = 0 →
    False))))) ∧ ((qQj (decide (1 ≤ p0))) = 0 →
  (0 : Int) = (opCo p0) ∧ True))
def costL : List Int := [1, 1, 1, 1, 1, 1, 1, 1, 1, 1, 1, 1, 1, 1, 1, 1, 1, 3, 3, 3, 3, 2, 2, 1, 1, 1, 1, 1, 1, 1, 1, 1, 1, 2, 2, 1, 1, 1, 3, 3, 3, 1, 1]
theorem cost_all : ∀ k : Fin 43, costL.getD k 0 = opCo ((k.val : Int) + 1) := by decide
theorem cost_rd {p : Int} (h1 : 1 ≤ p) (h2 : p ≤ 43) : IntKind.wrap .i64 (rdZ (chn costL) (IntKind.wrap .i64 (p - 1))) = opCo p := by
 rw [w64 (x := p - 1) (by omega) (by omega)]
 have e : p - 1 = ((p - 1).toNat : Nat) := by omega
 rw [e, rd_chn, cost_all ⟨(p - 1).toNat, by omega⟩]
 have := opCo_bd (((⟨(p - 1).toNat, by omega⟩ : Fin 43).val : Int) + 1)
 rw [w64 (by omega) (by omega)]
 congr 1
 show ((p - 1).toNat : Int) + 1 = p
 omega
theorem holds (p0 : Int) (l_p0 : -9223372036854775808 ≤ p0) (u_p0 : p0 ≤ 9223372036854775807) : P p0 := by
 unfold P
 simp only [nrm, Int.reduceEq, Int.reduceNeg, reduceIte]
 have e : ∀ p, p < 1 ∨ 43 < p → (0 : Int) = opCo p := fun p h => by unfold opCo; rw [if_pos h]
 refine ⟨fun h1 => ⟨fun h2 => e _ (by omega), fun h2 => ?_⟩, fun h1 => e _ (by omega)⟩
 have hw : IntKind.wrap .i64 (p0 - 1) = p0 - 1 := w64 (by omega) (by omega)
 exact ⟨fun h3 => ⟨fun h4 => cost_rd h1 (by omega), fun h4 => by omega⟩, fun h3 => by omega⟩
theorem plain (i v ro p) : statR 2 rc tree ⟨i, fN, v, ro, p⟩ = P (i 0) := by kernel_rfl
theorem ran : ranR us (fun _ _ => .auto) rc 2 tree = true := by kernel_rfl
theorem fineT : fineR 2 rc tree = true := by kernel_rfl
theorem ok : RcOk (cxOf 2) rc := okR us_ok ran fineT okb fun i v ro p hρ hcap hpre => by rw [plain]; have q := hρ.hi; exact holds _ (q 0 _ rfl).1 (q 0 _ rfl).2
theorem costC (n : Nat) (Γ : List (Int × Int)) (ins : List InD) : CostC (cxG n Γ ins) 22 := costC_of (tabsG n Γ ins) (rc_n ok) (fun _ _ _ => rfl)
end COCost
end Go.Proofs.YtppkkgicidagmabGreatDoor
