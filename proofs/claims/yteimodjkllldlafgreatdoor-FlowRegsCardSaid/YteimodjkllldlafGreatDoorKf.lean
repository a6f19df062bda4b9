/-
  What functions of the program answer, as numbers of what they are handed: their runs by the engine, the plain statements behind them. No condition.
-/
import Derived.Test.YteimodjkllldlafGreatDoorGab
import Derived.Test.YteimodjkllldlafGreatDoorGib
import Derived.Test.YteimodjkllldlafGreatDoorGp2
set_option linter.unusedVariables false
set_option linter.unusedSimpArgs false
set_option maxRecDepth 100000
namespace Go.Proofs.YteimodjkllldlafGreatDoor
open Go.Eng Go.RowKit
namespace CADo
def rc : Rc := ⟨40, [none, none, none], [.int .i64, .int .i32, .int .i32], [], .tup [none, none], [.int .i32 (.f 63 (.v 0) (.v 1) (.v 2)), .bool (.f 64 (.v 0) (.v 1) (.v 2))]⟩
theorem okb : rc.ok = true := by kernel_rfl
noncomputable def us : SMs := fun Γ ins n => smH (cxG n Γ ins) [] (smAnd 107 (libLen32 Γ ins n) (smR (cxG n Γ ins) []))
theorem us_ok : SMsOk us := fun Γ ins n => qJi (tabsG n Γ ins) (qJq _) (smAnd_ok (libLen32_ok Γ ins n) (qJg (tabsG n Γ ins) (qJz _)))
def Q0 : E := (tp (.v 1) (.v 2))
def Q1 : E := (.b .psub .i64 (.v 1) (.v 2))
def Q2 : E := (.b .and .i32 (.v 2) (.c 31))
def Q3 : E := (.b .and .u64 Q2 (.c 31))
def Q4 : E := (.b .pmul .i64 (.v 1) (.v 2))
def Q5 : E := (.b .psub .i64 (.c 0) (.v 1))
def Q6 : E := (.b .min .i64 Q5 (.c 2147483647))
def tree : TT (List E) :=
 (.br (te (.v 0) (.c 1)) (.leaf [(t3 Q0), (.c 1)]) (.br (te (.v 0) (.c 2)) (.leaf [(t3 Q1), (.c 1)]) (.br (te (.v 0) (.c 3)) (.leaf [(.b .min .i64 (.b .max .i64 Q0 (.c (-2147483648))) (.c 2147483647)), (.c 1)]) (.br (te (.v 0) (.c 4)) (.leaf [(.b .min .i64 (.b .max .i64 Q1 (.c (-2147483648))) (.c 2147483647)), (.c 1)]) (.br (te (.v 0) (.c 5)) (.leaf [(.b .and .i32 (.v 1) (.v 2)), (.c 1)]) (.br (te (.v 0) (.c 6)) (.leaf [(.b .or .i32 (.v 1) (.v 2)), (.c 1)]) (.br (te (.v 0) (.c 7)) (.leaf [(.b .xor .i32 (.v 1) (.v 2)), (.c 1)]) (.br (te (.v 0) (.c 8)) (.leaf [(.b .andNot .i32 (.v 1) (.v 2)), (.c 1)]) (.br (te (.v 0) (.c 9)) (.leaf [(t3 (.b .shl .u32 (.w .u32 (.v 1)) Q2)), (.c 1)]) (.br (te (.v 0) (.c 10)) (.leaf [(t3 (.b .shr .u32 (.w .u32 (.v 1)) Q2)), (.c 1)]) (.br (te (.v 0) (.c 11))
 (.leaf [(.b .shr .i32 (.v 1) Q2), (.c 1)]) (.br (te (.v 0) (.c 12)) (.leaf [(t3 (.b .or .u32 (.b .shl .u32 (.w .u32 (.v 1)) Q3) (.b .shr .u32 (.w .u32 (.v 1)) (.b .psub .i64 (.c 32) Q3)))), (.c 1)]) (.br (te (.v 0) (.c 13)) (.br (tk (.v 1) (.v 2)) (.leaf [(.c 1), (.c 1)]) (.leaf [(.c 0), (.c 1)])) (.br (te (.v 0) (.c 14)) (.br (tk (.w .u32 (.v 1)) (.w .u32 (.v 2))) (.leaf [(.c 1), (.c 1)]) (.leaf [(.c 0), (.c 1)])) (.br (te (.v 0) (.c 15)) (.br (te (.v 1) (.v 2)) (.leaf [(.c 1), (.c 1)]) (.leaf [(.c 0), (.c 1)])) (.br (te (.v 0) (.c 16)) (.leaf [(.b .min .i64 (.v 1) (.v 2)), (.c 1)]) (.br (te (.v 0) (.c 17)) (.leaf [(.b .max .i64 (.v 1) (.v 2)), (.c 1)]) (.br (te (.v 0) (.c 18)) (.leaf [(t3 Q4), (.c 1)]) (.br (te (.v 0) (.c 19)) (.leaf [(.b .shr .i64 Q4 (.c 32)), (.c 1)]) (.br (te (.v 0)
 (.c 20)) (.leaf [(.b .min .i64 (.b .max .i64 (tp (.b .shr .i64 Q4 (.c 30)) (.b .and .i64 (.b .shr .i64 Q4 (.c 29)) (.c 1))) (.c (-2147483648))) (.c 2147483647)), (.c 1)]) (.br (te (.v 0) (.c 21)) (.leaf [(.b .min .i64 (.b .max .i64 (tp (.b .shr .i64 Q4 (.c 16)) (.b .and .i64 (.b .shr .i64 Q4 (.c 15)) (.c 1))) (.c (-2147483648))) (.c 2147483647)), (.c 1)]) (.br (te (.v 0) (.c 22)) (.br (te (.v 2) (.c 0)) (.leaf [(.c 0), (.c 0)]) (.leaf [(t3 (.b .quo .i64 (.v 1) (.v 2))), (.c 1)])) (.br (te (.v 0) (.c 23)) (.br (te (.v 2) (.c 0)) (.leaf [(.c 0), (.c 0)]) (.leaf [(t3 (.b .psub .i64 (.v 1) (t6 (.b .pmul .i64 (.b .quo .i64 (.v 1) (.v 2)) (.v 2))))), (.c 1)])) (.br (te (.v 0) (.c 24)) (.leaf [(.b .psub .i64 (.c 32) (.f 0 (.w .u32 (.v 1)) (.c 0) (.c 0))), (.c 1)]) (.br (te (.v 0) (.c 25))
 (.leaf [Q6, (.c 1)]) (.br (te (.v 0) (.c 26)) (.leaf [(.b .max .i64 (.v 1) Q6), (.c 1)]) (.br (te (.v 0) (.c 27)) (.br (tn (.v 1) (.c 0)) (.leaf [(.c (-1)), (.c 1)]) (.leaf [(.c 0), (.c 1)])) (.br (te (.v 0) (.c 28)) (.leaf [(.b .shr .i32 (.v 1) (.c 31)), (.c 1)]) (.br (te (.v 0) (.c 29)) (.leaf [(.w .i16 (.v 1)), (.c 1)]) (.br (te (.v 0) (.c 30)) (.leaf [(.b .shr .i32 (.v 1) (.c 16)), (.c 1)]) (.leaf [(.c 0), (.c 0)])))))))))))))))))))))))))))))))
def sL0 (a b c z0 : Int) : Prop := (z0 : Int) = (aluV a b c) ∧ ((1 : Int) ≠ 0 ↔ ((aluK a b c) : Int) ≠ 0) ∧ True
def P (a b c : Int) : Prop :=
 (Pb (Pe a 1) (((W3 (b + c)) : Int) = (aluV a b c) ∧ ((1 : Int) ≠ 0 ↔ ((aluK a b c) : Int) ≠ 0) ∧ True) (Pb (Pe a 2) (((W3 (b - c)) : Int) = (aluV a b c) ∧ ((1 : Int) ≠ 0 ↔ ((aluK a b c) : Int) ≠ 0) ∧ True) (Pb (Pe a 3) (((sat32 (b + c)) : Int) = (aluV a b c) ∧ ((1 : Int) ≠ 0 ↔ ((aluK a b c) : Int) ≠ 0) ∧ True) (Pb (Pe a 4) (((sat32 (b - c)) : Int) = (aluV a b c) ∧ ((1 : Int) ≠ 0 ↔ ((aluK a b c) : Int) ≠ 0) ∧ True) (Pb (Pe a 5) (((band .i32 b c) : Int) = (aluV a b c) ∧ ((1 : Int) ≠ 0 ↔ ((aluK a b c) : Int) ≠ 0) ∧ True) (Pb (Pe a 6) (((bor .i32 b c) : Int) = (aluV a b c) ∧ ((1 : Int) ≠ 0 ↔ ((aluK a b c) : Int) ≠ 0) ∧ True) (Pb (Pe a 7) (((bxor .i32 b c) : Int) = (aluV a b c) ∧ ((1 : Int) ≠ 0 ↔ ((aluK a b c) : Int) ≠ 0) ∧ True) (Pb (Pe a 8) (((bandn .i32 b c) : Int) = (aluV a b c) ∧ ((1 :
 Int) ≠ 0 ↔ ((aluK a b c) : Int) ≠ 0) ∧ True) (Pb (Pe a 9) (sL0 a b c (W3 (shlZ .u32 (U3 b) (band .i32 c 31)))) (Pb (Pe a 10) (sL0 a b c (W3 (shrZ .u32 (U3 b) (band .i32 c 31)))) (Pb (Pe a 11) (((shrZ .i32 b (band .i32 c 31)) : Int) = (aluV a b c) ∧ ((1 : Int) ≠ 0 ↔ ((aluK a b c) : Int) ≠ 0) ∧ True) (Pb (Pe a 12) (sL0 a b c (W3 (bor .u32 (shlZ .u32 (U3 b) (band .u64 (band .i32 c 31) 31)) (shrZ .u32 (U3 b) (32 - (band .u64 (band .i32 c 31) 31)))))) (Pb (Pe a 13) (Pb (Pl b c) ((1 : Int) = (aluV a b c) ∧ ((1 : Int) ≠ 0 ↔ ((aluK a b c) : Int) ≠ 0) ∧ True) ((0 : Int) = (aluV a b c) ∧ ((1 : Int) ≠ 0 ↔ ((aluK a b c) : Int) ≠ 0) ∧ True)) (Pb (Pe a 14) (Pb (Pl (U3 b) (U3 c)) ((1 : Int) = (aluV a b c) ∧ ((1 : Int) ≠ 0 ↔ ((aluK a b c) : Int) ≠ 0) ∧ True) ((0 : Int) = (aluV a b c) ∧ ((1 : Int) ≠ 0 ↔
 ((aluK a b c) : Int) ≠ 0) ∧ True)) (Pb (Pe a 15) (Pb (Pe b c) ((1 : Int) = (aluV a b c) ∧ ((1 : Int) ≠ 0 ↔ ((aluK a b c) : Int) ≠ 0) ∧ True) ((0 : Int) = (aluV a b c) ∧ ((1 : Int) ≠ 0 ↔ ((aluK a b c) : Int) ≠ 0) ∧ True)) (Pb (Pe a 16) (((minZ b c) : Int) = (aluV a b c) ∧ ((1 : Int) ≠ 0 ↔ ((aluK a b c) : Int) ≠ 0) ∧ True) (Pb (Pe a 17) (((maxZ b c) : Int) = (aluV a b c) ∧ ((1 : Int) ≠ 0 ↔ ((aluK a b c) : Int) ≠ 0) ∧ True) (Pb (Pe a 18) (((W3 (b * c)) : Int) = (aluV a b c) ∧ ((1 : Int) ≠ 0 ↔ ((aluK a b c) : Int) ≠ 0) ∧ True) (Pb (Pe a 19) (((shrZ .i64 (b * c) 32) : Int) = (aluV a b c) ∧ ((1 : Int) ≠ 0 ↔ ((aluK a b c) : Int) ≠ 0) ∧ True) (Pb (Pe a 20) (sL0 a b c (sat32 ((shrZ .i64 (b * c) 30) + (band .i64 (shrZ .i64 (b * c) 29) 1)))) (Pb (Pe a 21) (sL0 a b c (sat32 ((shrZ .i64 (b * c) 16) +
 (band .i64 (shrZ .i64 (b * c) 15) 1)))) (Pb (Pe a 22) (Pb (Pe c 0) ((0 : Int) = (aluV a b c) ∧ ((0 : Int) ≠ 0 ↔ ((aluK a b c) : Int) ≠ 0) ∧ True) (((W3 (BO.ev .quo .i64 b c)) : Int) = (aluV a b c) ∧ ((1 : Int) ≠ 0 ↔ ((aluK a b c) : Int) ≠ 0) ∧ True)) (Pb (Pe a 23) (Pb (Pe c 0) ((0 : Int) = (aluV a b c) ∧ ((0 : Int) ≠ 0 ↔ ((aluK a b c) : Int) ≠ 0) ∧ True) (sL0 a b c (W3 (b - (W6 ((BO.ev .quo .i64 b c) * c)))))) (Pb (Pe a 24) (((32 - (blen (U3 b))) : Int) = (aluV a b c) ∧ ((1 : Int) ≠ 0 ↔ ((aluK a b c) : Int) ≠ 0) ∧ True) (Pb (Pe a 25) (((minZ (0 - b) 2147483647) : Int) = (aluV a b c) ∧ ((1 : Int) ≠ 0 ↔ ((aluK a b c) : Int) ≠ 0) ∧ True) (Pb (Pe a 26) (((maxZ b (minZ (0 - b) 2147483647)) : Int) = (aluV a b c) ∧ ((1 : Int) ≠ 0 ↔ ((aluK a b c) : Int) ≠ 0) ∧ True) (Pb (Pe a 27) (Pb (Pd b 0)
 (((-1) : Int) = (aluV a b c) ∧ ((1 : Int) ≠ 0 ↔ ((aluK a b c) : Int) ≠ 0) ∧ True) ((0 : Int) = (aluV a b c) ∧ ((1 : Int) ≠ 0 ↔ ((aluK a b c) : Int) ≠ 0) ∧ True)) (Pb (Pe a 28) (((shrZ .i32 b 31) : Int) = (aluV a b c) ∧ ((1 : Int) ≠ 0 ↔ ((aluK a b c) : Int) ≠ 0) ∧ True) (Pb (Pe a 29) (((IntKind.wrap .i16 b) : Int) = (aluV a b c) ∧ ((1 : Int) ≠ 0 ↔ ((aluK a b c) : Int) ≠ 0) ∧ True) (Pb (Pe a 30) (((shrZ .i32 b 16) : Int) = (aluV a b c) ∧ ((1 : Int) ≠ 0 ↔ ((aluK a b c) : Int) ≠ 0) ∧ True) ((0 : Int) = (aluV a b c) ∧ ((0 : Int) ≠ 0 ↔ ((aluK a b c) : Int) ≠ 0) ∧ True)))))))))))))))))))))))))))))))
theorem holds (p0 p1 p2 : Int) (l_p0 : -9223372036854775808 ≤ p0) (u_p0 : p0 ≤ 9223372036854775807) (l_p1 : -2147483648 ≤ p1) (u_p1 : p1 ≤ 2147483647) (l_p2 : -2147483648 ≤ p2) (u_p2 : p2 ≤ 2147483647) : P p0 p1 p2 := by
 delta P sL0 Pb Pl Pe Pd W6 W3 U3
 simp only [nrm, Int.reduceEq, Int.reduceNeg, reduceIte]
 have hv : ∀ x op, aluP op p2 → x = aluX op p1 p2 → (x = aluV op p1 p2 ∧ ¬ aluK op p1 p2 = 0) := fun x op h e =>
  ⟨by rw [aluV_of h l_p1 u_p1 l_p2 u_p2, e], aluK_ne.2 h⟩
 have hn : ∀ op, ¬ aluP op p2 → ((0 : Int) = aluV op p1 p2 ∧ aluK op p1 p2 = 0) := fun op h => ⟨(aluV_no h).symm, by unfold aluK; rw [if_neg h]⟩
 refine ⟨fun h => ?_, fun h1 => ?_⟩
 ·subst h; exact hv _ _ (by unfold aluP; omega) (by unfold aluX; simp only [Int.reduceEq, if_false, if_true]; all_goals rfl)
 refine ⟨fun h => ?_, fun h2 => ?_⟩
 ·subst h; exact hv _ _ (by unfold aluP; omega) (by unfold aluX; simp only [Int.reduceEq, if_false, if_true]; all_goals rfl)
 refine ⟨fun h => ?_, fun h3 => ?_⟩
 ·subst h; exact hv _ _ (by unfold aluP; omega) (by unfold aluX; simp only [Int.reduceEq, if_false, if_true]; all_goals rfl)
 refine ⟨fun h => ?_, fun h4 => ?_⟩
 ·subst h; exact hv _ _ (by unfold aluP; omega) (by unfold aluX; simp only [Int.reduceEq, if_false, if_true]; all_goals rfl)
 refine ⟨fun h => ?_, fun h5 => ?_⟩
 ·subst h; exact hv _ _ (by unfold aluP; omega) (by unfold aluX; simp only [Int.reduceEq, if_false, if_true]; all_goals rfl)
 refine ⟨fun h => ?_, fun h6 => ?_⟩
 ·subst h; exact hv _ _ (by unfold aluP; omega) (by unfold aluX; simp only [Int.reduceEq, if_false, if_true]; all_goals rfl)
 refine ⟨fun h => ?_, fun h7 => ?_⟩
 ·subst h; exact hv _ _ (by unfold aluP; omega) (by unfold aluX; simp only [Int.reduceEq, if_false, if_true]; all_goals rfl)
 refine ⟨fun h => ?_, fun h8 => ?_⟩
 ·subst h; exact hv _ _ (by unfold aluP; omega) (by unfold aluX; simp only [Int.reduceEq, if_false, if_true]; all_goals rfl)
 refine ⟨fun h => ?_, fun h9 => ?_⟩
 ·subst h; exact hv _ _ (by unfold aluP; omega) (by unfold aluX; simp only [Int.reduceEq, if_false, if_true]; all_goals rfl)
 refine ⟨fun h => ?_, fun h10 => ?_⟩
 ·subst h; exact hv _ _ (by unfold aluP; omega) (by unfold aluX; simp only [Int.reduceEq, if_false, if_true]; all_goals rfl)
 refine ⟨fun h => ?_, fun h11 => ?_⟩
 ·subst h; exact hv _ _ (by unfold aluP; omega) (by unfold aluX; simp only [Int.reduceEq, if_false, if_true]; all_goals rfl)
 refine ⟨fun h => ?_, fun h12 => ?_⟩
 ·subst h; exact hv _ _ (by unfold aluP; omega) (by unfold aluX; simp only [Int.reduceEq, if_false, if_true]; all_goals rfl)
 refine ⟨fun h => ?_, fun h13 => ?_⟩
 ·subst h; exact ⟨fun g => hv _ _ (by unfold aluP; omega) (by unfold aluX; simp only [Int.reduceEq, if_false, if_true]; rw [if_pos g]), fun g => hv _ _ (by unfold aluP; omega) (by unfold aluX; simp only [Int.reduceEq, if_false, if_true]; rw [if_neg (by omega)])⟩
 refine ⟨fun h => ?_, fun h14 => ?_⟩
 ·subst h; exact ⟨fun g => hv _ _ (by unfold aluP; omega) (by unfold aluX; simp only [Int.reduceEq, if_false, if_true]; rw [if_pos g]), fun g => hv _ _ (by unfold aluP; omega) (by unfold aluX; simp only [Int.reduceEq, if_false, if_true]; rw [if_neg (by omega)])⟩
 refine ⟨fun h => ?_, fun h15 => ?_⟩
 ·subst h; exact ⟨fun g => hv _ _ (by unfold aluP; omega) (by unfold aluX; simp only [Int.reduceEq, if_false, if_true]; rw [if_pos g]), fun g => hv _ _ (by unfold aluP; omega) (by unfold aluX; simp only [Int.reduceEq, if_false, if_true]; rw [if_neg (by omega)])⟩
 refine ⟨fun h => ?_, fun h16 => ?_⟩
 ·subst h; exact hv _ _ (by unfold aluP; omega) (by unfold aluX; simp only [Int.reduceEq, if_false, if_true]; all_goals rfl)
 refine ⟨fun h => ?_, fun h17 => ?_⟩
 ·subst h; exact hv _ _ (by unfold aluP; omega) (by unfold aluX; simp only [Int.reduceEq, if_false, if_true]; all_goals rfl)
 refine ⟨fun h => ?_, fun h18 => ?_⟩
 ·subst h; exact hv _ _ (by unfold aluP; omega) (by unfold aluX; simp only [Int.reduceEq, if_false, if_true]; all_goals rfl)
 refine ⟨fun h => ?_, fun h19 => ?_⟩
 ·subst h; exact hv _ _ (by unfold aluP; omega) (by unfold aluX; simp only [Int.reduceEq, if_false, if_true]; all_goals rfl)
 refine ⟨fun h => ?_, fun h20 => ?_⟩
 ·subst h; exact hv _ _ (by unfold aluP; omega) (by unfold aluX; simp only [Int.reduceEq, if_false, if_true]; all_goals rfl)
 refine ⟨fun h => ?_, fun h21 => ?_⟩
 ·subst h; exact hv _ _ (by unfold aluP; omega) (by unfold aluX; simp only [Int.reduceEq, if_false, if_true]; all_goals rfl)
 refine ⟨fun h => ?_, fun h22 => ?_⟩
 ·subst h; exact ⟨fun g => hn _ (by unfold aluP; omega), fun g => hv _ _ (by unfold aluP; omega) (by unfold aluX; simp only [Int.reduceEq, if_false, if_true])⟩
 refine ⟨fun h => ?_, fun h23 => ?_⟩
 ·subst h; exact ⟨fun g => hn _ (by unfold aluP; omega), fun g => hv _ _ (by unfold aluP; omega) (by unfold aluX; simp only [Int.reduceEq, if_false, if_true])⟩
 refine ⟨fun h => ?_, fun h24 => ?_⟩
 ·subst h; exact hv _ _ (by unfold aluP; omega) (by unfold aluX; simp only [Int.reduceEq, if_false, if_true]; all_goals rfl)
 refine ⟨fun h => ?_, fun h25 => ?_⟩
 ·subst h; exact hv _ _ (by unfold aluP; omega) (by unfold aluX; simp only [Int.reduceEq, if_false, if_true]; all_goals rfl)
 refine ⟨fun h => ?_, fun h26 => ?_⟩
 ·subst h; exact hv _ _ (by unfold aluP; omega) (by unfold aluX; simp only [Int.reduceEq, if_false, if_true]; all_goals rfl)
 refine ⟨fun h => ?_, fun h27 => ?_⟩
 ·subst h; exact ⟨fun g => hv _ _ (by unfold aluP; omega) (by unfold aluX; simp only [Int.reduceEq, if_false, if_true]; rw [if_neg g]), fun g => hv _ _ (by unfold aluP; omega) (by unfold aluX; simp only [Int.reduceEq, if_false, if_true]; rw [if_pos g])⟩
 refine ⟨fun h => ?_, fun h28 => ?_⟩
 ·subst h; exact hv _ _ (by unfold aluP; omega) (by unfold aluX; simp only [Int.reduceEq, if_false, if_true]; all_goals rfl)
 refine ⟨fun h => ?_, fun h29 => ?_⟩
 ·subst h; exact hv _ _ (by unfold aluP; omega) (by unfold aluX; simp only [Int.reduceEq, if_false, if_true]; all_goals rfl)
 refine ⟨fun h => ?_, fun h30 => ?_⟩
 ·subst h; exact hv _ _ (by unfold aluP; omega) (by unfold aluX; simp only [Int.reduceEq, if_false, if_true]; all_goals rfl)
 exact hn _ (by unfold aluP; omega)
theorem plain (i v ro p) : statR 2 rc tree ⟨i, fN, v, ro, p⟩ = P (i 0) (i 1) (i 2) := by kernel_rfl
theorem ran : ranR us (fun _ _ => .auto) rc 2 tree = true := by kernel_rfl
theorem fineT : fineR 2 rc tree = true := by kernel_rfl
theorem ok : RcOk (cxOf 2) rc := okR us_ok ran fineT okb fun i v ro p hρ hcap hpre => by rw [plain]; have q := hρ.hi; exact holds _ _ _ (q 0 _ rfl).1 (q 0 _ rfl).2 (q 1 _ rfl).1 (q 1 _ rfl).2 (q 2 _ rfl).1 (q 2 _ rfl).2
end CADo
namespace COCost
def rc : Rc := ⟨70, [none], [.int .i64], [], .one, [.int .i64 (.f 66 (.v 0) (.c 0) (.c 0))]⟩
theorem okb : rc.ok = true := by kernel_rfl
noncomputable def us : SMs := fun Γ ins n => smH (cxG n Γ ins) [] (smR (cxG n Γ ins) [])
theorem us_ok : SMsOk us := fun Γ ins n => qJi (tabsG n Γ ins) (qJq _) (qJg (tabsG n Γ ins) (qJz _))
def tree : TT (List E) :=
(.br (.b .le .i64 (.c 1) (.v 0))
 (.br (.nt (.b .le .i64 (.v 0) (.c 43)))
 (.leaf [(.c 0)])
 (.br (.b .le .i64 (.c 0) (.w .i64 (.b .psub .i64 (.v 0) (.c 1))))
 (.br (.b .lt .i64 (.w .i64 (.b .psub .i64 (.v 0) (.c 1))) (.c 43))
 (.leaf [(.w .i64 (.f 13 (.f 11 (.c 1) (.f 11 (.c 1) (.f 11 (.c 1) (.f 11 (.c 1) (.f 11 (.c 1) (.f 11 (.c 1) (.f 11 (.c 1) (.f 11 (.c 1) (.f 11 (.c 1) (.f 11 (.c 1) (.f 11 (.c 1) (.f 11 (.c 1) (.f 11 (.c 1) (.f 11 (.c 1) (.f 11 (.c 1) (.f 11 (.c 1) (.f 11 (.c 1) (.f 11 (.c 3) (.f 11 (.c 3) (.f 11 (.c 3) (.f 11 (.c 3) (.f 11 (.c 2) (.f 11 (.c 2) (.f 11 (.c 1) (.f 11 (.c 1) (.f 11 (.c 1) (.f 11 (.c 1) (.f 11 (.c 1) (.f 11 (.c 1) (.f 11 (.c 1) (.f 11 (.c 1) (.f 11 (.c 1) (.f 11 (.c 1) (.f 11 (.c 2) (.f 11 (.c 2) (.f 11 (.c 1) (.f 11 (.c 1) (.f 11 (.c 1) (.f 11 (.c 3) (.f 11 (.c 3) (.f 11 (.c 3) (.f 11 (.c 1) (.f 11 (.c 1) (.c 0) (.c 0)) (.c 0)) (.c 0)) (.c 0)) (.c 0)) (.c 0)) (.c 0)) (.c 0)) (.c 0)) (.c 0)) (.c 0)) (.c 0)) (.c 0)) (.c 0)) (.c 0)) (.c 0)) (.c 0)) (.c 0)) (.c 0)) (.c 0)) (.c 0)) (.c 0)) (.c 0)) (.c 0)) (.c 0)) (.c 0)) (.c 0)) (.c 0)) (.c 0)) (.c 0)) (.c 0)) (.c 0)) (.c 0)) (.c 0)) (.c 0)) (.c 0)) (.c 0)) (.c 0)) (.c 0)) (.c 0)) (.c 0)) (.c 0)) (.c 0)) (.w .i64 (.b .psub .i64 (.v 0) (.c 1))) (.c 0)))])
 (.bad 200))
 (.bad 200)))
 (.leaf [(.c 0)]))
def P (p0 : Int) : Prop :=
 (((qQz (decide (1 ≤ p0))) ≠ 0 →
  (((qQz ((qQz (decide (p0 ≤ 43))) == 0)) ≠ 0 →
   (0 : Int) = (opCo p0) ∧ True) ∧ ((qQz ((qQz (decide (p0 ≤ 43))) == 0)) = 0 →
   (((qQz (decide (0 ≤ (IntKind.wrap .i64 (p0 - 1))))) ≠ 0 →
    (((qQz (decide ((IntKind.wrap .i64 (p0 - 1)) < 43))) ≠ 0 →
     ((IntKind.wrap .i64 (rdZ (qQq 1 (qQq 1 (qQq 1 (qQq 1 (qQq 1 (qQq 1 (qQq 1 (qQq 1 (qQq 1 (qQq 1 (qQq 1 (qQq 1 (qQq 1 (qQq 1 (qQq 1 (qQq 1 (qQq 1 (qQq 3 (qQq 3 (qQq 3 (qQq 3 (qQq 2 (qQq 2 (qQq 1 (qQq 1 (qQq 1 (qQq 1 (qQq 1 (qQq 1 (qQq 1 (qQq 1 (qQq 1 (qQq 1 (qQq 2 (qQq 2 (qQq 1 (qQq 1 (qQq 1 (qQq 3 (qQq 3 (qQq 3 (qQq 1 (qQq 1 0))))))))))))))))))))))))))))))))))))))))))) (IntKind.wrap .i64 (p0 - 1)))) : Int) = (opCo p0) ∧ True) ∧ ((qQz (decide ((IntKind.wrap .i64 (p0 - 1)) < 43))) = 0 →
     False))) ∧ ((qQz (decide (0 ≤ (IntKind.wrap .i64 (p0 - 1))))) = 0 →
    False))))) ∧ ((qQz (decide (1 ≤ p0))) = 0 →
  (0 : Int) = (opCo p0) ∧ True))
def costL : List Int := [1, 1, 1, 1, 1, 1, 1, 1, 1, 1, 1, 1, 1, 1, 1, 1, 1, 3, 3, 3, 3, 2, 2, 1, 1, 1, 1, 1, 1, 1, 1, 1, 1, 2, 2, 1, 1, 1, 3, 3, 3, 1, 1]
theorem cost_all : ∀ k : Fin 43, costL.getD k 0 = opCo ((k.val : Int) + 1) := by decide
theorem cost_rd {p : Int} (h1 : 1 ≤ p) (h2 : p ≤ 43) : IntKind.wrap .i64 (rdZ (chn costL) (IntKind.wrap .i64 (p - 1))) = opCo p := by
 rw [w64 (x := p - 1) (by omega) (by omega)]
 have e : p - 1 = ((p - 1).toNat : Nat) := by omega
 rw [e, qKy, cost_all ⟨(p - 1).toNat, by omega⟩]
 have := opCo_bd (((⟨(p - 1).toNat, by omega⟩ : Fin 43).val : Int) + 1)
 rw [w64 (by omega) (by omega)]
 congr 1
 show ((p - 1).toNat : Int) + 1 = p
 omega
theorem holds (p0 : Int) (l_p0 : -9223372036854775808 ≤ p0) (u_p0 : p0 ≤ 9223372036854775807) : P p0 := by
 unfold P
 simp only [nrm, Int.reduceEq, Int.reduceNeg, reduceIte]
 have e : ∀ p, p < 1 ∨ 43 < p → (0 : Int) = opCo p := fun p h => by unfold opCo; rw [if_pos h]
 refine ⟨fun h1 => ⟨fun h2 => e _ (by omega), fun h2 => ?_⟩, fun h1 => e _ (by omega)⟩
 have hw : IntKind.wrap .i64 (p0 - 1) = p0 - 1 := w64 (by omega) (by omega)
 exact ⟨fun h3 => ⟨fun h4 => cost_rd h1 (by omega), fun h4 => by omega⟩, fun h3 => by omega⟩
theorem plain (i v ro p) : statR 2 rc tree ⟨i, fN, v, ro, p⟩ = P (i 0) := by kernel_rfl
theorem ran : ranR us (fun _ _ => .auto) rc 2 tree = true := by kernel_rfl
theorem fineT : fineR 2 rc tree = true := by kernel_rfl
theorem ok : RcOk (cxOf 2) rc := okR us_ok ran fineT okb fun i v ro p hρ hcap hpre => by rw [plain]; have q := hρ.hi; exact holds _ (q 0 _ rfl).1 (q 0 _ rfl).2
end COCost
namespace CACost
def rc : Rc := ⟨43, [none, none], [.int .i64, .int .i32], [], .one, [.int .i64 (.f 65 (.v 0) (.v 1) (.c 0))]⟩
theorem okb : rc.ok = true := by kernel_rfl
noncomputable def us : SMs := fun Γ ins n => smH (cxG n Γ ins) [] (smAnd 71 (libLen64 Γ ins n) (smR (cxG n Γ ins) [COCost.rc]))
theorem us_ok : SMsOk us := fun Γ ins n => qJi (tabsG n Γ ins) (qJq _) (smAnd_ok (libLen64_ok Γ ins n) (qJg (tabsG n Γ ins) (qZg COCost.okb (rc_n COCost.ok) (qJz _))))
def tree : TT (List E) :=
(.br (.b .eq .i64 (.v 0) (.c 22))
 (.leaf [(.b .padd .i64 (.f 66 (.v 0) (.c 0) (.c 0)) (.f 3 (.w .u64 (.b .max .i64 (.v 1) (.b .psub .i64 (.c 0) (.v 1)))) (.c 0) (.c 0)))])
 (.br (.b .eq .i64 (.v 0) (.c 23))
 (.leaf [(.b .padd .i64 (.f 66 (.v 0) (.c 0) (.c 0)) (.f 3 (.w .u64 (.b .max .i64 (.v 1) (.b .psub .i64 (.c 0) (.v 1)))) (.c 0) (.c 0)))])
 (.leaf [(.f 66 (.v 0) (.c 0) (.c 0))])))
def P (p0 p1 : Int) : Prop :=
 (((qQz (p0 == 22)) ≠ 0 →
  (((opCo p0) + (blen64 (IntKind.wrap .u64 (maxZ p1 (0 - p1))))) : Int) = (aluC p0 p1) ∧ True) ∧ ((qQz (p0 == 22)) = 0 →
  (((qQz (p0 == 23)) ≠ 0 →
   (((opCo p0) + (blen64 (IntKind.wrap .u64 (maxZ p1 (0 - p1))))) : Int) = (aluC p0 p1) ∧ True) ∧ ((qQz (p0 == 23)) = 0 →
   ((opCo p0) : Int) = (aluC p0 p1) ∧ True))))
theorem holds (p0 p1 : Int) (l_p0 : -9223372036854775808 ≤ p0) (u_p0 : p0 ≤ 9223372036854775807) (l_p1 : -2147483648 ≤ p1) (u_p1 : p1 ≤ 2147483647) : P p0 p1 := by
 unfold P
 simp only [nrm, Int.reduceEq, Int.reduceNeg, reduceIte]
 have e : ∀ p, p = 22 ∨ p = 23 → opCo p + blen64 (IntKind.wrap .u64 (maxZ p1 (0 - p1))) = aluC p p1 := fun p h => by unfold aluC; rw [if_pos h]; rfl
 refine ⟨fun h => e _ (.inl h), fun h => ⟨fun h => e _ (.inr h), fun h => ?_⟩⟩
 unfold aluC; rw [if_neg (by omega)]; omega
theorem plain (i v ro p) : statR 2 rc tree ⟨i, fN, v, ro, p⟩ = P (i 0) (i 1) := by kernel_rfl
theorem ran : ranR us (fun _ _ => .auto) rc 2 tree = true := by kernel_rfl
theorem fineT : fineR 2 rc tree = true := by kernel_rfl
theorem ok : RcOk (cxOf 2) rc := okR us_ok ran fineT okb fun i v ro p hρ hcap hpre => by rw [plain]; have q := hρ.hi; exact holds _ _ (q 0 _ rfl).1 (q 0 _ rfl).2 (q 1 _ rfl).1 (q 1 _ rfl).2
end CACost
end Go.Proofs.YteimodjkllldlafGreatDoor
