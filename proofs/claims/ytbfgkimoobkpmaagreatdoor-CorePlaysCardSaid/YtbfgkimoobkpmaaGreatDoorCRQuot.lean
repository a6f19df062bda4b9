/-
  What astrolaberef07.quotient answers, as numbers of what it is handed: its run by the engine, and the plain statement behind it. No condition.
-/
import Derived.Test.YtbfgkimoobkpmaaGreatDoorGab
import Derived.Test.YtbfgkimoobkpmaaGreatDoorCRLow
import Derived.Test.YtbfgkimoobkpmaaGreatDoorGmD
namespace Go.Proofs.YtbfgkimoobkpmaaGreatDoor.CRQuot
open Go.Eng Go.RowKit
set_option linter.unusedVariables false
set_option linter.unusedSimpArgs false
set_option maxRecDepth 100000
def rc : Rc := ⟨108, [none, none, none], [.int .i32, .int .i32, .bool], [(.v 1)], .one, [.int .i32 (.f 63 (.ite (.b .eq .i64 (.v 2) (.c 0)) (.c 22) (.c 23)) (.v 0) (.v 1))]⟩
theorem okb : rc.ok = true := by kernel_rfl
noncomputable def us : SMs := fun Γ ins n => smH (cxG n Γ ins) [] (smR (cxG n Γ ins) [CRLow.rc])
theorem us_ok : SMsOk us := fun Γ ins n => smH_ok (tabsG n Γ ins) (rhs_nil _) (smR_ok (tabsG n Γ ins) (rcs_cons CRLow.okb (rc_n CRLow.ok) (rcs_nil _)))
def q0 : E := (tk (.v 0) (.c 0))
def q1 : E := (tk (.v 1) (.c 0))
def q2 : E := (.b .psub .i64 (.c 0) (.v 1))
def q3 : E := (te q2 (.c 0))
def q4 : E := (.nt q0)
def q5 : E := (.nt q1)
def q6 : E := (tn q4 q5)
def q7 : E := (.b .psub .i64 (.c 0) (.v 0))
def q8 : E := (.b .quo .i64 q7 q2)
def q9 : E := (.b .psub .i64 (.c 0) q8)
def q10 : E := (t6 q9)
def q11 : E := (.cl 1000 (-9223372036854775808) 9223372036854775807)
def q12 : E := (t3 q11)
def q13 : E := (.cl 1000 (-2147483648) 2147483647)
def q14 : E := (.b .quo .i64 q7 (.v 1))
def q15 : E := (.b .psub .i64 (.c 0) q14)
def q16 : E := (t6 q15)
def q17 : E := (.b .quo .i64 (.v 0) q2)
def q18 : E := (.b .psub .i64 (.c 0) q17)
def q19 : E := (t6 q18)
def q20 : E := (.b .quo .i64 (.v 0) (.v 1))
def q21 : E := (.b .psub .i64 (.c 0) q20)
def q22 : E := (t6 q21)
def tree : TT (List E) :=
 (.br q0 (.br q1 (.br q3 (.bad 3) (.br q6 (.br (.v 2) (.new 1000 (t6 (.b .psub .i64 (.v 0) (t6 (.b .pmul .i64 q10 (.v 1))))) (.leaf [q12])) (.new 1000 q10 (.leaf [q12]))) (.br (.v 2) (.new 1000 (t6 (.b .psub .i64 (.v 0) (t6 (.b .pmul .i64 q8 (.v 1))))) (.leaf [q12])) (.new 1000 (t3 q8) (.leaf [q13]))))) (.br (te (.v 1) (.c 0)) (.bad 3) (.br q6 (.br (.v 2) (.new 1000 (t6 (.b .psub .i64 (.v 0) (t6 (.b .pmul .i64 q16 (.v 1))))) (.leaf [q12])) (.new 1000 q16 (.leaf [q12]))) (.br (.v 2) (.new 1000 (t6 (.b .psub .i64 (.v 0) (t6 (.b .pmul .i64 q14 (.v 1))))) (.leaf [q12])) (.new 1000 (t3 q14) (.leaf [q13])))))) (.br q1 (.br q3 (.bad 3) (.br q6 (.br (.v 2) (.new 1000 (t6 (.b .psub .i64 (.v 0) (t6 (.b .pmul .i64 q19 (.v 1))))) (.leaf [q12])) (.new 1000 q19 (.leaf [q12]))) (.br (.v 2) (.new 1000
 (t6 (.b .psub .i64 (.v 0) (t6 (.b .pmul .i64 q17 (.v 1))))) (.leaf [q12])) (.new 1000 (t3 q17) (.leaf [q13]))))) (.br (te (.v 1) (.c 0)) (.bad 3) (.br q6 (.br (.v 2) (.new 1000 (t6 (.b .psub .i64 (.v 0) (t6 (.b .pmul .i64 q22 (.v 1))))) (.leaf [q12])) (.new 1000 q22 (.leaf [q12]))) (.br (.v 2) (.new 1000 (t6 (.b .psub .i64 (.v 0) (t6 (.b .pmul .i64 q20 (.v 1))))) (.leaf [q12])) (.leaf [(t3 q20)]))))))


def P (a b c : Int) : Prop :=
 (Pb (Pl a 0) (Pb (Pl b 0) (Pb (Pe (0 - b) 0) False (Pb (Pd (Pe (Pl a 0) 0) (Pe (Pl b 0) 0)) (Pb c (Pn (W6 (a - (W6 ((W6 (0 - (BO.ev .quo .i64 (0 - a) (0 - b)))) * b)))) (-9223372036854775808) 9223372036854775807 fun y0 => (((W3 y0) : Int) = (aluV (iteZ (Pe c 0) 22 23) a b) ∧ True)) (Pn (W6 (0 - (BO.ev .quo .i64 (0 - a) (0 - b)))) (-9223372036854775808) 9223372036854775807 fun y0 => (((W3 y0) : Int) = (aluV (iteZ (Pe c 0) 22 23) a b) ∧ True))) (Pb c (Pn (W6 (a - (W6 ((BO.ev .quo .i64 (0 - a) (0 - b)) * b)))) (-9223372036854775808) 9223372036854775807 fun y0 => (((W3 y0) : Int) = (aluV (iteZ (Pe c 0) 22 23) a b) ∧ True)) (Pn (W3 (BO.ev .quo .i64 (0 - a) (0 - b))) (-2147483648) 2147483647 fun y0 => ((y0 : Int) = (aluV (iteZ (Pe c 0) 22 23) a b) ∧ True))))) (Pb (Pe b 0) False (Pb (Pd (Pe (Pl
 a 0) 0) (Pe (Pl b 0) 0)) (Pb c (Pn (W6 (a - (W6 ((W6 (0 - (BO.ev .quo .i64 (0 - a) b))) * b)))) (-9223372036854775808) 9223372036854775807 fun y0 => (((W3 y0) : Int) = (aluV (iteZ (Pe c 0) 22 23) a b) ∧ True)) (Pn (W6 (0 - (BO.ev .quo .i64 (0 - a) b))) (-9223372036854775808) 9223372036854775807 fun y0 => (((W3 y0) : Int) = (aluV (iteZ (Pe c 0) 22 23) a b) ∧ True))) (Pb c (Pn (W6 (a - (W6 ((BO.ev .quo .i64 (0 - a) b) * b)))) (-9223372036854775808) 9223372036854775807 fun y0 => (((W3 y0) : Int) = (aluV (iteZ (Pe c 0) 22 23) a b) ∧ True)) (Pn (W3 (BO.ev .quo .i64 (0 - a) b)) (-2147483648) 2147483647 fun y0 => ((y0 : Int) = (aluV (iteZ (Pe c 0) 22 23) a b) ∧ True)))))) (Pb (Pl b 0) (Pb (Pe (0 - b) 0) False (Pb (Pd (Pe (Pl a 0) 0) (Pe (Pl b 0) 0)) (Pb c (Pn (W6 (a - (W6 ((W6 (0 - (BO.ev .quo
 .i64 a (0 - b)))) * b)))) (-9223372036854775808) 9223372036854775807 fun y0 => (((W3 y0) : Int) = (aluV (iteZ (Pe c 0) 22 23) a b) ∧ True)) (Pn (W6 (0 - (BO.ev .quo .i64 a (0 - b)))) (-9223372036854775808) 9223372036854775807 fun y0 => (((W3 y0) : Int) = (aluV (iteZ (Pe c 0) 22 23) a b) ∧ True))) (Pb c (Pn (W6 (a - (W6 ((BO.ev .quo .i64 a (0 - b)) * b)))) (-9223372036854775808) 9223372036854775807 fun y0 => (((W3 y0) : Int) = (aluV (iteZ (Pe c 0) 22 23) a b) ∧ True)) (Pn (W3 (BO.ev .quo .i64 a (0 - b))) (-2147483648) 2147483647 fun y0 => ((y0 : Int) = (aluV (iteZ (Pe c 0) 22 23) a b) ∧ True))))) (Pb (Pe b 0) False (Pb (Pd (Pe (Pl a 0) 0) (Pe (Pl b 0) 0)) (Pb c (Pn (W6 (a - (W6 ((W6 (0 - (BO.ev .quo .i64 a b))) * b)))) (-9223372036854775808) 9223372036854775807 fun y0 => (((W3 y0) : Int)
 = (aluV (iteZ (Pe c 0) 22 23) a b) ∧ True)) (Pn (W6 (0 - (BO.ev .quo .i64 a b))) (-9223372036854775808) 9223372036854775807 fun y0 => (((W3 y0) : Int) = (aluV (iteZ (Pe c 0) 22 23) a b) ∧ True))) (Pb c (Pn (W6 (a - (W6 ((BO.ev .quo .i64 a b) * b)))) (-9223372036854775808) 9223372036854775807 fun y0 => (((W3 y0) : Int) = (aluV (iteZ (Pe c 0) 22 23) a b) ∧ True)) (((W3 (BO.ev .quo .i64 a b)) : Int) = (aluV (iteZ (Pe c 0) 22 23) a b) ∧ True))))))

theorem nbq (x : Int) : bool01 (bool01 (decide (x < 0)) == 0) = if x < 0 then 0 else 1 := by by_cases h : x < 0 <;> simp [bool01, h]
theorem one_zero : ((1 : Int) = 0) = False := by simp
theorem zero_one : ((0 : Int) = 1) = False := by simp
theorem holds (p0 p1 p2 : Int) (l_p0 : -2147483648 ≤ p0) (u_p0 : p0 ≤ 2147483647) (l_p1 : -2147483648 ≤ p1) (u_p1 : p1 ≤ 2147483647) (l_p2 : 0 ≤ p2) (u_p2 : p2 ≤ 1) (h_pre0 : p1 ≠ 0) : P p0 p1 p2 := by
  delta P Pb Pn Pl Pe Pd W6 W3
  have hD : -2147483648 ≤ p0.tdiv p1 ∧ p0.tdiv p1 ≤ 2147483648 := by
    have h1 : (p0.tdiv p1).natAbs ≤ p0.natAbs := by rw [Int.natAbs_tdiv]; exact Nat.div_le_self _ _
    omega
  have hE : -2147483648 ≤ p0 - p0.tdiv p1 * p1 ∧ p0 - p0.tdiv p1 * p1 ≤ 2147483648 := by
    have h1 : p0 - p0.tdiv p1 * p1 = p0.tmod p1 := by rw [Int.tmod_def, Int.mul_comm]
    have h2 : (p0.tmod p1).natAbs ≤ p0.natAbs := by rw [Int.natAbs_tmod]; exact Nat.mod_le _ _
    omega
  have t1 : BO.ev .quo .i64 (0 - p0) (0 - p1) = p0.tdiv p1 := by
    show IntKind.wrap .i64 ((0 - p0).tdiv (0 - p1)) = _
    rw [Int.zero_sub, Int.zero_sub, Int.neg_tdiv, Int.tdiv_neg, Int.neg_neg, w64 (by omega) (by omega)]
  have t2 : BO.ev .quo .i64 (0 - p0) p1 = -(p0.tdiv p1) := by
    show IntKind.wrap .i64 ((0 - p0).tdiv p1) = _
    rw [Int.zero_sub, Int.neg_tdiv, w64 (by omega) (by omega)]
  have t3 : BO.ev .quo .i64 p0 (0 - p1) = -(p0.tdiv p1) := by
    show IntKind.wrap .i64 (p0.tdiv (0 - p1)) = _
    rw [Int.zero_sub, Int.tdiv_neg, w64 (by omega) (by omega)]
  have t4 : BO.ev .quo .i64 p0 p1 = p0.tdiv p1 := w64 (by omega) (by omega)
  have r22 : aluV 22 p0 p1 = IntKind.wrap .i32 (p0.tdiv p1) := by
    rw [aluV_of (by unfold aluP; omega) l_p0 u_p0 l_p1 u_p1, ← t4]; rfl
  have r23 : aluV 23 p0 p1 = IntKind.wrap .i32 (p0 - p0.tdiv p1 * p1) := by
    have : aluX 23 p0 p1 = IntKind.wrap .i32 (p0 - IntKind.wrap .i64 (BO.ev .quo .i64 p0 p1 * p1)) := rfl
    rw [aluV_of (by unfold aluP; omega) l_p0 u_p0 l_p1 u_p1, this, t4, w64 (x := p0.tdiv p1 * p1) (by omega) (by omega)]
  have m1 : IntKind.wrap .i64 (p0.tdiv p1 * p1) = p0.tdiv p1 * p1 := w64 (by omega) (by omega)
  have m2 : IntKind.wrap .i64 (p0 - p0.tdiv p1 * p1) = p0 - p0.tdiv p1 * p1 := w64 (by omega) (by omega)
  have m3 : IntKind.wrap .i64 (p0.tdiv p1) = p0.tdiv p1 := w64 (by omega) (by omega)
  have m4 : (0 : Int) - -(p0.tdiv p1) = p0.tdiv p1 := by omega
  simp only [nbq, t1, t2, t3, t4]
  simp only [b01_eq, decide_eq_true_eq, decide_eq_false_iff_not, beq_iff_eq, beq_eq_false_iff_ne, bne_iff_ne, bne_eq_false_iff_eq, Int.not_le, Int.not_lt, true_and, and_true, iteZ_ne, ne_eq, Bool.not_eq_false, Bool.not_eq_true, not_true_eq_false, not_false_eq_true, Decidable.not_not, forall_const, false_implies, true_iff, iff_true, false_iff, iff_false, Int.reduceEq, Int.reduceNeg, eq_self, if_true, if_false, reduceIte]
  refine ⟨fun c1 => ⟨fun c2 => ⟨fun h => by omega, fun _ => ?_⟩, fun c2 => ⟨fun h => h_pre0 h, fun _ => ?_⟩⟩, fun c1 => ⟨fun c2 => ⟨fun h => by omega, fun _ => ?_⟩, fun c2 => ⟨fun h => h_pre0 h, fun _ => ?_⟩⟩⟩
  · simp only [if_pos c1, if_pos c2, not_true_eq_false, false_implies, true_and, forall_const]
    refine ⟨fun h => ?_, fun h => ?_⟩
    · rintro _ rfl _; rw [if_neg h, m1, m2, r23]
    · rintro _ rfl _; rw [if_pos h, r22]
  · simp only [if_pos c1, if_neg (show ¬ p1 < 0 by omega), zero_one, not_false_eq_true, forall_const, false_implies, and_true]
    refine ⟨fun h => ?_, fun h => ?_⟩
    · rintro _ rfl _; rw [if_neg h, m4, m3, m1, m2, r23]
    · rintro _ rfl _; rw [if_pos h, m4, m3, r22]
  · simp only [if_neg (show ¬ p0 < 0 by omega), if_pos c2, one_zero, not_false_eq_true, forall_const, false_implies, and_true]
    refine ⟨fun h => ?_, fun h => ?_⟩
    · rintro _ rfl _; rw [if_neg h, m4, m3, m1, m2, r23]
    · rintro _ rfl _; rw [if_pos h, m4, m3, r22]
  · simp only [if_neg (show ¬ p0 < 0 by omega), if_neg (show ¬ p1 < 0 by omega), not_true_eq_false, false_implies, true_and, forall_const]
    refine ⟨fun h => ?_, fun h => ?_⟩
    · rintro _ rfl _; rw [if_neg h, m1, m2, r23]
    · rw [if_pos h, r22]

theorem plain (i v ro p) : statR 2 rc tree ⟨i, fN, v, ro, p⟩ = P (i 0) (i 1) (i 2) := by kernel_rfl
theorem ran : ranR us (fun _ _ => .auto) rc 2 tree = true := by kernel_rfl
theorem fineT : fineR 2 rc tree = true := by kernel_rfl
theorem ok : RcOk (cxOf 2) rc := okR us_ok ran fineT okb fun i v ro p hρ hcap hpre => by rw [plain]; exact holds (i 0) (i 1) (i 2) (hρ.hi 0 _ rfl).1 (hρ.hi 0 _ rfl).2 (hρ.hi 1 _ rfl).1 (hρ.hi 1 _ rfl).2 (hρ.hi 2 _ rfl).1 (hρ.hi 2 _ rfl).2 (hpre _ (List.mem_of_getElem? (i := 0) rfl))
end Go.Proofs.YtbfgkimoobkpmaaGreatDoor.CRQuot
