/-
  What astrolaberef05.Mulr answers, as numbers of what it is handed: its run by the engine, and the plain statement behind it. No condition.
-/
import Derived.Test.YtbfgkimoobkpmaaGreatDoorGab
import Derived.Test.YtbfgkimoobkpmaaGreatDoorGmD
namespace Go.Proofs.YtbfgkimoobkpmaaGreatDoor.CRMulr
open Go.Eng Go.RowKit
set_option linter.unusedVariables false
set_option linter.unusedSimpArgs false
set_option maxRecDepth 100000
def rc : Rc := ⟨107, [none, none], [.int .i32, .int .i32], [], .one, [.int .i32 (.f 63 (.c 21) (.v 0) (.v 1))]⟩
theorem okb : rc.ok = true := by kernel_rfl
noncomputable def us : SMs := fun Γ ins n => smH (cxG n Γ ins) [] (smR (cxG n Γ ins) [])
theorem us_ok : SMsOk us := fun Γ ins n => smH_ok (tabsG n Γ ins) (rhs_nil _) (smR_ok (tabsG n Γ ins) (rcs_nil _))
def q0 : E := (.b .pmul .i64 (.v 0) (.v 1))
def q1 : E := (.b .rem .i64 q0 (.c 65536))
def q2 : E := (tp q1 (.c 65536))
def q3 : E := (.b .psub .i64 q0 q2)
def q4 : E := (.b .quo .i64 q3 (.c 65536))
def q5 : E := (tp q4 (.c 1))
def q6 : E := (t6 q5)
def q7 : E := (.b .psub .i64 q0 q1)
def q8 : E := (.b .quo .i64 q7 (.c 65536))
def q9 : E := (tp q8 (.c 1))
def q10 : E := (t6 q9)
def tree : TT (List E) :=
 (.br (tk q1 (.c 0)) (.br (tl (.c 32768) q2) (.br (tk q6 (.c (-2147483648))) (.leaf [(.c (-2147483648))]) (.br (tk (.c 2147483647) q6) (.leaf [(.c 2147483647)]) (.leaf [(t3 q5)]))) (.br (tk q4 (.c (-2147483648))) (.leaf [(.c (-2147483648))]) (.br (tk (.c 2147483647) q4) (.leaf [(.c 2147483647)]) (.leaf [(t3 q4)])))) (.br (tl (.c 32768) q1) (.br (tk q10 (.c (-2147483648))) (.leaf [(.c (-2147483648))]) (.br (tk (.c 2147483647) q10) (.leaf [(.c 2147483647)]) (.leaf [(t3 q9)]))) (.br (tk q8 (.c (-2147483648))) (.leaf [(.c (-2147483648))]) (.br (tk (.c 2147483647) q8) (.leaf [(.c 2147483647)]) (.leaf [(t3 q8)])))))

noncomputable def sq0 (a b : Int) : Int := (BO.ev .quo .i64 ((a * b) - ((BO.ev .rem .i64 (a * b) 65536) + 65536)) 65536)
noncomputable def sq1 (a b : Int) : Int := (BO.ev .quo .i64 ((a * b) - (BO.ev .rem .i64 (a * b) 65536)) 65536)
def P (a b : Int) : Prop :=
 (Pb (Pl (BO.ev .rem .i64 (a * b) 65536) 0) (Pb (PL 32768 ((BO.ev .rem .i64 (a * b) 65536) + 65536)) (Pb (Pl (W6 ((sq0 a b) + 1)) (-2147483648)) (((-2147483648) : Int) = (aluV 21 a b) ∧ True) (Pb (Pl 2147483647 (W6 ((sq0 a b) + 1))) ((2147483647 : Int) = (aluV 21 a b) ∧ True) (((W3 ((sq0 a b) + 1)) : Int) = (aluV 21 a b) ∧ True))) (Pb (Pl (sq0 a b) (-2147483648)) (((-2147483648) : Int) = (aluV 21 a b) ∧ True) (Pb (Pl 2147483647 (sq0 a b)) ((2147483647 : Int) = (aluV 21 a b) ∧ True) (((W3 (sq0 a b)) : Int) = (aluV 21 a b) ∧ True)))) (Pb (PL 32768 (BO.ev .rem .i64 (a * b) 65536)) (Pb (Pl (W6 ((sq1 a b) + 1)) (-2147483648)) (((-2147483648) : Int) = (aluV 21 a b) ∧ True) (Pb (Pl 2147483647 (W6 ((sq1 a b) + 1))) ((2147483647 : Int) = (aluV 21 a b) ∧ True) (((W3 ((sq1 a b) + 1)) : Int) = (aluV
 21 a b) ∧ True))) (Pb (Pl (sq1 a b) (-2147483648)) (((-2147483648) : Int) = (aluV 21 a b) ∧ True) (Pb (Pl 2147483647 (sq1 a b)) ((2147483647 : Int) = (aluV 21 a b) ∧ True) (((W3 (sq1 a b)) : Int) = (aluV 21 a b) ∧ True)))))

theorem sat_form (m : Int) : BO.ev .min .i64 (BO.ev .max .i64 m (-2147483648)) 2147483647 = if m < -2147483648 then -2147483648 else if 2147483647 < m then 2147483647 else m := by
  simp only [BO.ev]
  repeat' split
  all_goals omega
theorem andOne (x : Int) : BO.ev .and .i64 x 1 = x % 2 := by
  show IntKind.wrap .i64 ((BitVec.ofInt 64 x &&& BitVec.ofInt 64 1).toNat : Int) = _
  have e2 : (BitVec.ofInt 64 1).toNat = 2 ^ 1 - 1 := by decide
  rw [BitVec.toNat_and, e2, Nat.and_two_pow_sub_one_eq_mod]
  have e1 : ((BitVec.ofInt 64 x).toNat : Int) = x % 18446744073709551616 := by
    rw [BitVec.toNat_ofInt]
    have h : (((2 ^ 64 : Nat)) : Int) = 18446744073709551616 := by decide
    rw [h]; omega
  have e3 : (((BitVec.ofInt 64 x).toNat % 2 ^ 1 : Nat) : Int) = x % 2 := by omega
  rw [e3]
  exact w64 (by omega) (by omega)
theorem tmM (x : Int) : BO.ev .rem .i64 x 65536 = if 0 ≤ x then x % 65536 else -((-x) % 65536) := by
  show x.tmod 65536 = _
  split
  · exact Int.tmod_eq_emod_of_nonneg (by assumption)
  · rename_i h
    rw [← Int.neg_neg x, Int.neg_tmod, Int.tmod_eq_emod_of_nonneg (by omega), Int.neg_neg]
theorem tdM {x : Int} (h1 : -9223372036854775808 ≤ x) (h2 : x ≤ 9223372036854775807) : BO.ev .quo .i64 x 65536 = if 0 ≤ x then x / 65536 else -((-x) / 65536) := by
  show IntKind.wrap .i64 (x.tdiv 65536) = _
  have e : x.tdiv 65536 = if 0 ≤ x then x / 65536 else -((-x) / 65536) := by
    split
    · exact Int.tdiv_eq_ediv_of_nonneg (by assumption)
    · rename_i h
      rw [← Int.neg_neg x, Int.neg_tdiv, Int.tdiv_eq_ediv_of_nonneg (by omega), Int.neg_neg]
  rw [e, w64 (by split <;> omega) (by split <;> omega)]
theorem aluM {x n : Int} (x1 : -2147483648 ≤ x) (x2 : x ≤ 2147483647) (n1 : -2147483648 ≤ n) (n2 : n ≤ 2147483647) : aluV 21 x n = (let m := x * n / 65536 + x * n / 32768 % 2; if m < -2147483648 then -2147483648 else if 2147483647 < m then 2147483647 else m) := by
  rw [aluV_of (aluP_9 (by decide) (by decide) (by decide) (by decide)) x1 x2 n1 n2]
  unfold aluX
  simp only [Int.reduceEq, if_false, if_true]
  rw [sat_form, andOne, shr_ev, shr_ev]; rfl
theorem holds (p0 p1 : Int) (l_p0 : -2147483648 ≤ p0) (u_p0 : p0 ≤ 2147483647) (l_p1 : -2147483648 ≤ p1) (u_p1 : p1 ≤ 2147483647) : P p0 p1 := by
  delta P sq0 sq1 Pb PL Pl W6 W3
  have hm := mul_in l_p0 u_p0 l_p1 u_p1
  rw [aluM l_p0 u_p0 l_p1 u_p1]
  generalize p0 * p1 = q at *
  have r0 := tmM q
  have d1 : BO.ev .rem .i64 q 65536 < 0 → BO.ev .quo .i64 (q - (BO.ev .rem .i64 q 65536 + 65536)) 65536 = q / 65536 := fun h => by rw [tdM (by rw [r0] at h ⊢; split at h <;> omega) (by rw [r0] at h ⊢; split at h <;> omega), r0]; rw [r0] at h; split at h <;> split <;> omega
  have d2 : 0 ≤ BO.ev .rem .i64 q 65536 → BO.ev .quo .i64 (q - BO.ev .rem .i64 q 65536) 65536 = q / 65536 := fun h => by rw [tdM (by rw [r0] at h ⊢; split at h <;> omega) (by rw [r0] at h ⊢; split at h <;> omega), r0]; rw [r0] at h; split at h <;> split <;> omega
  have r1 : BO.ev .rem .i64 q 65536 < 0 → BO.ev .rem .i64 q 65536 + 65536 = q % 65536 := fun h => by rw [r0] at h ⊢; split at h <;> omega
  have r2 : 0 ≤ BO.ev .rem .i64 q 65536 → BO.ev .rem .i64 q 65536 = q % 65536 := fun h => by rw [r0] at h ⊢; split at h <;> omega
  have w1 : IntKind.wrap .i64 (q / 65536 + 1) = q / 65536 + 1 := w64 (by omega) (by omega)
  have w2 : ∀ x : Int, ¬ x < -2147483648 → ¬ 2147483647 < x → IntKind.wrap .i32 x = x := fun x h1 h2 => wi32 (by omega) (by omega)
  simp only [b01_eq, decide_eq_true_eq, decide_eq_false_iff_not, beq_iff_eq, beq_eq_false_iff_ne, bne_iff_ne, bne_eq_false_iff_eq, Int.not_le, Int.not_lt, true_and, and_true, iteZ_ne, ne_eq, Bool.not_eq_false, Bool.not_eq_true, not_true_eq_false, not_false_eq_true, Decidable.not_not, forall_const, false_implies, true_iff, iff_true, false_iff, iff_false, Int.reduceEq, Int.reduceNeg, eq_self, if_true, if_false, reduceIte]
  generalize BO.ev .rem .i64 q 65536 = r at *
  refine ⟨fun h => ?_, fun h => ?_⟩
  · rw [d1 h, r1 h, w1]
    refine ⟨fun h2 => ⟨fun h3 => ?_, fun h3 => ⟨fun h4 => ?_, fun h4 => ?_⟩⟩, fun h2 => ⟨fun h3 => ?_, fun h3 => ⟨fun h4 => ?_, fun h4 => ?_⟩⟩⟩
    all_goals first | (rw [w2 _ (by omega) (by omega)]; repeat' split) | (repeat' split)
    all_goals omega
  · rw [d2 h, r2 h, w1]
    refine ⟨fun h2 => ⟨fun h3 => ?_, fun h3 => ⟨fun h4 => ?_, fun h4 => ?_⟩⟩, fun h2 => ⟨fun h3 => ?_, fun h3 => ⟨fun h4 => ?_, fun h4 => ?_⟩⟩⟩
    all_goals first | (rw [w2 _ (by omega) (by omega)]; repeat' split) | (repeat' split)
    all_goals omega

theorem plain (i v ro p) : statR 2 rc tree ⟨i, fN, v, ro, p⟩ = P (i 0) (i 1) := by kernel_rfl
theorem ran : ranR us (fun f _ => if [134].contains f then .unroll 40 else .auto) rc 2 tree = true := by kernel_rfl
theorem fineT : fineR 2 rc tree = true := by kernel_rfl
theorem ok : RcOk (cxOf 2) rc := okR us_ok ran fineT okb fun i v ro p hρ hcap hpre => by rw [plain]; exact holds (i 0) (i 1) (hρ.hi 0 _ rfl).1 (hρ.hi 0 _ rfl).2 (hρ.hi 1 _ rfl).1 (hρ.hi 1 _ rfl).2
end Go.Proofs.YtbfgkimoobkpmaaGreatDoor.CRMulr
