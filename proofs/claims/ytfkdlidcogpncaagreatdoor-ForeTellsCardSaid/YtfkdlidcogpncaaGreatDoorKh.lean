/-
  What functions of the program answer, as numbers of what they are handed: their runs by the engine, the plain statements behind them. No condition.
-/
import Derived.Test.YtfkdlidcogpncaaGreatDoorKd
import Derived.Test.YtfkdlidcogpncaaGreatDoorKe
import Derived.Test.YtfkdlidcogpncaaGreatDoorKf
import Derived.Test.YtfkdlidcogpncaaGreatDoorGab
import Derived.Test.YtfkdlidcogpncaaGreatDoorGmD
set_option linter.unusedVariables false
set_option linter.unusedSimpArgs false
set_option maxRecDepth 100000
namespace Go.Proofs.YtfkdlidcogpncaaGreatDoor
open Go.Eng Go.RowKit
namespace CRMulq
def rc : Rc := ⟨105, [none, none], [.int .i32, .int .i32], [], .one, [.int .i32 (.f 63 (.c 20) (.v 0) (.v 1))]⟩
theorem okb : rc.ok = true := by kernel_rfl
noncomputable def us : SMs := fun Γ ins n => smH (cxG n Γ ins) [] (smR (cxG n Γ ins) [])
theorem us_ok : SMsOk us := fun Γ ins n => qQp (tabsG n Γ ins) (qQa _) (qQn (tabsG n Γ ins) (qQb _))
def Q0 : E := (.b .pmul .i64 (.v 0) (.v 1))
def Q1 : E := (.b .rem .i64 Q0 (.c 1073741824))
def Q2 : E := (tp Q1 (.c 1073741824))
def Q3 : E := (.b .psub .i64 Q0 Q2)
def Q4 : E := (.b .quo .i64 Q3 (.c 1073741824))
def Q5 : E := (tp Q4 (.c 1))
def Q6 : E := (t6 Q5)
def Q7 : E := (.b .psub .i64 Q0 Q1)
def Q8 : E := (.b .quo .i64 Q7 (.c 1073741824))
def Q9 : E := (tp Q8 (.c 1))
def Q10 : E := (t6 Q9)
def tree : TT (List E) :=
 (.br (tk Q1 (.c 0)) (.br (tl (.c 536870912) Q2) (.br (tk Q6 (.c (-2147483648))) (.leaf [(.c (-2147483648))]) (.br (tk (.c 2147483647) Q6) (.leaf [(.c 2147483647)]) (.leaf [(t3 Q5)]))) (.br (tk Q4 (.c (-2147483648))) (.leaf [(.c (-2147483648))]) (.br (tk (.c 2147483647) Q4) (.leaf [(.c 2147483647)]) (.leaf [(t3 Q4)])))) (.br (tl (.c 536870912) Q1) (.br (tk Q10 (.c (-2147483648))) (.leaf [(.c (-2147483648))]) (.br (tk (.c 2147483647) Q10) (.leaf [(.c 2147483647)]) (.leaf [(t3 Q9)]))) (.br (tk Q8 (.c (-2147483648))) (.leaf [(.c (-2147483648))]) (.br (tk (.c 2147483647) Q8) (.leaf [(.c 2147483647)]) (.leaf [(t3 Q8)])))))
noncomputable def sq0 (a b : Int) : Int := (BO.ev .quo .i64 ((a * b) - ((BO.ev .rem .i64 (a * b) 1073741824) + 1073741824)) 1073741824)
noncomputable def sq1 (a b : Int) : Int := (BO.ev .quo .i64 ((a * b) - (BO.ev .rem .i64 (a * b) 1073741824)) 1073741824)
def sL0 (a b z0 : Int) : Prop := (z0 : Int) = (aluV 20 a b) ∧ True
def P (a b : Int) : Prop :=
 (Pb (Pl (BO.ev .rem .i64 (a * b) 1073741824) 0) (Pb (PL 536870912 ((BO.ev .rem .i64 (a * b) 1073741824) + 1073741824)) (Pb (Pl (W6 ((sq0 a b) + 1)) (-2147483648)) (((-2147483648) : Int) = (aluV 20 a b) ∧ True) (Pb (Pl 2147483647 (W6 ((sq0 a b) + 1))) ((2147483647 : Int) = (aluV 20 a b) ∧ True) (sL0 a b (W3 ((sq0 a b) + 1))))) (Pb (Pl (sq0 a b) (-2147483648)) (((-2147483648) : Int) = (aluV 20 a b) ∧ True) (Pb (Pl 2147483647 (sq0 a b)) ((2147483647 : Int) = (aluV 20 a b) ∧ True) (sL0 a b (W3 (sq0 a b)))))) (Pb (PL 536870912 (BO.ev .rem .i64 (a * b) 1073741824)) (Pb (Pl (W6 ((sq1 a b) + 1)) (-2147483648)) (((-2147483648) : Int) = (aluV 20 a b) ∧ True) (Pb (Pl 2147483647 (W6 ((sq1 a b) + 1))) ((2147483647 : Int) = (aluV 20 a b) ∧ True) (sL0 a b (W3 ((sq1 a b) + 1))))) (Pb (Pl (sq1 a b)
 (-2147483648)) (((-2147483648) : Int) = (aluV 20 a b) ∧ True) (Pb (Pl 2147483647 (sq1 a b)) ((2147483647 : Int) = (aluV 20 a b) ∧ True) (((W3 (sq1 a b)) : Int) = (aluV 20 a b) ∧ True)))))
theorem sat_form (m : Int) : BO.ev .min .i64 (BO.ev .max .i64 m (-2147483648)) 2147483647 = if m < -2147483648 then -2147483648 else if 2147483647 < m then 2147483647 else m := by
 simp only [BO.ev]
 repeat' split
 all_goals omega
theorem andOne (x : Int) : BO.ev .and .i64 x 1 = x % 2 := by
 show IntKind.wrap .i64 ((BitVec.ofInt 64 x &&& BitVec.ofInt 64 1).toNat : Int) = _
 have e2 : (BitVec.ofInt 64 1).toNat = 2 ^ 1 - 1 := by decide
 rw [BitVec.toNat_and, e2, Nat.and_two_pow_sub_one_eq_mod]
 have e1 : ((BitVec.ofInt 64 x).toNat : Int) = x % 18446744073709551616 := by
  rw [BitVec.toNat_ofInt]
  have h : (((2 ^ 64 : Nat)) : Int) = 18446744073709551616 := by decide
  rw [h]; omega
 have e3 : (((BitVec.ofInt 64 x).toNat % 2 ^ 1 : Nat) : Int) = x % 2 := by omega
 rw [e3]
 exact w64 (by omega) (by omega)
theorem tmM (x : Int) : BO.ev .rem .i64 x 1073741824 = if 0 ≤ x then x % 1073741824 else -((-x) % 1073741824) := by
 show x.tmod 1073741824 = _
 split
 ·exact Int.tmod_eq_emod_of_nonneg (by assumption)
 ·rename_i h
  rw [← Int.neg_neg x, Int.neg_tmod, Int.tmod_eq_emod_of_nonneg (by omega), Int.neg_neg]
theorem tdM {x : Int} (h1 : -9223372036854775808 ≤ x) (h2 : x ≤ 9223372036854775807) : BO.ev .quo .i64 x 1073741824 = if 0 ≤ x then x / 1073741824 else -((-x) / 1073741824) := by
 show IntKind.wrap .i64 (x.tdiv 1073741824) = _
 have e : x.tdiv 1073741824 = if 0 ≤ x then x / 1073741824 else -((-x) / 1073741824) := by
  split
  ·exact Int.tdiv_eq_ediv_of_nonneg (by assumption)
  ·rename_i h
   rw [← Int.neg_neg x, Int.neg_tdiv, Int.tdiv_eq_ediv_of_nonneg (by omega), Int.neg_neg]
 rw [e, w64 (by split <;> omega) (by split <;> omega)]
theorem aluM {x n : Int} (x1 : -2147483648 ≤ x) (x2 : x ≤ 2147483647) (n1 : -2147483648 ≤ n) (n2 : n ≤ 2147483647) : aluV 20 x n = (let m := x * n / 1073741824 + x * n / 536870912 % 2; if m < -2147483648 then -2147483648 else if 2147483647 < m then 2147483647 else m) := by
 rw [qJq (qKk (by decide) (by decide) (by decide) (by decide)) x1 x2 n1 n2]
 unfold aluX
 simp only [Int.reduceEq, if_false, if_true]
 rw [sat_form, andOne, qXg, qXg]; rfl
theorem holds (p0 p1 : Int) (l_p0 : -2147483648 ≤ p0) (u_p0 : p0 ≤ 2147483647) (l_p1 : -2147483648 ≤ p1) (u_p1 : p1 ≤ 2147483647) : P p0 p1 := by
 delta P sq0 sq1 sL0 Pb PL Pl W6 W3
 have hm := mul_in l_p0 u_p0 l_p1 u_p1
 rw [aluM l_p0 u_p0 l_p1 u_p1]
 generalize p0 * p1 = q at *
 have r0 := tmM q
 have d1 : BO.ev .rem .i64 q 1073741824 < 0 → BO.ev .quo .i64 (q - (BO.ev .rem .i64 q 1073741824 + 1073741824)) 1073741824 = q / 1073741824 := fun h => by rw [tdM (by rw [r0] at h ⊢; split at h <;> omega) (by rw [r0] at h ⊢; split at h <;> omega), r0]; rw [r0] at h; split at h <;> split <;> omega
 have d2 : 0 ≤ BO.ev .rem .i64 q 1073741824 → BO.ev .quo .i64 (q - BO.ev .rem .i64 q 1073741824) 1073741824 = q / 1073741824 := fun h => by rw [tdM (by rw [r0] at h ⊢; split at h <;> omega) (by rw [r0] at h ⊢; split at h <;> omega), r0]; rw [r0] at h; split at h <;> split <;> omega
 have r1 : BO.ev .rem .i64 q 1073741824 < 0 → BO.ev .rem .i64 q 1073741824 + 1073741824 = q % 1073741824 := fun h => by rw [r0] at h ⊢; split at h <;> omega
 have r2 : 0 ≤ BO.ev .rem .i64 q 1073741824 → BO.ev .rem .i64 q 1073741824 = q % 1073741824 := fun h => by rw [r0] at h ⊢; split at h <;> omega
 have w1 : IntKind.wrap .i64 (q / 1073741824 + 1) = q / 1073741824 + 1 := w64 (by omega) (by omega)
 have w2 : ∀ x : Int, ¬ x < -2147483648 → ¬ 2147483647 < x → IntKind.wrap .i32 x = x := fun x h1 h2 => wi32 (by omega) (by omega)
 simp only [nrm, Int.reduceEq, Int.reduceNeg, reduceIte]
 generalize BO.ev .rem .i64 q 1073741824 = r at *
 refine ⟨fun h => ?_, fun h => ?_⟩
 ·rw [d1 h, r1 h, w1]
  refine ⟨fun h2 => ⟨fun h3 => ?_, fun h3 => ⟨fun h4 => ?_, fun h4 => ?_⟩⟩, fun h2 => ⟨fun h3 => ?_, fun h3 => ⟨fun h4 => ?_, fun h4 => ?_⟩⟩⟩
  all_goals first | (rw [w2 _ (by omega) (by omega)]; repeat' split) | (repeat' split)
  all_goals omega
 ·rw [d2 h, r2 h, w1]
  refine ⟨fun h2 => ⟨fun h3 => ?_, fun h3 => ⟨fun h4 => ?_, fun h4 => ?_⟩⟩, fun h2 => ⟨fun h3 => ?_, fun h3 => ⟨fun h4 => ?_, fun h4 => ?_⟩⟩⟩
  all_goals first | (rw [w2 _ (by omega) (by omega)]; repeat' split) | (repeat' split)
  all_goals omega
theorem plain (i v ro p) : statR 2 rc tree ⟨i, fN, v, ro, p⟩ = P (i 0) (i 1) := by kernel_rfl
theorem ran : ranR us (fun f _ => if [145].contains f then .unroll 400 else .auto) rc 2 tree = true := by kernel_rfl
theorem fineT : fineR 2 rc tree = true := by kernel_rfl
theorem ok : RcOk (cxOf 2) rc := okR us_ok ran fineT okb fun i v ro p hρ hcap hpre => by rw [plain]; have q := hρ.hi; exact holds _ _ (q 0 _ rfl).1 (q 0 _ rfl).2 (q 1 _ rfl).1 (q 1 _ rfl).2
end CRMulq
namespace CRMulr
def rc : Rc := ⟨106, [none, none], [.int .i32, .int .i32], [], .one, [.int .i32 (.f 63 (.c 21) (.v 0) (.v 1))]⟩
theorem okb : rc.ok = true := by kernel_rfl
noncomputable def us : SMs := fun Γ ins n => smH (cxG n Γ ins) [] (smR (cxG n Γ ins) [])
theorem us_ok : SMsOk us := fun Γ ins n => qQp (tabsG n Γ ins) (qQa _) (qQn (tabsG n Γ ins) (qQb _))
def Q0 : E := (.b .pmul .i64 (.v 0) (.v 1))
def Q1 : E := (.b .rem .i64 Q0 (.c 65536))
def Q2 : E := (tp Q1 (.c 65536))
def Q3 : E := (.b .psub .i64 Q0 Q2)
def Q4 : E := (.b .quo .i64 Q3 (.c 65536))
def Q5 : E := (tp Q4 (.c 1))
def Q6 : E := (t6 Q5)
def Q7 : E := (.b .psub .i64 Q0 Q1)
def Q8 : E := (.b .quo .i64 Q7 (.c 65536))
def Q9 : E := (tp Q8 (.c 1))
def Q10 : E := (t6 Q9)
def tree : TT (List E) :=
 (.br (tk Q1 (.c 0)) (.br (tl (.c 32768) Q2) (.br (tk Q6 (.c (-2147483648))) (.leaf [(.c (-2147483648))]) (.br (tk (.c 2147483647) Q6) (.leaf [(.c 2147483647)]) (.leaf [(t3 Q5)]))) (.br (tk Q4 (.c (-2147483648))) (.leaf [(.c (-2147483648))]) (.br (tk (.c 2147483647) Q4) (.leaf [(.c 2147483647)]) (.leaf [(t3 Q4)])))) (.br (tl (.c 32768) Q1) (.br (tk Q10 (.c (-2147483648))) (.leaf [(.c (-2147483648))]) (.br (tk (.c 2147483647) Q10) (.leaf [(.c 2147483647)]) (.leaf [(t3 Q9)]))) (.br (tk Q8 (.c (-2147483648))) (.leaf [(.c (-2147483648))]) (.br (tk (.c 2147483647) Q8) (.leaf [(.c 2147483647)]) (.leaf [(t3 Q8)])))))
noncomputable def sq0 (a b : Int) : Int := (BO.ev .quo .i64 ((a * b) - ((BO.ev .rem .i64 (a * b) 65536) + 65536)) 65536)
noncomputable def sq1 (a b : Int) : Int := (BO.ev .quo .i64 ((a * b) - (BO.ev .rem .i64 (a * b) 65536)) 65536)
def P (a b : Int) : Prop :=
 (Pb (Pl (BO.ev .rem .i64 (a * b) 65536) 0) (Pb (PL 32768 ((BO.ev .rem .i64 (a * b) 65536) + 65536)) (Pb (Pl (W6 ((sq0 a b) + 1)) (-2147483648)) (((-2147483648) : Int) = (aluV 21 a b) ∧ True) (Pb (Pl 2147483647 (W6 ((sq0 a b) + 1))) ((2147483647 : Int) = (aluV 21 a b) ∧ True) (((W3 ((sq0 a b) + 1)) : Int) = (aluV 21 a b) ∧ True))) (Pb (Pl (sq0 a b) (-2147483648)) (((-2147483648) : Int) = (aluV 21 a b) ∧ True) (Pb (Pl 2147483647 (sq0 a b)) ((2147483647 : Int) = (aluV 21 a b) ∧ True) (((W3 (sq0 a b)) : Int) = (aluV 21 a b) ∧ True)))) (Pb (PL 32768 (BO.ev .rem .i64 (a * b) 65536)) (Pb (Pl (W6 ((sq1 a b) + 1)) (-2147483648)) (((-2147483648) : Int) = (aluV 21 a b) ∧ True) (Pb (Pl 2147483647 (W6 ((sq1 a b) + 1))) ((2147483647 : Int) = (aluV 21 a b) ∧ True) (((W3 ((sq1 a b) + 1)) : Int) = (aluV
 21 a b) ∧ True))) (Pb (Pl (sq1 a b) (-2147483648)) (((-2147483648) : Int) = (aluV 21 a b) ∧ True) (Pb (Pl 2147483647 (sq1 a b)) ((2147483647 : Int) = (aluV 21 a b) ∧ True) (((W3 (sq1 a b)) : Int) = (aluV 21 a b) ∧ True)))))
theorem sat_form (m : Int) : BO.ev .min .i64 (BO.ev .max .i64 m (-2147483648)) 2147483647 = if m < -2147483648 then -2147483648 else if 2147483647 < m then 2147483647 else m := by
 simp only [BO.ev]
 repeat' split
 all_goals omega
theorem andOne (x : Int) : BO.ev .and .i64 x 1 = x % 2 := by
 show IntKind.wrap .i64 ((BitVec.ofInt 64 x &&& BitVec.ofInt 64 1).toNat : Int) = _
 have e2 : (BitVec.ofInt 64 1).toNat = 2 ^ 1 - 1 := by decide
 rw [BitVec.toNat_and, e2, Nat.and_two_pow_sub_one_eq_mod]
 have e1 : ((BitVec.ofInt 64 x).toNat : Int) = x % 18446744073709551616 := by
  rw [BitVec.toNat_ofInt]
  have h : (((2 ^ 64 : Nat)) : Int) = 18446744073709551616 := by decide
  rw [h]; omega
 have e3 : (((BitVec.ofInt 64 x).toNat % 2 ^ 1 : Nat) : Int) = x % 2 := by omega
 rw [e3]
 exact w64 (by omega) (by omega)
theorem tmM (x : Int) : BO.ev .rem .i64 x 65536 = if 0 ≤ x then x % 65536 else -((-x) % 65536) := by
 show x.tmod 65536 = _
 split
 ·exact Int.tmod_eq_emod_of_nonneg (by assumption)
 ·rename_i h
  rw [← Int.neg_neg x, Int.neg_tmod, Int.tmod_eq_emod_of_nonneg (by omega), Int.neg_neg]
theorem tdM {x : Int} (h1 : -9223372036854775808 ≤ x) (h2 : x ≤ 9223372036854775807) : BO.ev .quo .i64 x 65536 = if 0 ≤ x then x / 65536 else -((-x) / 65536) := by
 show IntKind.wrap .i64 (x.tdiv 65536) = _
 have e : x.tdiv 65536 = if 0 ≤ x then x / 65536 else -((-x) / 65536) := by
  split
  ·exact Int.tdiv_eq_ediv_of_nonneg (by assumption)
  ·rename_i h
   rw [← Int.neg_neg x, Int.neg_tdiv, Int.tdiv_eq_ediv_of_nonneg (by omega), Int.neg_neg]
 rw [e, w64 (by split <;> omega) (by split <;> omega)]
theorem aluM {x n : Int} (x1 : -2147483648 ≤ x) (x2 : x ≤ 2147483647) (n1 : -2147483648 ≤ n) (n2 : n ≤ 2147483647) : aluV 21 x n = (let m := x * n / 65536 + x * n / 32768 % 2; if m < -2147483648 then -2147483648 else if 2147483647 < m then 2147483647 else m) := by
 rw [qJq (qKk (by decide) (by decide) (by decide) (by decide)) x1 x2 n1 n2]
 unfold aluX
 simp only [Int.reduceEq, if_false, if_true]
 rw [sat_form, andOne, qXg, qXg]; rfl
theorem holds (p0 p1 : Int) (l_p0 : -2147483648 ≤ p0) (u_p0 : p0 ≤ 2147483647) (l_p1 : -2147483648 ≤ p1) (u_p1 : p1 ≤ 2147483647) : P p0 p1 := by
 delta P sq0 sq1 Pb PL Pl W6 W3
 have hm := mul_in l_p0 u_p0 l_p1 u_p1
 rw [aluM l_p0 u_p0 l_p1 u_p1]
 generalize p0 * p1 = q at *
 have r0 := tmM q
 have d1 : BO.ev .rem .i64 q 65536 < 0 → BO.ev .quo .i64 (q - (BO.ev .rem .i64 q 65536 + 65536)) 65536 = q / 65536 := fun h => by rw [tdM (by rw [r0] at h ⊢; split at h <;> omega) (by rw [r0] at h ⊢; split at h <;> omega), r0]; rw [r0] at h; split at h <;> split <;> omega
 have d2 : 0 ≤ BO.ev .rem .i64 q 65536 → BO.ev .quo .i64 (q - BO.ev .rem .i64 q 65536) 65536 = q / 65536 := fun h => by rw [tdM (by rw [r0] at h ⊢; split at h <;> omega) (by rw [r0] at h ⊢; split at h <;> omega), r0]; rw [r0] at h; split at h <;> split <;> omega
 have r1 : BO.ev .rem .i64 q 65536 < 0 → BO.ev .rem .i64 q 65536 + 65536 = q % 65536 := fun h => by rw [r0] at h ⊢; split at h <;> omega
 have r2 : 0 ≤ BO.ev .rem .i64 q 65536 → BO.ev .rem .i64 q 65536 = q % 65536 := fun h => by rw [r0] at h ⊢; split at h <;> omega
 have w1 : IntKind.wrap .i64 (q / 65536 + 1) = q / 65536 + 1 := w64 (by omega) (by omega)
 have w2 : ∀ x : Int, ¬ x < -2147483648 → ¬ 2147483647 < x → IntKind.wrap .i32 x = x := fun x h1 h2 => wi32 (by omega) (by omega)
 simp only [nrm, Int.reduceEq, Int.reduceNeg, reduceIte]
 generalize BO.ev .rem .i64 q 65536 = r at *
 refine ⟨fun h => ?_, fun h => ?_⟩
 ·rw [d1 h, r1 h, w1]
  refine ⟨fun h2 => ⟨fun h3 => ?_, fun h3 => ⟨fun h4 => ?_, fun h4 => ?_⟩⟩, fun h2 => ⟨fun h3 => ?_, fun h3 => ⟨fun h4 => ?_, fun h4 => ?_⟩⟩⟩
  all_goals first | (rw [w2 _ (by omega) (by omega)]; repeat' split) | (repeat' split)
  all_goals omega
 ·rw [d2 h, r2 h, w1]
  refine ⟨fun h2 => ⟨fun h3 => ?_, fun h3 => ⟨fun h4 => ?_, fun h4 => ?_⟩⟩, fun h2 => ⟨fun h3 => ?_, fun h3 => ⟨fun h4 => ?_, fun h4 => ?_⟩⟩⟩
  all_goals first | (rw [w2 _ (by omega) (by omega)]; repeat' split) | (repeat' split)
  all_goals omega
theorem plain (i v ro p) : statR 2 rc tree ⟨i, fN, v, ro, p⟩ = P (i 0) (i 1) := by kernel_rfl
theorem ran : ranR us (fun f _ => if [145].contains f then .unroll 400 else .auto) rc 2 tree = true := by kernel_rfl
theorem fineT : fineR 2 rc tree = true := by kernel_rfl
theorem ok : RcOk (cxOf 2) rc := okR us_ok ran fineT okb fun i v ro p hρ hcap hpre => by rw [plain]; have q := hρ.hi; exact holds _ _ (q 0 _ rfl).1 (q 0 _ rfl).2 (q 1 _ rfl).1 (q 1 _ rfl).2
end CRMulr
namespace CRQuot
def rc : Rc := ⟨107, [none, none, none], [.int .i32, .int .i32, .bool], [(.v 1)], .one, [.int .i32 (.f 63 (.ite (.b .eq .i64 (.v 2) (.c 0)) (.c 22) (.c 23)) (.v 0) (.v 1))]⟩
theorem okb : rc.ok = true := by kernel_rfl
noncomputable def us : SMs := fun Γ ins n => smH (cxG n Γ ins) [] (smR (cxG n Γ ins) [CRLow.rc])
theorem us_ok : SMsOk us := fun Γ ins n => qQp (tabsG n Γ ins) (qQa _) (qQn (tabsG n Γ ins) (qQk CRLow.okb (rc_n CRLow.ok) (qQb _)))
def Q0 : E := (tk (.v 0) (.c 0))
def Q1 : E := (tk (.v 1) (.c 0))
def Q2 : E := (.b .psub .i64 (.c 0) (.v 1))
def Q3 : E := (te Q2 (.c 0))
def Q4 : E := (.nt Q0)
def Q5 : E := (.nt Q1)
def Q6 : E := (tn Q4 Q5)
def Q7 : E := (.b .psub .i64 (.c 0) (.v 0))
def Q8 : E := (.b .quo .i64 Q7 Q2)
def Q9 : E := (.b .psub .i64 (.c 0) Q8)
def Q10 : E := (t6 Q9)
def Q11 : E := (.cl 1000 (-9223372036854775808) 9223372036854775807)
def Q12 : E := (t3 Q11)
def Q13 : E := (.cl 1000 (-2147483648) 2147483647)
def Q14 : E := (.b .quo .i64 Q7 (.v 1))
def Q15 : E := (.b .psub .i64 (.c 0) Q14)
def Q16 : E := (t6 Q15)
def Q17 : E := (.b .quo .i64 (.v 0) Q2)
def Q18 : E := (.b .psub .i64 (.c 0) Q17)
def Q19 : E := (t6 Q18)
def Q20 : E := (.b .quo .i64 (.v 0) (.v 1))
def Q21 : E := (.b .psub .i64 (.c 0) Q20)
def Q22 : E := (t6 Q21)
def tree : TT (List E) :=
 (.br Q0 (.br Q1 (.br Q3 (.bad 3) (.br Q6 (.br (.v 2) (.new 1000 (t6 (.b .psub .i64 (.v 0) (t6 (.b .pmul .i64 Q10 (.v 1))))) (.leaf [Q12])) (.new 1000 Q10 (.leaf [Q12]))) (.br (.v 2) (.new 1000 (t6 (.b .psub .i64 (.v 0) (t6 (.b .pmul .i64 Q8 (.v 1))))) (.leaf [Q12])) (.new 1000 (t3 Q8) (.leaf [Q13]))))) (.br (te (.v 1) (.c 0)) (.bad 3) (.br Q6 (.br (.v 2) (.new 1000 (t6 (.b .psub .i64 (.v 0) (t6 (.b .pmul .i64 Q16 (.v 1))))) (.leaf [Q12])) (.new 1000 Q16 (.leaf [Q12]))) (.br (.v 2) (.new 1000 (t6 (.b .psub .i64 (.v 0) (t6 (.b .pmul .i64 Q14 (.v 1))))) (.leaf [Q12])) (.new 1000 (t3 Q14) (.leaf [Q13])))))) (.br Q1 (.br Q3 (.bad 3) (.br Q6 (.br (.v 2) (.new 1000 (t6 (.b .psub .i64 (.v 0) (t6 (.b .pmul .i64 Q19 (.v 1))))) (.leaf [Q12])) (.new 1000 Q19 (.leaf [Q12]))) (.br (.v 2) (.new 1000
 (t6 (.b .psub .i64 (.v 0) (t6 (.b .pmul .i64 Q17 (.v 1))))) (.leaf [Q12])) (.new 1000 (t3 Q17) (.leaf [Q13]))))) (.br (te (.v 1) (.c 0)) (.bad 3) (.br Q6 (.br (.v 2) (.new 1000 (t6 (.b .psub .i64 (.v 0) (t6 (.b .pmul .i64 Q22 (.v 1))))) (.leaf [Q12])) (.new 1000 Q22 (.leaf [Q12]))) (.br (.v 2) (.new 1000 (t6 (.b .psub .i64 (.v 0) (t6 (.b .pmul .i64 Q20 (.v 1))))) (.leaf [Q12])) (.leaf [(t3 Q20)]))))))
def P (a b c : Int) : Prop :=
 (Pb (Pl a 0) (Pb (Pl b 0) (Pb (Pe (0 - b) 0) False (Pb (Pd (Pe (Pl a 0) 0) (Pe (Pl b 0) 0)) (Pb c (Pn (W6 (a - (W6 ((W6 (0 - (BO.ev .quo .i64 (0 - a) (0 - b)))) * b)))) (-9223372036854775808) 9223372036854775807 fun y0 => (((W3 y0) : Int) = (aluV (iteZ (Pe c 0) 22 23) a b) ∧ True)) (Pn (W6 (0 - (BO.ev .quo .i64 (0 - a) (0 - b)))) (-9223372036854775808) 9223372036854775807 fun y0 => (((W3 y0) : Int) = (aluV (iteZ (Pe c 0) 22 23) a b) ∧ True))) (Pb c (Pn (W6 (a - (W6 ((BO.ev .quo .i64 (0 - a) (0 - b)) * b)))) (-9223372036854775808) 9223372036854775807 fun y0 => (((W3 y0) : Int) = (aluV (iteZ (Pe c 0) 22 23) a b) ∧ True)) (Pn (W3 (BO.ev .quo .i64 (0 - a) (0 - b))) (-2147483648) 2147483647 fun y0 => ((y0 : Int) = (aluV (iteZ (Pe c 0) 22 23) a b) ∧ True))))) (Pb (Pe b 0) False (Pb (Pd (Pe (Pl
 a 0) 0) (Pe (Pl b 0) 0)) (Pb c (Pn (W6 (a - (W6 ((W6 (0 - (BO.ev .quo .i64 (0 - a) b))) * b)))) (-9223372036854775808) 9223372036854775807 fun y0 => (((W3 y0) : Int) = (aluV (iteZ (Pe c 0) 22 23) a b) ∧ True)) (Pn (W6 (0 - (BO.ev .quo .i64 (0 - a) b))) (-9223372036854775808) 9223372036854775807 fun y0 => (((W3 y0) : Int) = (aluV (iteZ (Pe c 0) 22 23) a b) ∧ True))) (Pb c (Pn (W6 (a - (W6 ((BO.ev .quo .i64 (0 - a) b) * b)))) (-9223372036854775808) 9223372036854775807 fun y0 => (((W3 y0) : Int) = (aluV (iteZ (Pe c 0) 22 23) a b) ∧ True)) (Pn (W3 (BO.ev .quo .i64 (0 - a) b)) (-2147483648) 2147483647 fun y0 => ((y0 : Int) = (aluV (iteZ (Pe c 0) 22 23) a b) ∧ True)))))) (Pb (Pl b 0) (Pb (Pe (0 - b) 0) False (Pb (Pd (Pe (Pl a 0) 0) (Pe (Pl b 0) 0)) (Pb c (Pn (W6 (a - (W6 ((W6 (0 - (BO.ev .quo
 .i64 a (0 - b)))) * b)))) (-9223372036854775808) 9223372036854775807 fun y0 => (((W3 y0) : Int) = (aluV (iteZ (Pe c 0) 22 23) a b) ∧ True)) (Pn (W6 (0 - (BO.ev .quo .i64 a (0 - b)))) (-9223372036854775808) 9223372036854775807 fun y0 => (((W3 y0) : Int) = (aluV (iteZ (Pe c 0) 22 23) a b) ∧ True))) (Pb c (Pn (W6 (a - (W6 ((BO.ev .quo .i64 a (0 - b)) * b)))) (-9223372036854775808) 9223372036854775807 fun y0 => (((W3 y0) : Int) = (aluV (iteZ (Pe c 0) 22 23) a b) ∧ True)) (Pn (W3 (BO.ev .quo .i64 a (0 - b))) (-2147483648) 2147483647 fun y0 => ((y0 : Int) = (aluV (iteZ (Pe c 0) 22 23) a b) ∧ True))))) (Pb (Pe b 0) False (Pb (Pd (Pe (Pl a 0) 0) (Pe (Pl b 0) 0)) (Pb c (Pn (W6 (a - (W6 ((W6 (0 - (BO.ev .quo .i64 a b))) * b)))) (-9223372036854775808) 9223372036854775807 fun y0 => (((W3 y0) : Int)
 = (aluV (iteZ (Pe c 0) 22 23) a b) ∧ True)) (Pn (W6 (0 - (BO.ev .quo .i64 a b))) (-9223372036854775808) 9223372036854775807 fun y0 => (((W3 y0) : Int) = (aluV (iteZ (Pe c 0) 22 23) a b) ∧ True))) (Pb c (Pn (W6 (a - (W6 ((BO.ev .quo .i64 a b) * b)))) (-9223372036854775808) 9223372036854775807 fun y0 => (((W3 y0) : Int) = (aluV (iteZ (Pe c 0) 22 23) a b) ∧ True)) (((W3 (BO.ev .quo .i64 a b)) : Int) = (aluV (iteZ (Pe c 0) 22 23) a b) ∧ True))))))
theorem nbq (x : Int) : qQz (qQz (decide (x < 0)) == 0) = if x < 0 then 0 else 1 := by by_cases h : x < 0 <;> simp [qQz, h]
theorem one_zero : ((1 : Int) = 0) = False := by simp
theorem zero_one : ((0 : Int) = 1) = False := by simp
theorem holds (p0 p1 p2 : Int) (l_p0 : -2147483648 ≤ p0) (u_p0 : p0 ≤ 2147483647) (l_p1 : -2147483648 ≤ p1) (u_p1 : p1 ≤ 2147483647) (l_p2 : 0 ≤ p2) (u_p2 : p2 ≤ 1) (h_pre0 : p1 ≠ 0) : P p0 p1 p2 := by
 delta P Pb Pn Pl Pe Pd W6 W3
 have hD : -2147483648 ≤ p0.tdiv p1 ∧ p0.tdiv p1 ≤ 2147483648 := by
  have h1 : (p0.tdiv p1).natAbs ≤ p0.natAbs := by rw [Int.natAbs_tdiv]; exact Nat.div_le_self _ _
  omega
 have hE : -2147483648 ≤ p0 - p0.tdiv p1 * p1 ∧ p0 - p0.tdiv p1 * p1 ≤ 2147483648 := by
  have h1 : p0 - p0.tdiv p1 * p1 = p0.tmod p1 := by rw [Int.tmod_def, Int.mul_comm]
  have h2 : (p0.tmod p1).natAbs ≤ p0.natAbs := by rw [Int.natAbs_tmod]; exact Nat.mod_le _ _
  omega
 have t1 : BO.ev .quo .i64 (0 - p0) (0 - p1) = p0.tdiv p1 := by
  show IntKind.wrap .i64 ((0 - p0).tdiv (0 - p1)) = _
  rw [Int.zero_sub, Int.zero_sub, Int.neg_tdiv, Int.tdiv_neg, Int.neg_neg, w64 (by omega) (by omega)]
 have t2 : BO.ev .quo .i64 (0 - p0) p1 = -(p0.tdiv p1) := by
  show IntKind.wrap .i64 ((0 - p0).tdiv p1) = _
  rw [Int.zero_sub, Int.neg_tdiv, w64 (by omega) (by omega)]
 have t3 : BO.ev .quo .i64 p0 (0 - p1) = -(p0.tdiv p1) := by
  show IntKind.wrap .i64 (p0.tdiv (0 - p1)) = _
  rw [Int.zero_sub, Int.tdiv_neg, w64 (by omega) (by omega)]
 have t4 : BO.ev .quo .i64 p0 p1 = p0.tdiv p1 := w64 (by omega) (by omega)
 have r22 : aluV 22 p0 p1 = IntKind.wrap .i32 (p0.tdiv p1) := by
  rw [qJq (by unfold aluP; omega) l_p0 u_p0 l_p1 u_p1, ← t4]; rfl
 have r23 : aluV 23 p0 p1 = IntKind.wrap .i32 (p0 - p0.tdiv p1 * p1) := by
  have : aluX 23 p0 p1 = IntKind.wrap .i32 (p0 - IntKind.wrap .i64 (BO.ev .quo .i64 p0 p1 * p1)) := rfl
  rw [qJq (by unfold aluP; omega) l_p0 u_p0 l_p1 u_p1, this, t4, w64 (x := p0.tdiv p1 * p1) (by omega) (by omega)]
 have m1 : IntKind.wrap .i64 (p0.tdiv p1 * p1) = p0.tdiv p1 * p1 := w64 (by omega) (by omega)
 have m2 : IntKind.wrap .i64 (p0 - p0.tdiv p1 * p1) = p0 - p0.tdiv p1 * p1 := w64 (by omega) (by omega)
 have m3 : IntKind.wrap .i64 (p0.tdiv p1) = p0.tdiv p1 := w64 (by omega) (by omega)
 have m4 : (0 : Int) - -(p0.tdiv p1) = p0.tdiv p1 := by omega
 simp only [nbq, t1, t2, t3, t4]
 simp only [nrm, Int.reduceEq, Int.reduceNeg, reduceIte]
 refine ⟨fun c1 => ⟨fun c2 => ⟨fun h => by omega, fun _ => ?_⟩, fun c2 => ⟨fun h => h_pre0 h, fun _ => ?_⟩⟩, fun c1 => ⟨fun c2 => ⟨fun h => by omega, fun _ => ?_⟩, fun c2 => ⟨fun h => h_pre0 h, fun _ => ?_⟩⟩⟩
 ·simp only [if_pos c1, if_pos c2, not_true_eq_false, false_implies, true_and, forall_const]
  refine ⟨fun h => ?_, fun h => ?_⟩
  ·rintro _ rfl _; rw [if_neg h, m1, m2, r23]
  ·rintro _ rfl _; rw [if_pos h, r22]
 ·simp only [if_pos c1, if_neg (show ¬ p1 < 0 by omega), zero_one, not_false_eq_true, forall_const, false_implies, and_true]
  refine ⟨fun h => ?_, fun h => ?_⟩
  ·rintro _ rfl _; rw [if_neg h, m4, m3, m1, m2, r23]
  ·rintro _ rfl _; rw [if_pos h, m4, m3, r22]
 ·simp only [if_neg (show ¬ p0 < 0 by omega), if_pos c2, one_zero, not_false_eq_true, forall_const, false_implies, and_true]
  refine ⟨fun h => ?_, fun h => ?_⟩
  ·rintro _ rfl _; rw [if_neg h, m4, m3, m1, m2, r23]
  ·rintro _ rfl _; rw [if_pos h, m4, m3, r22]
 ·simp only [if_neg (show ¬ p0 < 0 by omega), if_neg (show ¬ p1 < 0 by omega), not_true_eq_false, false_implies, true_and, forall_const]
  refine ⟨fun h => ?_, fun h => ?_⟩
  ·rintro _ rfl _; rw [if_neg h, m1, m2, r23]
  ·rw [if_pos h, r22]
theorem plain (i v ro p) : statR 2 rc tree ⟨i, fN, v, ro, p⟩ = P (i 0) (i 1) (i 2) := by kernel_rfl
theorem ran : ranR us (fun _ _ => .auto) rc 2 tree = true := by kernel_rfl
theorem fineT : fineR 2 rc tree = true := by kernel_rfl
theorem ok : RcOk (cxOf 2) rc := okR us_ok ran fineT okb fun i v ro p hρ hcap hpre => by rw [plain]; have q := hρ.hi; exact holds _ _ _ (q 0 _ rfl).1 (q 0 _ rfl).2 (q 1 _ rfl).1 (q 1 _ rfl).2 (q 2 _ rfl).1 (q 2 _ rfl).2 (hpre _ (mg 0 rfl))
end CRQuot
namespace CROne
def rc : Rc := ⟨59, [none, none], [.int .i64, .int .i32], [], .one, [.int .i32 (.f 63 (.ite (.b .eq .i64 (.v 0) (.c 24)) (.c 24) (.ite (.b .eq .i64 (.v 0) (.c 25)) (.c 25) (.ite (.b .eq .i64 (.v 0) (.c 26)) (.c 26) (.ite (.b .eq .i64 (.v 0) (.c 27)) (.c 27) (.ite (.b .eq .i64 (.v 0) (.c 28)) (.c 28) (.ite (.b .eq .i64 (.v 0) (.c 29)) (.c 29) (.c 30))))))) (.v 1) (.c 0))]⟩
theorem okb : rc.ok = true := by kernel_rfl
noncomputable def us : SMs := fun Γ ins n => smH (cxG n Γ ins) [] (smR (cxG n Γ ins) [CRLow.rc, CRSar.rc, CRClz.rc])
theorem us_ok : SMsOk us := fun Γ ins n => qQp (tabsG n Γ ins) (qQa _) (qQn (tabsG n Γ ins) (qQk CRLow.okb (rc_n CRLow.ok) (qQk CRSar.okb (rc_n CRSar.ok) (qQk CRClz.okb (rc_n CRClz.ok) (qQb _)))))
def Q0 : E := (.b .psub .i64 (.c 0) (.v 1))
def Q1 : E := (tk (.c 2147483647) Q0)
def Q2 : E := (t3 Q0)
def Q3 : E := (.b .rem .i64 (.v 1) (.c 65536))
def Q4 : E := (tp Q3 (.c 65536))
def tree : TT (List E) :=
 (.br (te (.v 0) (.c 24)) (.leaf [(.f 63 (.c 24) (.v 1) (.c 0))]) (.br (te (.v 0) (.c 25)) (.br Q1 (.leaf [(.c 2147483647)]) (.leaf [Q2])) (.br (te (.v 0) (.c 26)) (.br (tk (.v 1) (.c 0)) (.br Q1 (.leaf [(.c 2147483647)]) (.leaf [Q2])) (.leaf [(.v 1)])) (.br (te (.v 0) (.c 27)) (.br (tn (.v 1) (.c 0)) (.leaf [(.c (-1))]) (.leaf [(.c 0)])) (.br (te (.v 0) (.c 28)) (.br (tk (.v 1) (.c 0)) (.leaf [(.c (-1))]) (.leaf [(.c 0)])) (.br (te (.v 0) (.c 29)) (.br (tk Q3 (.c 0)) (.br (tl (.c 32768) Q4) (.leaf [(.b .psub .i64 Q4 (.c 65536))]) (.leaf [Q4])) (.br (tl (.c 32768) Q3) (.leaf [(.b .psub .i64 Q3 (.c 65536))]) (.leaf [Q3]))) (.leaf [(.f 63 (.c 11) (.v 1) (.c 16))])))))))
def sL0 (a b z0 : Int) : Prop := (z0 : Int) = (aluV (iteZ (Pe a 24) 24 (iteZ (Pe a 25) 25 (iteZ (Pe a 26) 26 (iteZ (Pe a 27) 27 (iteZ (Pe a 28) 28 (iteZ (Pe a 29) 29 30)))))) b 0) ∧ True
def P (a b : Int) : Prop :=
 (Pb (Pe a 24) (sL0 a b (aluV 24 b 0)) (Pb (Pe a 25) (Pb (Pl 2147483647 (0 - b)) (sL0 a b 2147483647) (sL0 a b (W3 (0 - b)))) (Pb (Pe a 26) (Pb (Pl b 0) (Pb (Pl 2147483647 (0 - b)) (sL0 a b 2147483647) (sL0 a b (W3 (0 - b)))) (sL0 a b b)) (Pb (Pe a 27) (Pb (Pd b 0) (sL0 a b (-1)) (sL0 a b 0)) (Pb (Pe a 28) (Pb (Pl b 0) (sL0 a b (-1)) (sL0 a b 0)) (Pb (Pe a 29) (Pb (Pl (BO.ev .rem .i64 b 65536) 0) (Pb (PL 32768 ((BO.ev .rem .i64 b 65536) + 65536)) (sL0 a b (((BO.ev .rem .i64 b 65536) + 65536) - 65536)) (sL0 a b ((BO.ev .rem .i64 b 65536) + 65536))) (Pb (PL 32768 (BO.ev .rem .i64 b 65536)) (sL0 a b ((BO.ev .rem .i64 b 65536) - 65536)) (sL0 a b (BO.ev .rem .i64 b 65536)))) (sL0 a b (aluV 11 b 16))))))))
theorem satD (m : Int) : BO.ev .min .i64 (BO.ev .max .i64 m (-2147483648)) 2147483647 = if m < -2147483648 then -2147483648 else if 2147483647 < m then 2147483647 else m := by
 simp only [BO.ev]
 repeat' split
 all_goals omega
theorem wi16D (x : Int) : IntKind.wrap .i16 x = (x + 32768) % 65536 - 32768 := by
 simp [IntKind.wrap, IntKind.bits, IntKind.signed] <;> (try split) <;> omega
theorem tmD (x : Int) : BO.ev .rem .i64 x 65536 = if 0 ≤ x then x % 65536 else -((-x) % 65536) := by
 show x.tmod 65536 = _
 split
 ·exact Int.tmod_eq_emod_of_nonneg (by assumption)
 ·rename_i h
  rw [← Int.neg_neg x, Int.neg_tmod, Int.tmod_eq_emod_of_nonneg (by omega), Int.neg_neg]
theorem tmE (x : Int) : BO.ev .rem .i64 x 4294967296 = if 0 ≤ x then x % 4294967296 else -((-x) % 4294967296) := by
 show x.tmod 4294967296 = _
 split
 ·exact Int.tmod_eq_emod_of_nonneg (by assumption)
 ·rename_i h
  rw [← Int.neg_neg x, Int.neg_tmod, Int.tmod_eq_emod_of_nonneg (by omega), Int.neg_neg]
theorem tdE {x : Int} (h1 : -9223372036854775808 ≤ x) (h2 : x ≤ 9223372036854775807) : BO.ev .quo .i64 x 4294967296 = if 0 ≤ x then x / 4294967296 else -((-x) / 4294967296) := by
 show IntKind.wrap .i64 (x.tdiv 4294967296) = _
 have e : x.tdiv 4294967296 = if 0 ≤ x then x / 4294967296 else -((-x) / 4294967296) := by
  split
  ·exact Int.tdiv_eq_ediv_of_nonneg (by assumption)
  ·rename_i h
   rw [← Int.neg_neg x, Int.neg_tdiv, Int.tdiv_eq_ediv_of_nonneg (by omega), Int.neg_neg]
 rw [e, w64 (by split <;> omega) (by split <;> omega)]
section
variable {a b : Int}
theorem ax1 : aluX 1 a b = IntKind.wrap .i32 (a + b) := rfl
theorem ax2 : aluX 2 a b = IntKind.wrap .i32 (a - b) := rfl
theorem ax3 : aluX 3 a b = if a + b < -2147483648 then -2147483648 else if 2147483647 < a + b then 2147483647 else a + b := by rw [← satD]; rfl
theorem ax4 : aluX 4 a b = if a - b < -2147483648 then -2147483648 else if 2147483647 < a - b then 2147483647 else a - b := by rw [← satD]; rfl
theorem ax13 : aluX 13 a b = if a < b then 1 else 0 := rfl
theorem ax14 : aluX 14 a b = if IntKind.wrap .u32 a < IntKind.wrap .u32 b then 1 else 0 := rfl
theorem ax15 : aluX 15 a b = if a = b then 1 else 0 := rfl
theorem ax16 : aluX 16 a b = if b < a then b else a := rfl
theorem ax17 : aluX 17 a b = if b > a then b else a := rfl
theorem ax18 : aluX 18 a b = IntKind.wrap .i32 (a * b) := rfl
theorem ax19 : aluX 19 a b = a * b / 4294967296 := qXg .i64 (a * b) 32
theorem ax22 : aluX 22 a b = IntKind.wrap .i32 (IntKind.wrap .i64 (a.tdiv b)) := rfl
theorem ax23 : aluX 23 a b = IntKind.wrap .i32 (a - IntKind.wrap .i64 (IntKind.wrap .i64 (a.tdiv b) * b)) := rfl
theorem ax25 : aluX 25 a b = if 2147483647 < 0 - a then 2147483647 else 0 - a := rfl
theorem ax26 : aluX 26 a b = if (if 2147483647 < 0 - a then 2147483647 else 0 - a) > a then (if 2147483647 < 0 - a then 2147483647 else 0 - a) else a := rfl
theorem ax27 : aluX 27 a b = if a = 0 then 0 else -1 := rfl
theorem ax28 : aluX 28 a b = a / 2147483648 := qXg .i32 a 31
theorem ax29 : aluX 29 a b = (a + 32768) % 65536 - 32768 := wi16D a
theorem ax30 : aluX 30 a b = aluX 11 a 16 := by
 show BO.ev .shr .i32 a 16 = BO.ev .shr .i32 a (BO.ev .and .i32 16 31)
 rw [and31]; rfl
end
theorem holds (p0 p1 : Int) (l_p0 : -9223372036854775808 ≤ p0) (u_p0 : p0 ≤ 9223372036854775807) (l_p1 : -2147483648 ≤ p1) (u_p1 : p1 ≤ 2147483647) : P p0 p1 := by
 delta P sL0 Pb PL Pl Pe Pd W3
 have hv : ∀ x k, 24 ≤ k → k ≤ 30 → x = aluX k p1 0 → x = aluV k p1 0 := fun x k h1 h2 e => by rw [qJq (qKk (by omega) h2 (by omega) (by omega)) l_p1 u_p1 (by decide) (by decide), e]
 have r0 := tmD p1
 have a30 : aluV 11 p1 16 = aluX 30 p1 0 := by
  rw [qJq (qKk (by decide) (by decide) (by decide) (by decide)) l_p1 u_p1 (by decide) (by decide), ax30]
 simp only [nrm, Int.reduceEq, Int.reduceNeg, reduceIte]
 refine ⟨fun h => by subst h; rfl, fun h24 => ⟨fun h => ?_, fun h25 => ⟨fun h => ?_, fun h26 => ⟨fun h => ?_, fun h27 => ⟨fun h => ?_, fun h28 => ⟨fun h => ?_, fun h29 => ?_⟩⟩⟩⟩⟩⟩
 ·simp only [h24, h, Int.reduceEq, if_true, if_false]
  refine ⟨fun g => hv _ _ (by decide) (by decide) ?_, fun g => hv _ _ (by decide) (by decide) ?_⟩
  ·rw [ax25, if_pos g]
  ·rw [ax25, if_neg (by omega), wi32 (by omega) (by omega)]
 ·simp only [h24, h25, h, Int.reduceEq, if_true, if_false]
  refine ⟨fun g0 => ⟨fun g => hv _ _ (by decide) (by decide) ?_, fun g => hv _ _ (by decide) (by decide) ?_⟩, fun g0 => hv _ _ (by decide) (by decide) ?_⟩
  ·rw [ax26]; simp only [if_pos g]; rw [if_pos (by omega)]
  ·rw [ax26]; simp only [if_neg (show ¬ 2147483647 < 0 - p1 by omega)]; rw [if_pos (by omega), wi32 (by omega) (by omega)]
  ·rw [ax26]; simp only [if_neg (show ¬ 2147483647 < 0 - p1 by omega)]; rw [if_neg (by omega)]
 ·simp only [h24, h25, h26, h, Int.reduceEq, if_true, if_false]
  refine ⟨fun g => hv _ _ (by decide) (by decide) ?_, fun g => hv _ _ (by decide) (by decide) ?_⟩
  ·rw [ax27, if_neg g]
  ·rw [ax27, if_pos g]
 ·simp only [h24, h25, h26, h27, h, Int.reduceEq, if_true, if_false]
  refine ⟨fun g => hv _ _ (by decide) (by decide) ?_, fun g => hv _ _ (by decide) (by decide) ?_⟩ <;> rw [ax28] <;> omega
 ·simp only [h24, h25, h26, h27, h28, h, Int.reduceEq, if_true, if_false]
  refine ⟨fun g => ⟨fun g2 => hv _ _ (by decide) (by decide) ?_, fun g2 => hv _ _ (by decide) (by decide) ?_⟩, fun g => ⟨fun g2 => hv _ _ (by decide) (by decide) ?_, fun g2 => hv _ _ (by decide) (by decide) ?_⟩⟩ <;> rw [ax29] <;> rw [r0] at * <;> (repeat' split at *) <;> omega
 ·simp only [h24, h25, h26, h27, h28, h29, if_false]
  exact hv _ _ (by decide) (by decide) a30
theorem plain (i v ro p) : statR 2 rc tree ⟨i, fN, v, ro, p⟩ = P (i 0) (i 1) := by kernel_rfl
theorem ran : ranR us (fun _ _ => .auto) rc 2 tree = true := by kernel_rfl
theorem fineT : fineR 2 rc tree = true := by kernel_rfl
theorem ok : RcOk (cxOf 2) rc := okR us_ok ran fineT okb fun i v ro p hρ hcap hpre => by rw [plain]; have q := hρ.hi; exact holds _ _ (q 0 _ rfl).1 (q 0 _ rfl).2 (q 1 _ rfl).1 (q 1 _ rfl).2
end CROne
end Go.Proofs.YtfkdlidcogpncaaGreatDoor
