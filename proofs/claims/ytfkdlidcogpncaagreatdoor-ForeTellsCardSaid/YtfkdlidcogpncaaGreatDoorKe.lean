/-
  What functions of the program answer, as numbers of what they are handed: their runs by the engine, the plain statements behind them. No condition.
-/
import Derived.Test.YtfkdlidcogpncaaGreatDoorKd
import Derived.Test.YtfkdlidcogpncaaGreatDoorGab
import Derived.Test.YtfkdlidcogpncaaGreatDoorGmD
set_option linter.unusedVariables false
set_option linter.unusedSimpArgs false
set_option maxRecDepth 100000
namespace Go.Proofs.YtfkdlidcogpncaaGreatDoor
open Go.Eng Go.RowKit
namespace CROf
def rc : Rc := ⟨142, [some 32], [.int .i64, .int .i64, .int .i64, .int .i64, .int .i64, .int .i64, .int .i64, .int .i64, .int .i64, .int .i64, .int .i64, .int .i64, .int .i64, .int .i64, .int .i64, .int .i64, .int .i64, .int .i64, .int .i64, .int .i64, .int .i64, .int .i64, .int .i64, .int .i64, .int .i64, .int .i64, .int .i64, .int .i64, .int .i64, .int .i64, .int .i64, .int .i64], [], .one, [.int .i32 (.f 77 (.v 0) (.v 1) (qQv [(.v 2), (.v 3), (.v 4), (.v 5), (.v 6), (.v 7), (.v 8), (.v 9), (.v 10), (.v 11), (.v 12), (.v 13), (.v 14), (.v 15), (.v 16), (.v 17), (.v 18), (.v 19), (.v 20), (.v 21), (.v 22), (.v 23), (.v 24), (.v 25), (.v 26), (.v 27), (.v 28), (.v 29), (.v 30), (.v 31)]))]⟩
theorem okb : rc.ok = true := by kernel_rfl
noncomputable def us : SMs := fun Γ ins n => smH (cxG n Γ ins) [] (smR (cxG n Γ ins) [CRLow.rc])
theorem us_ok : SMsOk us := fun Γ ins n => qQp (tabsG n Γ ins) (qQa _) (qQn (tabsG n Γ ins) (qQk CRLow.okb (rc_n CRLow.ok) (qQb _)))
def tree : TT (List E) :=
 (.new 1000 (t6 (tp (t6 (.b .pmul .i64 (.c 2) (t6 (tp (t6 (.b .pmul .i64 (.c 2) (t6 (tp (t6 (.b .pmul .i64 (.c 2) (t6 (tp (t6 (.b .pmul .i64 (.c 2) (t6 (tp (t6 (.b .pmul .i64 (.c 2) (t6 (tp (t6 (.b .pmul .i64 (.c 2) (t6 (tp (t6 (.b .pmul .i64 (.c 2) (t6 (tp (t6 (.b .pmul .i64 (.c 2) (t6 (tp (t6 (.b .pmul .i64 (.c 2) (t6 (tp (t6 (.b .pmul .i64 (.c 2) (t6 (tp (t6 (.b .pmul .i64 (.c 2) (t6 (tp (t6 (.b .pmul .i64 (.c 2) (t6 (tp (t6 (.b .pmul .i64 (.c 2) (t6 (tp (t6 (.b .pmul .i64 (.c 2) (t6 (tp (t6 (.b .pmul .i64 (.c 2) (t6 (tp (t6 (.b .pmul .i64 (.c 2) (t6 (tp (t6 (.b .pmul .i64 (.c 2) (t6 (tp (t6 (.b .pmul .i64 (.c 2) (t6 (tp (t6 (.b .pmul .i64 (.c 2) (t6 (tp (t6 (.b .pmul .i64 (.c 2) (t6 (tp (t6 (.b .pmul .i64 (.c 2) (t6 (tp (t6 (.b .pmul .i64 (.c 2) (t6 (tp (t6 (.b .pmul .i64 (.c 2) (t6
 (tp (t6 (.b .pmul .i64 (.c 2) (t6 (tp (t6 (.b .pmul .i64 (.c 2) (t6 (tp (t6 (.b .pmul .i64 (.c 2) (t6 (tp (t6 (.b .pmul .i64 (.c 2) (t6 (tp (t6 (.b .pmul .i64 (.c 2) (t6 (tp (t6 (.b .pmul .i64 (.c 2) (t6 (tp (t6 (.b .pmul .i64 (.c 2) (t6 (tp (t6 (.b .pmul .i64 (.c 2) (.v 31))) (.v 30))))) (.v 29))))) (.v 28))))) (.v 27))))) (.v 26))))) (.v 25))))) (.v 24))))) (.v 23))))) (.v 22))))) (.v 21))))) (.v 20))))) (.v 19))))) (.v 18))))) (.v 17))))) (.v 16))))) (.v 15))))) (.v 14))))) (.v 13))))) (.v 12))))) (.v 11))))) (.v 10))))) (.v 9))))) (.v 8))))) (.v 7))))) (.v 6))))) (.v 5))))) (.v 4))))) (.v 3))))) (.v 2))))) (.v 1))))) (.v 0))) (.leaf [(t3 (.cl 1000 (-9223372036854775808) 9223372036854775807))]))
def P (p0_0 p0_1 p0_2 p0_3 p0_4 p0_5 p0_6 p0_7 p0_8 p0_9 p0_10 p0_11 p0_12 p0_13 p0_14 p0_15 p0_16 p0_17 p0_18 p0_19 p0_20 p0_21 p0_22 p0_23 p0_24 p0_25 p0_26 p0_27 p0_28 p0_29 p0_30 p0_31 : Int) : Prop :=
 Pn (W6 ((W6 (2 * (W6 ((W6 (2 * (W6 ((W6 (2 * (W6 ((W6 (2 * (W6 ((W6 (2 * (W6 ((W6 (2 * (W6 ((W6 (2 * (W6 ((W6 (2 * (W6 ((W6 (2 * (W6 ((W6 (2 * (W6 ((W6 (2 * (W6 ((W6 (2 * (W6 ((W6 (2 * (W6 ((W6 (2 * (W6 ((W6 (2 * (W6 ((W6 (2 * (W6 ((W6 (2 * (W6 ((W6 (2 * (W6 ((W6 (2 * (W6 ((W6 (2 * (W6 ((W6 (2 * (W6 ((W6 (2 * (W6 ((W6 (2 * (W6 ((W6 (2 * (W6 ((W6 (2 * (W6 ((W6 (2 * (W6 ((W6 (2 * (W6 ((W6 (2 * (W6 ((W6 (2 * (W6 ((W6 (2 * (W6 ((W6 (2 * p0_31)) + p0_30)))) + p0_29)))) + p0_28)))) + p0_27)))) + p0_26)))) + p0_25)))) + p0_24)))) + p0_23)))) + p0_22)))) + p0_21)))) + p0_20)))) + p0_19)))) + p0_18)))) + p0_17)))) + p0_16)))) + p0_15)))) + p0_14)))) + p0_13)))) + p0_12)))) + p0_11)))) + p0_10)))) + p0_9)))) + p0_8)))) + p0_7)))) + p0_6)))) + p0_5)))) + p0_4)))) + p0_3)))) + p0_2)))) + p0_1)))) +
 p0_0)) (-9223372036854775808) 9223372036854775807 fun y0 => (((W3 y0) : Int) = (ofZ p0_0 p0_1 (kZ p0_2 (kZ p0_3 (kZ p0_4 (kZ p0_5 (kZ p0_6 (kZ p0_7 (kZ p0_8 (kZ p0_9 (kZ p0_10 (kZ p0_11 (kZ p0_12 (kZ p0_13 (kZ p0_14 (kZ p0_15 (kZ p0_16 (kZ p0_17 (kZ p0_18 (kZ p0_19 (kZ p0_20 (kZ p0_21 (kZ p0_22 (kZ p0_23 (kZ p0_24 (kZ p0_25 (kZ p0_26 (kZ p0_27 (kZ p0_28 (kZ p0_29 (kZ p0_30 (kZ p0_31 0))))))))))))))))))))))))))))))) ∧ True)
def hw (f : Nat → Int) : Nat → Int → Int
 | 0, a => a
 | k + 1, a => hw f k (IntKind.wrap .i64 (IntKind.wrap .i64 (2 * a) + f k))
theorem hw_mod (f : Nat → Int) : ∀ (k : Nat) (a b : Int), (a - b) % 4294967296 = 0 → (hw f k a - (b * 2 ^ k + sumB f k)) % 4294967296 = 0
 | 0, a, b, h => by rw [hw, sumB]; simp; omega
 | k + 1, a, b, h => by
  rw [hw, sumB]
  have h1 := w64_emod (2 * a)
  have h2 := w64_emod (IntKind.wrap .i64 (2 * a) + f k)
  have := hw_mod f k (IntKind.wrap .i64 (IntKind.wrap .i64 (2 * a) + f k)) (2 * b + f k) (by omega)
  have e : (2 * b + f k) * 2 ^ k + sumB f k = b * 2 ^ (k + 1) + (sumB f k + f k * 2 ^ k) := by
   rw [Int.pow_succ, Int.add_mul, Int.mul_comm 2 b, Int.mul_assoc b 2, Int.mul_comm 2 (2 ^ k)]; omega
  rw [e] at this
  exact this
theorem hw_word (f : Nat → Int) : IntKind.wrap .i32 (hw f 31 (f 31)) = IntKind.wrap .i32 (sumB f 32) := by
 have h := hw_mod f 31 (f 31) (f 31) (by omega)
 refine wi_cong ?_
 rw [sumB]
 have : f 31 * 2 ^ 31 = 2147483648 * f 31 := by rw [Int.mul_comm]; rfl
 rw [this] at h ⊢
 omega
def gk (l : List Int) (i : Nat) : Int := l.getD i 0
set_option maxRecDepth 100000 in
theorem holds (p0_0 p0_1 p0_2 p0_3 p0_4 p0_5 p0_6 p0_7 p0_8 p0_9 p0_10 p0_11 p0_12 p0_13 p0_14 p0_15 p0_16 p0_17 p0_18 p0_19 p0_20 p0_21 p0_22 p0_23 p0_24 p0_25 p0_26 p0_27 p0_28 p0_29 p0_30 p0_31 : Int) (l_p0_0 : -9223372036854775808 ≤ p0_0) (u_p0_0 : p0_0 ≤ 9223372036854775807) (l_p0_1 : -9223372036854775808 ≤ p0_1) (u_p0_1 : p0_1 ≤ 9223372036854775807) (l_p0_2 : -9223372036854775808 ≤ p0_2) (u_p0_2 : p0_2 ≤ 9223372036854775807) (l_p0_3 : -9223372036854775808 ≤ p0_3) (u_p0_3 : p0_3 ≤ 9223372036854775807) (l_p0_4 : -9223372036854775808 ≤ p0_4) (u_p0_4 : p0_4 ≤ 9223372036854775807) (l_p0_5 : -9223372036854775808 ≤ p0_5) (u_p0_5 : p0_5 ≤ 9223372036854775807) (l_p0_6 : -9223372036854775808 ≤ p0_6) (u_p0_6 : p0_6 ≤ 9223372036854775807) (l_p0_7 : -9223372036854775808 ≤ p0_7) (u_p0_7 : p0_7 ≤ 9223372036854775807) (l_p0_8 : -9223372036854775808 ≤ p0_8) (u_p0_8 : p0_8 ≤ 9223372036854775807) (l_p0_9 : -9223372036854775808 ≤ p0_9) (u_p0_9 : p0_9 ≤ 9223372036854775807) (l_p0_10 : -9223372036854775808 ≤ p0_10) (u_p0_10 : p0_10 ≤ 9223372036854775807) (l_p0_11 : -9223372036854775808 ≤ p0_11) (u_p0_11 : p0_11 ≤ 9223372036854775807) (l_p0_12 : -9223372036854775808 ≤ p0_12) (u_p0_12 : p0_12 ≤ 9223372036854775807) (l_p0_13 : -9223372036854775808 ≤ p0_13) (u_p0_13 : p0_13 ≤ 9223372036854775807) (l_p0_14 : -9223372036854775808 ≤ p0_14) (u_p0_14 : p0_14 ≤ 9223372036854775807) (l_p0_15 : -9223372036854775808 ≤ p0_15) (u_p0_15 : p0_15 ≤ 9223372036854775807) (l_p0_16 : -9223372036854775808 ≤ p0_16) (u_p0_16 : p0_16 ≤ 9223372036854775807) (l_p0_17 : -9223372036854775808 ≤ p0_17) (u_p0_17 : p0_17 ≤ 9223372036854775807) (l_p0_18 : -9223372036854775808 ≤ p0_18) (u_p0_18 : p0_18 ≤ 9223372036854775807) (l_p0_19 : -9223372036854775808 ≤ p0_19) (u_p0_19 : p0_19 ≤ 9223372036854775807) (l_p0_20 : -9223372036854775808 ≤ p0_20) (u_p0_20 : p0_20 ≤ 9223372036854775807) (l_p0_21 : -9223372036854775808 ≤ p0_21) (u_p0_21 : p0_21 ≤ 9223372036854775807) (l_p0_22 : -9223372036854775808 ≤ p0_22) (u_p0_22 : p0_22 ≤ 9223372036854775807) (l_p0_23 : -9223372036854775808 ≤ p0_23) (u_p0_23 : p0_23 ≤ 9223372036854775807) (l_p0_24 : -9223372036854775808 ≤ p0_24) (u_p0_24 : p0_24 ≤ 9223372036854775807) (l_p0_25 : -9223372036854775808 ≤ p0_25) (u_p0_25 : p0_25 ≤ 9223372036854775807) (l_p0_26 : -9223372036854775808 ≤ p0_26) (u_p0_26 : p0_26 ≤ 9223372036854775807) (l_p0_27 : -9223372036854775808 ≤ p0_27) (u_p0_27 : p0_27 ≤ 9223372036854775807) (l_p0_28 : -9223372036854775808 ≤ p0_28) (u_p0_28 : p0_28 ≤ 9223372036854775807) (l_p0_29 : -9223372036854775808 ≤ p0_29) (u_p0_29 : p0_29 ≤ 9223372036854775807) (l_p0_30 : -9223372036854775808 ≤ p0_30) (u_p0_30 : p0_30 ≤ 9223372036854775807) (l_p0_31 : -9223372036854775808 ≤ p0_31) (u_p0_31 : p0_31 ≤ 9223372036854775807) : P p0_0 p0_1 p0_2 p0_3 p0_4 p0_5 p0_6 p0_7 p0_8 p0_9 p0_10 p0_11 p0_12 p0_13 p0_14 p0_15 p0_16 p0_17 p0_18 p0_19 p0_20 p0_21 p0_22 p0_23 p0_24 p0_25 p0_26 p0_27 p0_28 p0_29 p0_30 p0_31 := by
 delta P Pn W6 W3 kZ
 have h1 := of_chn (gk [p0_0, p0_1, p0_2, p0_3, p0_4, p0_5, p0_6, p0_7, p0_8, p0_9, p0_10, p0_11, p0_12, p0_13, p0_14, p0_15, p0_16, p0_17, p0_18, p0_19, p0_20, p0_21, p0_22, p0_23, p0_24, p0_25, p0_26, p0_27, p0_28, p0_29, p0_30, p0_31])
 have h2 := hw_word (gk [p0_0, p0_1, p0_2, p0_3, p0_4, p0_5, p0_6, p0_7, p0_8, p0_9, p0_10, p0_11, p0_12, p0_13, p0_14, p0_15, p0_16, p0_17, p0_18, p0_19, p0_20, p0_21, p0_22, p0_23, p0_24, p0_25, p0_26, p0_27, p0_28, p0_29, p0_30, p0_31])
 rintro _ rfl _
 exact ⟨h2.trans h1.symm, trivial⟩
theorem plain (i v ro p) : statR 2 rc tree ⟨i, fN, v, ro, p⟩ = P (i 0) (i 1) (i 2) (i 3) (i 4) (i 5) (i 6) (i 7) (i 8) (i 9) (i 10) (i 11) (i 12) (i 13) (i 14) (i 15) (i 16) (i 17) (i 18) (i 19) (i 20) (i 21) (i 22) (i 23) (i 24) (i 25) (i 26) (i 27) (i 28) (i 29) (i 30) (i 31) := by kernel_rfl
theorem ran : ranR us (fun f _ => if [142].contains f then .unroll 400 else .auto) rc 2 tree = true := by kernel_rfl
theorem fineT : fineR 2 rc tree = true := by kernel_rfl
theorem ok : RcOk (cxOf 2) rc := okR us_ok ran fineT okb fun i v ro p hρ hcap hpre => by rw [plain]; have q := hρ.hi; exact holds _ _ _ _ _ _ _ _ _ _ _ _ _ _ _ _ _ _ _ _ _ _ _ _ _ _ _ _ _ _ _ _ (q 0 _ rfl).1 (q 0 _ rfl).2 (q 1 _ rfl).1 (q 1 _ rfl).2 (q 2 _ rfl).1 (q 2 _ rfl).2 (q 3 _ rfl).1 (q 3 _ rfl).2 (q 4 _ rfl).1 (q 4 _ rfl).2 (q 5 _ rfl).1 (q 5 _ rfl).2 (q 6 _ rfl).1 (q 6 _ rfl).2 (q 7 _ rfl).1 (q 7 _ rfl).2 (q 8 _ rfl).1 (q 8 _ rfl).2 (q 9 _ rfl).1 (q 9 _ rfl).2 (q 10 _ rfl).1 (q 10 _ rfl).2 (q 11 _ rfl).1 (q 11 _ rfl).2 (q 12 _ rfl).1 (q 12 _ rfl).2 (q 13 _ rfl).1 (q 13 _ rfl).2 (q 14 _ rfl).1 (q 14 _ rfl).2 (q 15 _ rfl).1 (q 15 _ rfl).2 (q 16 _ rfl).1 (q 16 _ rfl).2 (q 17 _ rfl).1 (q 17 _ rfl).2 (q 18 _ rfl).1 (q 18 _ rfl).2 (q 19 _ rfl).1 (q 19 _ rfl).2 (q 20 _ rfl).1 (q 20 _ rfl).2 (q 21 _ rfl).1 (q 21 _ rfl).2 (q 22 _ rfl).1 (q 22 _ rfl).2 (q 23 _ rfl).1 (q 23 _ rfl).2 (q 24 _ rfl).1 (q 24 _ rfl).2 (q 25 _ rfl).1 (q 25 _ rfl).2 (q 26 _ rfl).1 (q 26 _ rfl).2 (q 27 _ rfl).1 (q 27 _ rfl).2 (q 28 _ rfl).1 (q 28 _ rfl).2 (q 29 _ rfl).1 (q 29 _ rfl).2 (q 30 _ rfl).1 (q 30 _ rfl).2 (q 31 _ rfl).1 (q 31 _ rfl).2
end CROf
namespace CRBy
def rc : Rc := ⟨141, [none], [.int .i32], [], .one, [.int .i64 (.f 79 (.v 0) (.c 0) (.c 0))]⟩
theorem okb : rc.ok = true := by kernel_rfl
noncomputable def us : SMs := fun Γ ins n => smH (cxG n Γ ins) [] (smR (cxG n Γ ins) [])
theorem us_ok : SMsOk us := fun Γ ins n => qQp (tabsG n Γ ins) (qQa _) (qQn (tabsG n Γ ins) (qQb _))
def tree : TT (List E) :=
(.br (.b .lt .i64 (.b .rem .i64 (.v 0) (.c 32)) (.c 0))
 (.leaf [(.b .padd .i64 (.b .rem .i64 (.v 0) (.c 32)) (.c 32))])
 (.leaf [(.b .rem .i64 (.v 0) (.c 32))]))
def P (p0 : Int) : Prop :=
 (((qQz (decide ((BO.ev .rem .i64 p0 32) < 0))) ≠ 0 →
  (((BO.ev .rem .i64 p0 32) + 32) : Int) = (md32 p0) ∧ True) ∧ ((qQz (decide ((BO.ev .rem .i64 p0 32) < 0))) = 0 →
  ((BO.ev .rem .i64 p0 32) : Int) = (md32 p0) ∧ True))
theorem tm (x : Int) : BO.ev .rem .i64 x 32 = if 0 ≤ x then x % 32 else -((-x) % 32) := by
 show x.tmod 32 = _
 split
 ·exact Int.tmod_eq_emod_of_nonneg (by assumption)
 ·rename_i h
  rw [← Int.neg_neg x, Int.neg_tmod, Int.tmod_eq_emod_of_nonneg (by omega), Int.neg_neg]
theorem holds (p0 : Int) (l_p0 : -2147483648 ≤ p0) (u_p0 : p0 ≤ 2147483647) : P p0 := by
 unfold P md32
 simp only [tm]
 simp only [nrm, Int.reduceEq, Int.reduceNeg, reduceIte]
 refine ⟨fun h => ?_, fun h => ?_⟩ <;> (repeat' split at *) <;> omega
theorem plain (i v ro p) : statR 2 rc tree ⟨i, fN, v, ro, p⟩ = P (i 0) := by kernel_rfl
theorem ran : ranR us (fun _ _ => .auto) rc 2 tree = true := by kernel_rfl
theorem fineT : fineR 2 rc tree = true := by kernel_rfl
theorem ok : RcOk (cxOf 2) rc := okR us_ok ran fineT okb fun i v ro p hρ hcap hpre => by rw [plain]; have q := hρ.hi; exact holds _ (q 0 _ rfl).1 (q 0 _ rfl).2
end CRBy
namespace CRShl
def rc : Rc := ⟨95, [none, none], [.int .i32, .int .i32], [], .one, [.int .i32 (.f 63 (.c 9) (.v 0) (.v 1))]⟩
theorem okb : rc.ok = true := by kernel_rfl
noncomputable def us : SMs := fun Γ ins n => smH (cxG n Γ ins) [] (smR (cxG n Γ ins) [CRBits.rc, CROf.rc, CRBy.rc])
theorem us_ok : SMsOk us := fun Γ ins n => qQp (tabsG n Γ ins) (qQa _) (qQn (tabsG n Γ ins) (qQk CRBits.okb (rc_n CRBits.ok) (qQk CROf.okb (rc_n CROf.ok) (qQk CRBy.okb (rc_n CRBy.ok) (qQb _)))))
def Q0 : E := (.f 79 (.v 1) (.c 0) (.c 0))
def Q1 : E := (.cl 1000 (-4611686018427387904) 4611686018427387904)
def Q2 : E := (.b .psub .i64 Q1 Q0)
def Q3 : E := (tp Q1 (.c 1))
def tree : TT (List E) :=
 (.loop ⟨1000, [some (-4611686018427387904, 4611686018427387904), none], [Q0, (tC (.c 0) (tC (.c 0) (tC (.c 0) (tC (.c 0) (tC (.c 0) (tC (.c 0) (tC (.c 0) (tC (.c 0) (tC (.c 0) (tC (.c 0) (tC (.c 0) (tC (.c 0) (tC (.c 0) (tC (.c 0) (tC (.c 0) (tC (.c 0) (tC (.c 0) (tC (.c 0) (tC (.c 0) (tC (.c 0) (tC (.c 0) (tC (.c 0) (tC (.c 0) (tC (.c 0) (tC (.c 0) (tC (.c 0) (tC (.c 0) (tC (.c 0) (tC (.c 0) (tC (.c 0) (tC (.c 0) (tC (.c 0) (.c 0)))))))))))))))))))))))))))))))))], 1003⟩ (.br (tk Q1 (.c 32)) (.br (tl (.c 0) Q2) (.br (tk Q2 (.c 32)) (.br (tl (.c 0) Q1) (.br (tl Q3 (.c 4611686018427387904)) (.back [Q3, (.f 14 (.v 1001) Q1 (t6 (tR (tC (.f 2 (.v 0) (.c 0) (.c 0)) (tC (.f 2 (.v 0) (.c 1) (.c 0)) (tC (.f 2 (.v 0) (.c 2) (.c 0)) (tC (.f 2 (.v 0) (.c 3) (.c 0)) (tC (.f 2 (.v 0) (.c 4) (.c 0))
 (tC (.f 2 (.v 0) (.c 5) (.c 0)) (tC (.f 2 (.v 0) (.c 6) (.c 0)) (tC (.f 2 (.v 0) (.c 7) (.c 0)) (tC (.f 2 (.v 0) (.c 8) (.c 0)) (tC (.f 2 (.v 0) (.c 9) (.c 0)) (tC (.f 2 (.v 0) (.c 10) (.c 0)) (tC (.f 2 (.v 0) (.c 11) (.c 0)) (tC (.f 2 (.v 0) (.c 12) (.c 0)) (tC (.f 2 (.v 0) (.c 13) (.c 0)) (tC (.f 2 (.v 0) (.c 14) (.c 0)) (tC (.f 2 (.v 0) (.c 15) (.c 0)) (tC (.f 2 (.v 0) (.c 16) (.c 0)) (tC (.f 2 (.v 0) (.c 17) (.c 0)) (tC (.f 2 (.v 0) (.c 18) (.c 0)) (tC (.f 2 (.v 0) (.c 19) (.c 0)) (tC (.f 2 (.v 0) (.c 20) (.c 0)) (tC (.f 2 (.v 0) (.c 21) (.c 0)) (tC (.f 2 (.v 0) (.c 22) (.c 0)) (tC (.f 2 (.v 0) (.c 23) (.c 0)) (tC (.f 2 (.v 0) (.c 24) (.c 0)) (tC (.f 2 (.v 0) (.c 25) (.c 0)) (tC (.f 2 (.v 0) (.c 26) (.c 0)) (tC (.f 2 (.v 0) (.c 27) (.c 0)) (tC (.f 2 (.v 0) (.c 28) (.c 0)) (tC (.f 2
 (.v 0) (.c 29) (.c 0)) (tC (.f 2 (.v 0) (.c 30) (.c 0)) (tC (.f 2 (.v 0) (.c 31) (.c 0)) (.c 0))))))))))))))))))))))))))))))))) Q2)))]) (.bad 303)) (.bad 200)) (.bad 200)) (.bad 200)) (.exit 0)) (.new 1005 (.f 77 (t6 (tR (.v 1001) (.c 0))) (t6 (tR (.v 1001) (.c 1))) (tC (t6 (tR (.v 1001) (.c 2))) (tC (t6 (tR (.v 1001) (.c 3))) (tC (t6 (tR (.v 1001) (.c 4))) (tC (t6 (tR (.v 1001) (.c 5))) (tC (t6 (tR (.v 1001) (.c 6))) (tC (t6 (tR (.v 1001) (.c 7))) (tC (t6 (tR (.v 1001) (.c 8))) (tC (t6 (tR (.v 1001) (.c 9))) (tC (t6 (tR (.v 1001) (.c 10))) (tC (t6 (tR (.v 1001) (.c 11))) (tC (t6 (tR (.v 1001) (.c 12))) (tC (t6 (tR (.v 1001) (.c 13))) (tC (t6 (tR (.v 1001) (.c 14))) (tC (t6 (tR (.v 1001) (.c 15))) (tC (t6 (tR (.v 1001) (.c 16))) (tC (t6 (tR (.v 1001) (.c 17))) (tC (t6 (tR (.v 1001) (.c
 18))) (tC (t6 (tR (.v 1001) (.c 19))) (tC (t6 (tR (.v 1001) (.c 20))) (tC (t6 (tR (.v 1001) (.c 21))) (tC (t6 (tR (.v 1001) (.c 22))) (tC (t6 (tR (.v 1001) (.c 23))) (tC (t6 (tR (.v 1001) (.c 24))) (tC (t6 (tR (.v 1001) (.c 25))) (tC (t6 (tR (.v 1001) (.c 26))) (tC (t6 (tR (.v 1001) (.c 27))) (tC (t6 (tR (.v 1001) (.c 28))) (tC (t6 (tR (.v 1001) (.c 29))) (tC (t6 (tR (.v 1001) (.c 30))) (tC (t6 (tR (.v 1001) (.c 31))) (.c 0)))))))))))))))))))))))))))))))) (.leaf [(.cl 1005 (-2147483648) 2147483647)])))
def P (a b : Int) : Prop :=
 ∃ I1000 : Int → Int → Nat → Prop, (∃ m, I1000 (md32 b) z32 m) ∧ ∀ y0 y1 : Int, ∀ m0, (((-4611686018427387904) ≤ y0 ∧ y0 ≤ 4611686018427387904) ∧ True ∧ True) → I1000 y0 y1 m0 → (Pb (Pl y0 32) (Pm (PL 0 (y0 - (md32 b))) (Pm (Pl (y0 - (md32 b)) 32) (Pm (PL 0 y0) (Pm (PL (y0 + 1) 4611686018427387904) (∃ m', m' < m0 ∧ I1000 (y0 + 1) (updZ y1 y0 (W6 (rdZ (kZ (bitZ a 0) (kZ (bitZ a 1) (kZ (bitZ a 2) (kZ (bitZ a 3) (kZ (bitZ a 4) (kZ (bitZ a 5) (kZ (bitZ a 6) (kZ (bitZ a 7) (kZ (bitZ a 8) (kZ (bitZ a 9) (kZ (bitZ a 10) (kZ (bitZ a 11) (kZ (bitZ a 12) (kZ (bitZ a 13) (kZ (bitZ a 14) (kZ (bitZ a 15) (kZ (bitZ a 16) (kZ (bitZ a 17) (kZ (bitZ a 18) (kZ (bitZ a 19) (kZ (bitZ a 20) (kZ (bitZ a 21) (kZ (bitZ a 22) (kZ (bitZ a 23) (kZ (bitZ a 24) (kZ (bitZ a 25) (kZ (bitZ a 26) (kZ (bitZ a 27) (kZ
 (bitZ a 28) (kZ (bitZ a 29) (kZ (bitZ a 30) (kZ (bitZ a 31) 0)))))))))))))))))))))))))))))))) (y0 - (md32 b))))) m'))))) (Pn (ofZ (W6 (rdZ y1 0)) (W6 (rdZ y1 1)) (kZ (W6 (rdZ y1 2)) (kZ (W6 (rdZ y1 3)) (kZ (W6 (rdZ y1 4)) (kZ (W6 (rdZ y1 5)) (kZ (W6 (rdZ y1 6)) (kZ (W6 (rdZ y1 7)) (kZ (W6 (rdZ y1 8)) (kZ (W6 (rdZ y1 9)) (kZ (W6 (rdZ y1 10)) (kZ (W6 (rdZ y1 11)) (kZ (W6 (rdZ y1 12)) (kZ (W6 (rdZ y1 13)) (kZ (W6 (rdZ y1 14)) (kZ (W6 (rdZ y1 15)) (kZ (W6 (rdZ y1 16)) (kZ (W6 (rdZ y1 17)) (kZ (W6 (rdZ y1 18)) (kZ (W6 (rdZ y1 19)) (kZ (W6 (rdZ y1 20)) (kZ (W6 (rdZ y1 21)) (kZ (W6 (rdZ y1 22)) (kZ (W6 (rdZ y1 23)) (kZ (W6 (rdZ y1 24)) (kZ (W6 (rdZ y1 25)) (kZ (W6 (rdZ y1 26)) (kZ (W6 (rdZ y1 27)) (kZ (W6 (rdZ y1 28)) (kZ (W6 (rdZ y1 29)) (kZ (W6 (rdZ y1 30)) (kZ (W6 (rdZ y1 31))
 0))))))))))))))))))))))))))))))) (-2147483648) 2147483647 fun y5 => ((y5 : Int) = (aluV 9 a b) ∧ True)))
theorem bits_rd (x : Int) (k : Int) (h0 : 0 ≤ k) (h : k < 32) : rdZ (qQq (bitZ x 0) (qQq (bitZ x 1) (qQq (bitZ x 2) (qQq (bitZ x 3) (qQq (bitZ x 4) (qQq (bitZ x 5) (qQq (bitZ x 6) (qQq (bitZ x 7) (qQq (bitZ x 8) (qQq (bitZ x 9) (qQq (bitZ x 10) (qQq (bitZ x 11) (qQq (bitZ x 12) (qQq (bitZ x 13) (qQq (bitZ x 14) (qQq (bitZ x 15) (qQq (bitZ x 16) (qQq (bitZ x 17) (qQq (bitZ x 18) (qQq (bitZ x 19) (qQq (bitZ x 20) (qQq (bitZ x 21) (qQq (bitZ x 22) (qQq (bitZ x 23) (qQq (bitZ x 24) (qQq (bitZ x 25) (qQq (bitZ x 26) (qQq (bitZ x 27) (qQq (bitZ x 28) (qQq (bitZ x 29) (qQq (bitZ x 30) (qQq (bitZ x 31) 0)))))))))))))))))))))))))))))))) k = bt (b32 x) k.toNat := by
 have e : (qQq (bitZ x 0) (qQq (bitZ x 1) (qQq (bitZ x 2) (qQq (bitZ x 3) (qQq (bitZ x 4) (qQq (bitZ x 5) (qQq (bitZ x 6) (qQq (bitZ x 7) (qQq (bitZ x 8) (qQq (bitZ x 9) (qQq (bitZ x 10) (qQq (bitZ x 11) (qQq (bitZ x 12) (qQq (bitZ x 13) (qQq (bitZ x 14) (qQq (bitZ x 15) (qQq (bitZ x 16) (qQq (bitZ x 17) (qQq (bitZ x 18) (qQq (bitZ x 19) (qQq (bitZ x 20) (qQq (bitZ x 21) (qQq (bitZ x 22) (qQq (bitZ x 23) (qQq (bitZ x 24) (qQq (bitZ x 25) (qQq (bitZ x 26) (qQq (bitZ x 27) (qQq (bitZ x 28) (qQq (bitZ x 29) (qQq (bitZ x 30) (qQq (bitZ x 31) 0)))))))))))))))))))))))))))))))) = chn ((List.range 32).map fun i : Nat => bitZ x i) := rfl
 rw [e, show k = ((k.toNat : Nat) : Int) by omega, qJz]
 have hr : k.toNat < 32 := by omega
 simp only [List.getD_eq_getElem?_getD, List.getElem?_map, List.getElem?_range hr, Option.map_some, Option.getD_some, bitZ_bt, Int.toNat_natCast]
theorem zero_rd (k : Nat) : rdZ (qQq 0 (qQq 0 (qQq 0 (qQq 0 (qQq 0 (qQq 0 (qQq 0 (qQq 0 (qQq 0 (qQq 0 (qQq 0 (qQq 0 (qQq 0 (qQq 0 (qQq 0 (qQq 0 (qQq 0 (qQq 0 (qQq 0 (qQq 0 (qQq 0 (qQq 0 (qQq 0 (qQq 0 (qQq 0 (qQq 0 (qQq 0 (qQq 0 (qQq 0 (qQq 0 (qQq 0 (qQq 0 0)))))))))))))))))))))))))))))))) k = 0 := by
 have e : (qQq 0 (qQq 0 (qQq 0 (qQq 0 (qQq 0 (qQq 0 (qQq 0 (qQq 0 (qQq 0 (qQq 0 (qQq 0 (qQq 0 (qQq 0 (qQq 0 (qQq 0 (qQq 0 (qQq 0 (qQq 0 (qQq 0 (qQq 0 (qQq 0 (qQq 0 (qQq 0 (qQq 0 (qQq 0 (qQq 0 (qQq 0 (qQq 0 (qQq 0 (qQq 0 (qQq 0 (qQq 0 0)))))))))))))))))))))))))))))))) = chn (List.replicate 32 0) := rfl
 rw [e, qJz]
 generalize 32 = n
 simp only [List.getD_eq_getElem?_getD, List.getElem?_replicate]
 split <;> rfl
theorem bt_bd (Z : BitVec 32) (i : Nat) : 0 ≤ bt Z i ∧ bt Z i ≤ 1 := by unfold bt; split <;> omega
theorem bt_w (Z : BitVec 32) (i : Nat) : IntKind.wrap .i64 (bt Z i) = bt Z i := w64 (by have := bt_bd Z i; omega) (by have := bt_bd Z i; omega)
set_option maxRecDepth 100000 in
set_option maxHeartbeats 4000000 in
theorem holds (p0 p1 : Int) (l_p0 : -2147483648 ≤ p0) (u_p0 : p0 ≤ 2147483647) (l_p1 : -2147483648 ≤ p1) (u_p1 : p1 ≤ 2147483647) : P p0 p1 := by
 delta P Pb Pm Pn PL Pl W6 kZ z32
 simp only [nrm, nro, Int.reduceEq, Int.reduceNeg, reduceIte]
 have hn : 0 ≤ md32 p1 ∧ md32 p1 < 32 := by unfold md32; omega
 refine ⟨fun i o m => md32 p1 ≤ i ∧ i ≤ 32 ∧ (∀ j : Nat, j < 32 → IntKind.wrap .i64 (rdZ o j) = if (j : Int) < i ∧ md32 p1 ≤ j then bt (b32 p0) (j - (md32 p1).toNat) else 0) ∧ m = (32 - i).toNat, ⟨_, by omega, by omega, fun j hj => ?_, rfl⟩, fun i o m hb hI => ?_⟩
 ·rw [zero_rd, if_neg (by omega)]; rfl
 obtain ⟨i1, i2, ho, rfl⟩ := hI
 refine ⟨fun h1 => ⟨by omega, by omega, by omega, by omega, _, ?_, by omega, by omega, fun j hj => ?_, rfl⟩, fun h1 => ?_⟩
 ·omega
 ·rw [bits_rd _ _ (by omega) (by omega), bt_w, qZk]
  by_cases e : (j : Int).toNat = i.toNat
  ·rw [if_pos e, if_pos (by omega), bt_w]; congr 1; omega
  ·rw [if_neg e, ho j hj]
   by_cases g : (j : Int) < i ∧ md32 p1 ≤ j
   ·rw [if_pos g, if_pos (by omega)]
   ·rw [if_neg g, if_neg (by omega)]
 ·rintro _ rfl _
  refine Eq.trans (of_word (b32 p0 <<< (p1 % 32).toNat) (fun k : Nat => IntKind.wrap .i64 (rdZ o k)) fun j hj => ?_) (alu9 l_p0 u_p0 l_p1 u_p1).symm
  show IntKind.wrap .i64 (rdZ o j) = _
  rw [ho j hj]
  unfold bt md32 at *
  simp only [BitVec.getLsbD_shiftLeft]
  by_cases g : p1 % 32 ≤ j
  ·rw [if_pos ⟨by omega, g⟩]; simp [hj, show ¬ j < (p1 % 32).toNat by omega]
  ·rw [if_neg (by omega)]; simp [show j < (p1 % 32).toNat by omega]
theorem plain (i v ro p) : statR 2 rc tree ⟨i, fN, v, ro, p⟩ = P (i 0) (i 1) := by kernel_rfl
theorem ran : ranR us (fun _ _ => .auto) rc 2 tree = true := by kernel_rfl
theorem fineT : fineR 2 rc tree = true := by kernel_rfl
theorem ok : RcOk (cxOf 2) rc := okR us_ok ran fineT okb fun i v ro p hρ hcap hpre => by rw [plain]; have q := hρ.hi; exact holds _ _ (q 0 _ rfl).1 (q 0 _ rfl).2 (q 1 _ rfl).1 (q 1 _ rfl).2
end CRShl
namespace CRShr
def rc : Rc := ⟨96, [none, none], [.int .i32, .int .i32], [], .one, [.int .i32 (.f 63 (.c 10) (.v 0) (.v 1))]⟩
theorem okb : rc.ok = true := by kernel_rfl
def mk4 : qJb := [([0, 7], .num (-9223372036854775808) (9223372036854775807)), ([0, 10], .wild), ([0, 11], .wild), ([0, 12], .wild), ([0, 13], .wild), ([0, 14], .wild), ([0, 15], .wild), ([0, 16], .wild), ([0, 17], .wild), ([0, 18], .wild), ([0, 19], .wild), ([0, 20], .wild), ([0, 21], .wild), ([0, 22], .wild), ([0, 23], .wild), ([0, 24], .wild), ([1, 0, 0], .bank 32 [.int .i64])]
noncomputable def us : SMs := fun Γ ins n => smH (cxG n Γ ins) [] (smR (cxG n Γ ins) [CRBits.rc, CROf.rc, CRBy.rc])
theorem us_ok : SMsOk us := fun Γ ins n => qQp (tabsG n Γ ins) (qQa _) (qQn (tabsG n Γ ins) (qQk CRBits.okb (rc_n CRBits.ok) (qQk CROf.okb (rc_n CROf.ok) (qQk CRBy.okb (rc_n CRBy.ok) (qQb _)))))
def Q0 : E := (.cl 1000 (-9223372036854775808) 9223372036854775807)
def Q1 : E := (.f 79 (.v 1) (.c 0) (.c 0))
def Q2 : E := (tp Q0 Q1)
def Q3 : E := (t6 Q2)
def tree : TT (List E) :=
 (.loop ⟨1000, [some (-9223372036854775808, 9223372036854775807), none], [(.c 0), (tC (.c 0) (tC (.c 0) (tC (.c 0) (tC (.c 0) (tC (.c 0) (tC (.c 0) (tC (.c 0) (tC (.c 0) (tC (.c 0) (tC (.c 0) (tC (.c 0) (tC (.c 0) (tC (.c 0) (tC (.c 0) (tC (.c 0) (tC (.c 0) (tC (.c 0) (tC (.c 0) (tC (.c 0) (tC (.c 0) (tC (.c 0) (tC (.c 0) (tC (.c 0) (tC (.c 0) (tC (.c 0) (tC (.c 0) (tC (.c 0) (tC (.c 0) (tC (.c 0) (tC (.c 0) (tC (.c 0) (tC (.c 0) (.c 0)))))))))))))))))))))))))))))))))], 1003⟩ (.br (tk Q3 (.c 32)) (.br (tl (.c 0) Q3) (.br (tl (.c 0) Q0) (.br (tk Q0 (.c 32)) (.back [(t6 (tp Q0 (.c 1))), (.f 14 (.v 1001) Q0 (t6 (tR (tC (.f 2 (.v 0) (.c 0) (.c 0)) (tC (.f 2 (.v 0) (.c 1) (.c 0)) (tC (.f 2 (.v 0) (.c 2) (.c 0)) (tC (.f 2 (.v 0) (.c 3) (.c 0)) (tC (.f 2 (.v 0) (.c 4) (.c 0)) (tC (.f 2 (.v 0)
 (.c 5) (.c 0)) (tC (.f 2 (.v 0) (.c 6) (.c 0)) (tC (.f 2 (.v 0) (.c 7) (.c 0)) (tC (.f 2 (.v 0) (.c 8) (.c 0)) (tC (.f 2 (.v 0) (.c 9) (.c 0)) (tC (.f 2 (.v 0) (.c 10) (.c 0)) (tC (.f 2 (.v 0) (.c 11) (.c 0)) (tC (.f 2 (.v 0) (.c 12) (.c 0)) (tC (.f 2 (.v 0) (.c 13) (.c 0)) (tC (.f 2 (.v 0) (.c 14) (.c 0)) (tC (.f 2 (.v 0) (.c 15) (.c 0)) (tC (.f 2 (.v 0) (.c 16) (.c 0)) (tC (.f 2 (.v 0) (.c 17) (.c 0)) (tC (.f 2 (.v 0) (.c 18) (.c 0)) (tC (.f 2 (.v 0) (.c 19) (.c 0)) (tC (.f 2 (.v 0) (.c 20) (.c 0)) (tC (.f 2 (.v 0) (.c 21) (.c 0)) (tC (.f 2 (.v 0) (.c 22) (.c 0)) (tC (.f 2 (.v 0) (.c 23) (.c 0)) (tC (.f 2 (.v 0) (.c 24) (.c 0)) (tC (.f 2 (.v 0) (.c 25) (.c 0)) (tC (.f 2 (.v 0) (.c 26) (.c 0)) (tC (.f 2 (.v 0) (.c 27) (.c 0)) (tC (.f 2 (.v 0) (.c 28) (.c 0)) (tC (.f 2 (.v 0) (.c 29) (.c
 0)) (tC (.f 2 (.v 0) (.c 30) (.c 0)) (tC (.f 2 (.v 0) (.c 31) (.c 0)) (.c 0))))))))))))))))))))))))))))))))) Q3)))]) (.bad 200)) (.bad 200)) (.bad 200)) (.exit 0)) (.new 1005 (.f 77 (t6 (tR (.v 1001) (.c 0))) (t6 (tR (.v 1001) (.c 1))) (tC (t6 (tR (.v 1001) (.c 2))) (tC (t6 (tR (.v 1001) (.c 3))) (tC (t6 (tR (.v 1001) (.c 4))) (tC (t6 (tR (.v 1001) (.c 5))) (tC (t6 (tR (.v 1001) (.c 6))) (tC (t6 (tR (.v 1001) (.c 7))) (tC (t6 (tR (.v 1001) (.c 8))) (tC (t6 (tR (.v 1001) (.c 9))) (tC (t6 (tR (.v 1001) (.c 10))) (tC (t6 (tR (.v 1001) (.c 11))) (tC (t6 (tR (.v 1001) (.c 12))) (tC (t6 (tR (.v 1001) (.c 13))) (tC (t6 (tR (.v 1001) (.c 14))) (tC (t6 (tR (.v 1001) (.c 15))) (tC (t6 (tR (.v 1001) (.c 16))) (tC (t6 (tR (.v 1001) (.c 17))) (tC (t6 (tR (.v 1001) (.c 18))) (tC (t6 (tR (.v 1001) (.c
 19))) (tC (t6 (tR (.v 1001) (.c 20))) (tC (t6 (tR (.v 1001) (.c 21))) (tC (t6 (tR (.v 1001) (.c 22))) (tC (t6 (tR (.v 1001) (.c 23))) (tC (t6 (tR (.v 1001) (.c 24))) (tC (t6 (tR (.v 1001) (.c 25))) (tC (t6 (tR (.v 1001) (.c 26))) (tC (t6 (tR (.v 1001) (.c 27))) (tC (t6 (tR (.v 1001) (.c 28))) (tC (t6 (tR (.v 1001) (.c 29))) (tC (t6 (tR (.v 1001) (.c 30))) (tC (t6 (tR (.v 1001) (.c 31))) (.c 0)))))))))))))))))))))))))))))))) (.leaf [(.cl 1005 (-2147483648) 2147483647)])))
def P (a b : Int) : Prop :=
 ∃ I1000 : Int → Int → Nat → Prop, (∃ m, I1000 0 z32 m) ∧ ∀ y0 y1 : Int, ∀ m0, (((-9223372036854775808) ≤ y0 ∧ y0 ≤ 9223372036854775807) ∧ True ∧ True) → I1000 y0 y1 m0 → (Pb (Pl (W6 (y0 + (md32 b))) 32) (Pm (PL 0 (W6 (y0 + (md32 b)))) (Pm (PL 0 y0) (Pm (Pl y0 32) (∃ m', m' < m0 ∧ I1000 (W6 (y0 + 1)) (updZ y1 y0 (W6 (rdZ (kZ (bitZ a 0) (kZ (bitZ a 1) (kZ (bitZ a 2) (kZ (bitZ a 3) (kZ (bitZ a 4) (kZ (bitZ a 5) (kZ (bitZ a 6) (kZ (bitZ a 7) (kZ (bitZ a 8) (kZ (bitZ a 9) (kZ (bitZ a 10) (kZ (bitZ a 11) (kZ (bitZ a 12) (kZ (bitZ a 13) (kZ (bitZ a 14) (kZ (bitZ a 15) (kZ (bitZ a 16) (kZ (bitZ a 17) (kZ (bitZ a 18) (kZ (bitZ a 19) (kZ (bitZ a 20) (kZ (bitZ a 21) (kZ (bitZ a 22) (kZ (bitZ a 23) (kZ (bitZ a 24) (kZ (bitZ a 25) (kZ (bitZ a 26) (kZ (bitZ a 27) (kZ (bitZ a 28) (kZ (bitZ a 29) (kZ
 (bitZ a 30) (kZ (bitZ a 31) 0)))))))))))))))))))))))))))))))) (W6 (y0 + (md32 b)))))) m')))) (Pn (ofZ (W6 (rdZ y1 0)) (W6 (rdZ y1 1)) (kZ (W6 (rdZ y1 2)) (kZ (W6 (rdZ y1 3)) (kZ (W6 (rdZ y1 4)) (kZ (W6 (rdZ y1 5)) (kZ (W6 (rdZ y1 6)) (kZ (W6 (rdZ y1 7)) (kZ (W6 (rdZ y1 8)) (kZ (W6 (rdZ y1 9)) (kZ (W6 (rdZ y1 10)) (kZ (W6 (rdZ y1 11)) (kZ (W6 (rdZ y1 12)) (kZ (W6 (rdZ y1 13)) (kZ (W6 (rdZ y1 14)) (kZ (W6 (rdZ y1 15)) (kZ (W6 (rdZ y1 16)) (kZ (W6 (rdZ y1 17)) (kZ (W6 (rdZ y1 18)) (kZ (W6 (rdZ y1 19)) (kZ (W6 (rdZ y1 20)) (kZ (W6 (rdZ y1 21)) (kZ (W6 (rdZ y1 22)) (kZ (W6 (rdZ y1 23)) (kZ (W6 (rdZ y1 24)) (kZ (W6 (rdZ y1 25)) (kZ (W6 (rdZ y1 26)) (kZ (W6 (rdZ y1 27)) (kZ (W6 (rdZ y1 28)) (kZ (W6 (rdZ y1 29)) (kZ (W6 (rdZ y1 30)) (kZ (W6 (rdZ y1 31)) 0)))))))))))))))))))))))))))))))
 (-2147483648) 2147483647 fun y5 => ((y5 : Int) = (aluV 10 a b) ∧ True)))
theorem bits_rd (x : Int) (k : Int) (h0 : 0 ≤ k) (h : k < 32) : rdZ (qQq (bitZ x 0) (qQq (bitZ x 1) (qQq (bitZ x 2) (qQq (bitZ x 3) (qQq (bitZ x 4) (qQq (bitZ x 5) (qQq (bitZ x 6) (qQq (bitZ x 7) (qQq (bitZ x 8) (qQq (bitZ x 9) (qQq (bitZ x 10) (qQq (bitZ x 11) (qQq (bitZ x 12) (qQq (bitZ x 13) (qQq (bitZ x 14) (qQq (bitZ x 15) (qQq (bitZ x 16) (qQq (bitZ x 17) (qQq (bitZ x 18) (qQq (bitZ x 19) (qQq (bitZ x 20) (qQq (bitZ x 21) (qQq (bitZ x 22) (qQq (bitZ x 23) (qQq (bitZ x 24) (qQq (bitZ x 25) (qQq (bitZ x 26) (qQq (bitZ x 27) (qQq (bitZ x 28) (qQq (bitZ x 29) (qQq (bitZ x 30) (qQq (bitZ x 31) 0)))))))))))))))))))))))))))))))) k = bt (b32 x) k.toNat := by
 have e : (qQq (bitZ x 0) (qQq (bitZ x 1) (qQq (bitZ x 2) (qQq (bitZ x 3) (qQq (bitZ x 4) (qQq (bitZ x 5) (qQq (bitZ x 6) (qQq (bitZ x 7) (qQq (bitZ x 8) (qQq (bitZ x 9) (qQq (bitZ x 10) (qQq (bitZ x 11) (qQq (bitZ x 12) (qQq (bitZ x 13) (qQq (bitZ x 14) (qQq (bitZ x 15) (qQq (bitZ x 16) (qQq (bitZ x 17) (qQq (bitZ x 18) (qQq (bitZ x 19) (qQq (bitZ x 20) (qQq (bitZ x 21) (qQq (bitZ x 22) (qQq (bitZ x 23) (qQq (bitZ x 24) (qQq (bitZ x 25) (qQq (bitZ x 26) (qQq (bitZ x 27) (qQq (bitZ x 28) (qQq (bitZ x 29) (qQq (bitZ x 30) (qQq (bitZ x 31) 0)))))))))))))))))))))))))))))))) = chn ((List.range 32).map fun i : Nat => bitZ x i) := rfl
 rw [e, show k = ((k.toNat : Nat) : Int) by omega, qJz]
 have hr : k.toNat < 32 := by omega
 simp only [List.getD_eq_getElem?_getD, List.getElem?_map, List.getElem?_range hr, Option.map_some, Option.getD_some, bitZ_bt, Int.toNat_natCast]
theorem zero_rd (k : Nat) : rdZ (qQq 0 (qQq 0 (qQq 0 (qQq 0 (qQq 0 (qQq 0 (qQq 0 (qQq 0 (qQq 0 (qQq 0 (qQq 0 (qQq 0 (qQq 0 (qQq 0 (qQq 0 (qQq 0 (qQq 0 (qQq 0 (qQq 0 (qQq 0 (qQq 0 (qQq 0 (qQq 0 (qQq 0 (qQq 0 (qQq 0 (qQq 0 (qQq 0 (qQq 0 (qQq 0 (qQq 0 (qQq 0 0)))))))))))))))))))))))))))))))) k = 0 := by
 have e : (qQq 0 (qQq 0 (qQq 0 (qQq 0 (qQq 0 (qQq 0 (qQq 0 (qQq 0 (qQq 0 (qQq 0 (qQq 0 (qQq 0 (qQq 0 (qQq 0 (qQq 0 (qQq 0 (qQq 0 (qQq 0 (qQq 0 (qQq 0 (qQq 0 (qQq 0 (qQq 0 (qQq 0 (qQq 0 (qQq 0 (qQq 0 (qQq 0 (qQq 0 (qQq 0 (qQq 0 (qQq 0 0)))))))))))))))))))))))))))))))) = chn (List.replicate 32 0) := rfl
 rw [e, qJz]
 generalize 32 = n
 simp only [List.getD_eq_getElem?_getD, List.getElem?_replicate]
 split <;> rfl
theorem bt_bd (Z : BitVec 32) (i : Nat) : 0 ≤ bt Z i ∧ bt Z i ≤ 1 := by unfold bt; split <;> omega
theorem bt_w (Z : BitVec 32) (i : Nat) : IntKind.wrap .i64 (bt Z i) = bt Z i := w64 (by have := bt_bd Z i; omega) (by have := bt_bd Z i; omega)
set_option maxRecDepth 100000 in
set_option maxHeartbeats 4000000 in
theorem holds (p0 p1 : Int) (l_p0 : -2147483648 ≤ p0) (u_p0 : p0 ≤ 2147483647) (l_p1 : -2147483648 ≤ p1) (u_p1 : p1 ≤ 2147483647) : P p0 p1 := by
 delta P Pb Pm Pn PL Pl W6 kZ z32
 simp only [nrm, nro, Int.reduceEq, Int.reduceNeg, reduceIte]
 have hn : 0 ≤ md32 p1 ∧ md32 p1 < 32 := by unfold md32; omega
 refine ⟨fun i o m => 0 ≤ i ∧ i ≤ 32 ∧ (i = 0 ∨ i + md32 p1 ≤ 32) ∧ (∀ j : Nat, j < 32 → IntKind.wrap .i64 (rdZ o j) = if (j : Int) < i then bt (b32 p0) (j + (md32 p1).toNat) else 0) ∧ m = (32 - i).toNat, ⟨_, by omega, by omega, .inl rfl, fun j hj => ?_, rfl⟩, fun i o m hb hI => ?_⟩
 ·rw [zero_rd, if_neg (by omega)]; rfl
 obtain ⟨i0, i1, i2, ho, rfl⟩ := hI
 have wi : IntKind.wrap .i64 (i + md32 p1) = i + md32 p1 := w64 (by omega) (by omega)
 have wj : IntKind.wrap .i64 (i + 1) = i + 1 := w64 (by omega) (by omega)
 simp only [wi, wj]
 refine ⟨fun h1 => ⟨by omega, by omega, by omega, _, ?_, by omega, by omega, by omega, fun j hj => ?_, rfl⟩, fun h1 => ?_⟩
 ·omega
 ·rw [bits_rd _ _ (by omega) (by omega), bt_w, qZk]
  by_cases e : (j : Int).toNat = i.toNat
  ·rw [if_pos e, if_pos (by omega), bt_w]; congr 1; omega
  ·rw [if_neg e, ho j hj]
   by_cases g : (j : Int) < i
   ·rw [if_pos g, if_pos (by omega)]
   ·rw [if_neg g, if_neg (by omega)]
 ·rintro _ rfl _
  refine Eq.trans (of_word (b32 p0 >>> (p1 % 32).toNat) (fun k : Nat => IntKind.wrap .i64 (rdZ o k)) fun j hj => ?_) (alu10 l_p0 u_p0 l_p1 u_p1).symm
  show IntKind.wrap .i64 (rdZ o j) = _
  rw [ho j hj]
  unfold bt md32 at *
  simp only [BitVec.getLsbD_ushiftRight]
  by_cases g : (j : Int) < i
  ·rw [if_pos g, Nat.add_comm]
  ·rw [if_neg g, BitVec.getLsbD_of_ge _ _ (by omega)]; rfl
theorem plain (i v ro p) : statR 2 rc tree ⟨i, fN, v, ro, p⟩ = P (i 0) (i 1) := by kernel_rfl
theorem ran : ranR us (fun f i => if f = 96 then (match i with | 4 => .tmpl (some mk4) | _ => .auto) else .auto) rc 2 tree = true := by kernel_rfl
theorem fineT : fineR 2 rc tree = true := by kernel_rfl
theorem ok : RcOk (cxOf 2) rc := okR us_ok ran fineT okb fun i v ro p hρ hcap hpre => by rw [plain]; have q := hρ.hi; exact holds _ _ (q 0 _ rfl).1 (q 0 _ rfl).2 (q 1 _ rfl).1 (q 1 _ rfl).2
end CRShr
namespace CRSar
def rc : Rc := ⟨91, [none, none], [.int .i32, .int .i32], [], .one, [.int .i32 (.f 63 (.c 11) (.v 0) (.v 1))]⟩
theorem okb : rc.ok = true := by kernel_rfl
noncomputable def us : SMs := fun Γ ins n => smH (cxG n Γ ins) [] (smR (cxG n Γ ins) [CRBy.rc])
theorem us_ok : SMsOk us := fun Γ ins n => qQp (tabsG n Γ ins) (qQa _) (qQn (tabsG n Γ ins) (qQk CRBy.okb (rc_n CRBy.ok) (qQb _)))
def tree : TT (List E) :=
(.loop ⟨1000, [some (-9223372036854775808, 9223372036854775807), some (0, 4611686018427387904)], [(.c 1), (.c 0)], 1003⟩
 (.br (.b .lt .i64 (.cl 1001 0 4611686018427387904) (.f 79 (.v 1) (.c 0) (.c 0)))
 (.br (.b .le .i64 (.b .padd .i64 (.cl 1001 0 4611686018427387904) (.c 1)) (.c 4611686018427387904))
 (.back [(.w .i64 (.b .pmul .i64 (.c 2) (.cl 1000 (-9223372036854775808) 9223372036854775807))), (.b .padd .i64 (.cl 1001 0 4611686018427387904) (.c 1))])
 (.bad 303))
 (.exit 0))
 (.br (.b .eq .i64 (.cl 1000 (-9223372036854775808) 9223372036854775807) (.c 0))
 (.bad 3)
 (.br (.b .lt .i64 (.b .rem .i64 (.v 0) (.cl 1000 (-9223372036854775808) 9223372036854775807)) (.c 0))
 (.leaf [(.w .i32 (.b .quo .i64 (.w .i64 (.b .psub .i64 (.v 0) (.w .i64 (.b .padd .i64 (.b .rem .i64 (.v 0) (.cl 1000 (-9223372036854775808) 9223372036854775807)) (.cl 1000 (-9223372036854775808) 9223372036854775807))))) (.cl 1000 (-9223372036854775808) 9223372036854775807)))])
 (.leaf [(.w .i32 (.b .quo .i64 (.w .i64 (.b .psub .i64 (.v 0) (.b .rem .i64 (.v 0) (.cl 1000 (-9223372036854775808) 9223372036854775807)))) (.cl 1000 (-9223372036854775808) 9223372036854775807)))]))))
def P (p0 p1 : Int) : Prop :=
 ∃ I1000 : Int → Int → Nat → Prop, (∃ m, I1000 1 0 m) ∧
 ∀ y1000 y1001 : Int, ∀ m1000, (((-9223372036854775808) ≤ y1000 ∧ y1000 ≤ 9223372036854775807) ∧ (0 ≤ y1001 ∧ y1001 ≤ 4611686018427387904) ∧ True) → I1000 y1000 y1001 m1000 →
  (((qQz (decide (y1001 < (md32 p1)))) ≠ 0 →
   (((qQz (decide ((y1001 + 1) ≤ 4611686018427387904))) ≠ 0 →
    ∃ m', m' < m1000 ∧ I1000 (IntKind.wrap .i64 (2 * y1000)) (y1001 + 1) m') ∧ ((qQz (decide ((y1001 + 1) ≤ 4611686018427387904))) = 0 →
    False))) ∧ ((qQz (decide (y1001 < (md32 p1)))) = 0 →
   (((qQz (y1000 == 0)) ≠ 0 →
    False) ∧ ((qQz (y1000 == 0)) = 0 →
    (((qQz (decide ((BO.ev .rem .i64 p0 y1000) < 0))) ≠ 0 →
     ((IntKind.wrap .i32 (BO.ev .quo .i64 (IntKind.wrap .i64 (p0 - (IntKind.wrap .i64 ((BO.ev .rem .i64 p0 y1000) + y1000)))) y1000)) : Int) = (aluV 11 p0 p1) ∧ True) ∧ ((qQz (decide ((BO.ev .rem .i64 p0 y1000) < 0))) = 0 →
     ((IntKind.wrap .i32 (BO.ev .quo .i64 (IntKind.wrap .i64 (p0 - (BO.ev .rem .i64 p0 y1000))) y1000)) : Int) = (aluV 11 p0 p1) ∧ True))))))
theorem alu11 {x n : Int} (x1 : -2147483648 ≤ x) (x2 : x ≤ 2147483647) (n1 : -2147483648 ≤ n) (n2 : n ≤ 2147483647) : aluV 11 x n = x / 2 ^ (md32 n).toNat := by
 rw [qJq (qKk (by decide) (by decide) (by decide) (by decide)) x1 x2 n1 n2]
 unfold aluX
 simp only [Int.reduceEq, if_false, if_true]
 rw [and31, qXg, show Nat.min (n % 32).toNat IntKind.i32.bits = (n % 32).toNat from Nat.min_eq_left (by show (n % 32).toNat ≤ 32; omega)]; rfl
theorem sar_div {x p : Int} (hp : 0 < p) (hp2 : p ≤ 2147483648) (x1 : -2147483648 ≤ x) (x2 : x ≤ 2147483647) :
  (x.tmod p < 0 → IntKind.wrap .i32 (BO.ev .quo .i64 (IntKind.wrap .i64 (x - IntKind.wrap .i64 (x.tmod p + p))) p) = x / p) ∧ (0 ≤ x.tmod p → IntKind.wrap .i32 (BO.ev .quo .i64 (IntKind.wrap .i64 (x - x.tmod p)) p) = x / p) := by
 have h1 := Int.emod_add_mul_ediv x p
 have h2 := Int.emod_nonneg x (show p ≠ 0 by omega)
 have h3 := Int.emod_lt_of_pos x hp
 have hd : -2147483648 ≤ x / p ∧ x / p ≤ 2147483647 := by
  constructor
  ·refine (Int.le_ediv_iff_mul_le hp).2 ?_
   have := Int.mul_le_mul_of_nonneg_left (show (1 : Int) ≤ p by omega) (show (0 : Int) ≤ 2147483648 by decide)
   omega
  ·have h5 := Int.ediv_le_ediv hp x2
   have h6 : (2147483647 : Int) / p ≤ 2147483647 := Int.ediv_le_self p (by decide)
   omega
 have ex : (x - x % p).tdiv p = x / p := by
  have : x - x % p = p * (x / p) := by omega
  rw [this, Int.mul_tdiv_cancel_left _ (by omega)]
 have key : IntKind.wrap .i32 (BO.ev .quo .i64 (x - x % p) p) = x / p := by
  show IntKind.wrap .i32 (IntKind.wrap .i64 ((x - x % p).tdiv p)) = _
  rw [ex, w64 (by omega) (by omega), wi32 hd.1 hd.2]
 have tm : x.tmod p = x % p ∨ x.tmod p = x % p - p ∧ x % p ≠ 0 := by
  rcases Int.le_total 0 x with g | g
  ·exact .inl (Int.tmod_eq_emod_of_nonneg g)
  ·have h8 : x.tmod p = -((-x) % p) := by
    rw [← Int.neg_neg x, Int.neg_tmod, Int.tmod_eq_emod_of_nonneg (by omega), Int.neg_neg]
   by_cases hz : x % p = 0
   ·have : (-x) % p = 0 := by rw [Int.neg_emod, if_pos (Int.dvd_of_emod_eq_zero hz)]
    exact .inl (by omega)
   ·have h9 : (-x) % p = p - x % p := by
     rw [Int.neg_emod, if_neg (fun h => hz (Int.emod_eq_zero_of_dvd h))]; omega
    exact .inr ⟨by omega, hz⟩
 constructor
 ·intro g
  have e : x.tmod p + p = x % p := by omega
  rw [e, w64 (x := x % p) (by omega) (by omega), w64 (x := x - x % p) (by omega) (by omega)]
  exact key
 ·intro g
  have e : x.tmod p = x % p := by omega
  rw [e, w64 (x := x - x % p) (by omega) (by omega)]
  exact key
theorem holds (p0 p1 : Int) (l_p0 : -2147483648 ≤ p0) (u_p0 : p0 ≤ 2147483647) (l_p1 : -2147483648 ≤ p1) (u_p1 : p1 ≤ 2147483647) : P p0 p1 := by
 unfold P
 simp only [nrm, nro, Int.reduceEq, Int.reduceNeg, reduceIte]
 have hn : 0 ≤ md32 p1 ∧ md32 p1 < 32 := by unfold md32; omega
 have hp : ∀ k : Nat, k ≤ 31 → (0 : Int) < 2 ^ k ∧ (2 : Int) ^ k ≤ 2147483648 := by
  intro k hk
  have : ∀ j : Fin 32, (0 : Int) < 2 ^ j.val ∧ (2 : Int) ^ j.val ≤ 2147483648 := by decide +kernel
  exact this ⟨k, by omega⟩
 refine ⟨fun y i m => i ≤ md32 p1 ∧ y = 2 ^ i.toNat ∧ m = (md32 p1 - i).toNat, ⟨_, hn.1, rfl, rfl⟩, fun y i m hb hI => ?_⟩
 obtain ⟨hi, rfl, rfl⟩ := hI
 have hpi := hp i.toNat (by omega)
 refine ⟨fun h1 => ⟨by omega, _, ?_, by omega, ?_, rfl⟩, fun h1 => ?_⟩
 ·omega
 ·rw [w64 (by omega) (by omega), show (i + 1).toNat = i.toNat + 1 by omega, Int.pow_succ, Int.mul_comm]
 ·have e : i = md32 p1 := by omega
  rw [alu11 l_p0 u_p0 l_p1 u_p1, ← e]
  have := sar_div hpi.1 hpi.2 l_p0 u_p0
  exact ⟨fun h => by omega, fun h => ⟨this.1, this.2⟩⟩
theorem plain (i v ro p) : statR 2 rc tree ⟨i, fN, v, ro, p⟩ = P (i 0) (i 1) := by kernel_rfl
theorem ran : ranR us (fun _ _ => .auto) rc 2 tree = true := by kernel_rfl
theorem fineT : fineR 2 rc tree = true := by kernel_rfl
theorem ok : RcOk (cxOf 2) rc := okR us_ok ran fineT okb fun i v ro p hρ hcap hpre => by rw [plain]; have q := hρ.hi; exact holds _ _ (q 0 _ rfl).1 (q 0 _ rfl).2 (q 1 _ rfl).1 (q 1 _ rfl).2
end CRSar
namespace CRRol
def rc : Rc := ⟨97, [none, none], [.int .i32, .int .i32], [], .one, [.int .i32 (.f 63 (.c 12) (.v 0) (.v 1))]⟩
theorem okb : rc.ok = true := by kernel_rfl
noncomputable def us : SMs := fun Γ ins n => smH (cxG n Γ ins) [] (smR (cxG n Γ ins) [CRBits.rc, CROf.rc, CRBy.rc])
theorem us_ok : SMsOk us := fun Γ ins n => qQp (tabsG n Γ ins) (qQa _) (qQn (tabsG n Γ ins) (qQk CRBits.okb (rc_n CRBits.ok) (qQk CROf.okb (rc_n CROf.ok) (qQk CRBy.okb (rc_n CRBy.ok) (qQb _)))))
def Q0 : E := (.cl 1000 0 4611686018427387904)
def Q1 : E := (tp Q0 (.c 1))
def tree : TT (List E) :=
 (.loop ⟨1000, [some (0, 4611686018427387904), none], [(.c 0), (tC (.c 0) (tC (.c 0) (tC (.c 0) (tC (.c 0) (tC (.c 0) (tC (.c 0) (tC (.c 0) (tC (.c 0) (tC (.c 0) (tC (.c 0) (tC (.c 0) (tC (.c 0) (tC (.c 0) (tC (.c 0) (tC (.c 0) (tC (.c 0) (tC (.c 0) (tC (.c 0) (tC (.c 0) (tC (.c 0) (tC (.c 0) (tC (.c 0) (tC (.c 0) (tC (.c 0) (tC (.c 0) (tC (.c 0) (tC (.c 0) (tC (.c 0) (tC (.c 0) (tC (.c 0) (tC (.c 0) (tC (.c 0) (.c 0)))))))))))))))))))))))))))))))))], 1005⟩ (.br (tk Q0 (.c 32)) (.new 1003 (.b .rem .i64 (tp Q0 (.f 79 (.v 1) (.c 0) (.c 0))) (.c 32)) (.new 1004 (t6 (tR (tC (.f 2 (.v 0) (.c 0) (.c 0)) (tC (.f 2 (.v 0) (.c 1) (.c 0)) (tC (.f 2 (.v 0) (.c 2) (.c 0)) (tC (.f 2 (.v 0) (.c 3) (.c 0)) (tC (.f 2 (.v 0) (.c 4) (.c 0)) (tC (.f 2 (.v 0) (.c 5) (.c 0)) (tC (.f 2 (.v 0) (.c 6) (.c 0))
 (tC (.f 2 (.v 0) (.c 7) (.c 0)) (tC (.f 2 (.v 0) (.c 8) (.c 0)) (tC (.f 2 (.v 0) (.c 9) (.c 0)) (tC (.f 2 (.v 0) (.c 10) (.c 0)) (tC (.f 2 (.v 0) (.c 11) (.c 0)) (tC (.f 2 (.v 0) (.c 12) (.c 0)) (tC (.f 2 (.v 0) (.c 13) (.c 0)) (tC (.f 2 (.v 0) (.c 14) (.c 0)) (tC (.f 2 (.v 0) (.c 15) (.c 0)) (tC (.f 2 (.v 0) (.c 16) (.c 0)) (tC (.f 2 (.v 0) (.c 17) (.c 0)) (tC (.f 2 (.v 0) (.c 18) (.c 0)) (tC (.f 2 (.v 0) (.c 19) (.c 0)) (tC (.f 2 (.v 0) (.c 20) (.c 0)) (tC (.f 2 (.v 0) (.c 21) (.c 0)) (tC (.f 2 (.v 0) (.c 22) (.c 0)) (tC (.f 2 (.v 0) (.c 23) (.c 0)) (tC (.f 2 (.v 0) (.c 24) (.c 0)) (tC (.f 2 (.v 0) (.c 25) (.c 0)) (tC (.f 2 (.v 0) (.c 26) (.c 0)) (tC (.f 2 (.v 0) (.c 27) (.c 0)) (tC (.f 2 (.v 0) (.c 28) (.c 0)) (tC (.f 2 (.v 0) (.c 29) (.c 0)) (tC (.f 2 (.v 0) (.c 30) (.c 0)) (tC (.f 2
 (.v 0) (.c 31) (.c 0)) (.c 0))))))))))))))))))))))))))))))))) Q0)) (.br (tl Q1 (.c 4611686018427387904)) (.back [Q1, (.f 14 (.v 1001) (.cl 1003 0 31) (.cl 1004 (-9223372036854775808) 9223372036854775807))]) (.bad 303)))) (.exit 0)) (.new 1007 (.f 77 (t6 (tR (.v 1001) (.c 0))) (t6 (tR (.v 1001) (.c 1))) (tC (t6 (tR (.v 1001) (.c 2))) (tC (t6 (tR (.v 1001) (.c 3))) (tC (t6 (tR (.v 1001) (.c 4))) (tC (t6 (tR (.v 1001) (.c 5))) (tC (t6 (tR (.v 1001) (.c 6))) (tC (t6 (tR (.v 1001) (.c 7))) (tC (t6 (tR (.v 1001) (.c 8))) (tC (t6 (tR (.v 1001) (.c 9))) (tC (t6 (tR (.v 1001) (.c 10))) (tC (t6 (tR (.v 1001) (.c 11))) (tC (t6 (tR (.v 1001) (.c 12))) (tC (t6 (tR (.v 1001) (.c 13))) (tC (t6 (tR (.v 1001) (.c 14))) (tC (t6 (tR (.v 1001) (.c 15))) (tC (t6 (tR (.v 1001) (.c 16))) (tC (t6 (tR (.v 1001)
 (.c 17))) (tC (t6 (tR (.v 1001) (.c 18))) (tC (t6 (tR (.v 1001) (.c 19))) (tC (t6 (tR (.v 1001) (.c 20))) (tC (t6 (tR (.v 1001) (.c 21))) (tC (t6 (tR (.v 1001) (.c 22))) (tC (t6 (tR (.v 1001) (.c 23))) (tC (t6 (tR (.v 1001) (.c 24))) (tC (t6 (tR (.v 1001) (.c 25))) (tC (t6 (tR (.v 1001) (.c 26))) (tC (t6 (tR (.v 1001) (.c 27))) (tC (t6 (tR (.v 1001) (.c 28))) (tC (t6 (tR (.v 1001) (.c 29))) (tC (t6 (tR (.v 1001) (.c 30))) (tC (t6 (tR (.v 1001) (.c 31))) (.c 0)))))))))))))))))))))))))))))))) (.leaf [(.cl 1007 (-2147483648) 2147483647)])))
def P (a b : Int) : Prop :=
 ∃ I1000 : Int → Int → Nat → Prop, (∃ m, I1000 0 z32 m) ∧ ∀ y0 y1 : Int, ∀ m0, ((0 ≤ y0 ∧ y0 ≤ 4611686018427387904) ∧ True ∧ True) → I1000 y0 y1 m0 → (Pb (Pl y0 32) (Pn (BO.ev .rem .i64 (y0 + (md32 b)) 32) 0 31 fun y3 => Pn (W6 (rdZ (kZ (bitZ a 0) (kZ (bitZ a 1) (kZ (bitZ a 2) (kZ (bitZ a 3) (kZ (bitZ a 4) (kZ (bitZ a 5) (kZ (bitZ a 6) (kZ (bitZ a 7) (kZ (bitZ a 8) (kZ (bitZ a 9) (kZ (bitZ a 10) (kZ (bitZ a 11) (kZ (bitZ a 12) (kZ (bitZ a 13) (kZ (bitZ a 14) (kZ (bitZ a 15) (kZ (bitZ a 16) (kZ (bitZ a 17) (kZ (bitZ a 18) (kZ (bitZ a 19) (kZ (bitZ a 20) (kZ (bitZ a 21) (kZ (bitZ a 22) (kZ (bitZ a 23) (kZ (bitZ a 24) (kZ (bitZ a 25) (kZ (bitZ a 26) (kZ (bitZ a 27) (kZ (bitZ a 28) (kZ (bitZ a 29) (kZ (bitZ a 30) (kZ (bitZ a 31) 0)))))))))))))))))))))))))))))))) y0)) (-9223372036854775808)
 9223372036854775807 fun y4 => (Pm (PL (y0 + 1) 4611686018427387904) (∃ m', m' < m0 ∧ I1000 (y0 + 1) (updZ y1 y3 y4) m'))) (Pn (ofZ (W6 (rdZ y1 0)) (W6 (rdZ y1 1)) (kZ (W6 (rdZ y1 2)) (kZ (W6 (rdZ y1 3)) (kZ (W6 (rdZ y1 4)) (kZ (W6 (rdZ y1 5)) (kZ (W6 (rdZ y1 6)) (kZ (W6 (rdZ y1 7)) (kZ (W6 (rdZ y1 8)) (kZ (W6 (rdZ y1 9)) (kZ (W6 (rdZ y1 10)) (kZ (W6 (rdZ y1 11)) (kZ (W6 (rdZ y1 12)) (kZ (W6 (rdZ y1 13)) (kZ (W6 (rdZ y1 14)) (kZ (W6 (rdZ y1 15)) (kZ (W6 (rdZ y1 16)) (kZ (W6 (rdZ y1 17)) (kZ (W6 (rdZ y1 18)) (kZ (W6 (rdZ y1 19)) (kZ (W6 (rdZ y1 20)) (kZ (W6 (rdZ y1 21)) (kZ (W6 (rdZ y1 22)) (kZ (W6 (rdZ y1 23)) (kZ (W6 (rdZ y1 24)) (kZ (W6 (rdZ y1 25)) (kZ (W6 (rdZ y1 26)) (kZ (W6 (rdZ y1 27)) (kZ (W6 (rdZ y1 28)) (kZ (W6 (rdZ y1 29)) (kZ (W6 (rdZ y1 30)) (kZ (W6 (rdZ y1 31))
 0))))))))))))))))))))))))))))))) (-2147483648) 2147483647 fun y7 => ((y7 : Int) = (aluV 12 a b) ∧ True)))
theorem bits_rd (x : Int) (k : Int) (h0 : 0 ≤ k) (h : k < 32) : rdZ (qQq (bitZ x 0) (qQq (bitZ x 1) (qQq (bitZ x 2) (qQq (bitZ x 3) (qQq (bitZ x 4) (qQq (bitZ x 5) (qQq (bitZ x 6) (qQq (bitZ x 7) (qQq (bitZ x 8) (qQq (bitZ x 9) (qQq (bitZ x 10) (qQq (bitZ x 11) (qQq (bitZ x 12) (qQq (bitZ x 13) (qQq (bitZ x 14) (qQq (bitZ x 15) (qQq (bitZ x 16) (qQq (bitZ x 17) (qQq (bitZ x 18) (qQq (bitZ x 19) (qQq (bitZ x 20) (qQq (bitZ x 21) (qQq (bitZ x 22) (qQq (bitZ x 23) (qQq (bitZ x 24) (qQq (bitZ x 25) (qQq (bitZ x 26) (qQq (bitZ x 27) (qQq (bitZ x 28) (qQq (bitZ x 29) (qQq (bitZ x 30) (qQq (bitZ x 31) 0)))))))))))))))))))))))))))))))) k = bt (b32 x) k.toNat := by
 have e : (qQq (bitZ x 0) (qQq (bitZ x 1) (qQq (bitZ x 2) (qQq (bitZ x 3) (qQq (bitZ x 4) (qQq (bitZ x 5) (qQq (bitZ x 6) (qQq (bitZ x 7) (qQq (bitZ x 8) (qQq (bitZ x 9) (qQq (bitZ x 10) (qQq (bitZ x 11) (qQq (bitZ x 12) (qQq (bitZ x 13) (qQq (bitZ x 14) (qQq (bitZ x 15) (qQq (bitZ x 16) (qQq (bitZ x 17) (qQq (bitZ x 18) (qQq (bitZ x 19) (qQq (bitZ x 20) (qQq (bitZ x 21) (qQq (bitZ x 22) (qQq (bitZ x 23) (qQq (bitZ x 24) (qQq (bitZ x 25) (qQq (bitZ x 26) (qQq (bitZ x 27) (qQq (bitZ x 28) (qQq (bitZ x 29) (qQq (bitZ x 30) (qQq (bitZ x 31) 0)))))))))))))))))))))))))))))))) = chn ((List.range 32).map fun i : Nat => bitZ x i) := rfl
 rw [e, show k = ((k.toNat : Nat) : Int) by omega, qJz]
 have hr : k.toNat < 32 := by omega
 simp only [List.getD_eq_getElem?_getD, List.getElem?_map, List.getElem?_range hr, Option.map_some, Option.getD_some, bitZ_bt, Int.toNat_natCast]
theorem zero_rd (k : Nat) : rdZ (qQq 0 (qQq 0 (qQq 0 (qQq 0 (qQq 0 (qQq 0 (qQq 0 (qQq 0 (qQq 0 (qQq 0 (qQq 0 (qQq 0 (qQq 0 (qQq 0 (qQq 0 (qQq 0 (qQq 0 (qQq 0 (qQq 0 (qQq 0 (qQq 0 (qQq 0 (qQq 0 (qQq 0 (qQq 0 (qQq 0 (qQq 0 (qQq 0 (qQq 0 (qQq 0 (qQq 0 (qQq 0 0)))))))))))))))))))))))))))))))) k = 0 := by
 have e : (qQq 0 (qQq 0 (qQq 0 (qQq 0 (qQq 0 (qQq 0 (qQq 0 (qQq 0 (qQq 0 (qQq 0 (qQq 0 (qQq 0 (qQq 0 (qQq 0 (qQq 0 (qQq 0 (qQq 0 (qQq 0 (qQq 0 (qQq 0 (qQq 0 (qQq 0 (qQq 0 (qQq 0 (qQq 0 (qQq 0 (qQq 0 (qQq 0 (qQq 0 (qQq 0 (qQq 0 (qQq 0 0)))))))))))))))))))))))))))))))) = chn (List.replicate 32 0) := rfl
 rw [e, qJz]
 generalize 32 = n
 simp only [List.getD_eq_getElem?_getD, List.getElem?_replicate]
 split <;> rfl
theorem bt_bd (Z : BitVec 32) (i : Nat) : 0 ≤ bt Z i ∧ bt Z i ≤ 1 := by unfold bt; split <;> omega
theorem bt_w (Z : BitVec 32) (i : Nat) : IntKind.wrap .i64 (bt Z i) = bt Z i := w64 (by have := bt_bd Z i; omega) (by have := bt_bd Z i; omega)
set_option maxRecDepth 100000 in
set_option maxHeartbeats 4000000 in
theorem holds (p0 p1 : Int) (l_p0 : -2147483648 ≤ p0) (u_p0 : p0 ≤ 2147483647) (l_p1 : -2147483648 ≤ p1) (u_p1 : p1 ≤ 2147483647) : P p0 p1 := by
 delta P Pb Pm Pn PL Pl W6 kZ z32
 simp only [nrm, nro, Int.reduceEq, Int.reduceNeg, reduceIte]
 have hn : 0 ≤ md32 p1 ∧ md32 p1 < 32 := by unfold md32; omega
 refine ⟨fun i o m => 0 ≤ i ∧ i ≤ 32 ∧ (∀ k : Nat, (k : Int) < i → IntKind.wrap .i64 (rdZ o ((k + md32 p1) % 32)) = bt (b32 p0) k) ∧ m = (32 - i).toNat, ⟨_, by omega, by omega, fun k hk => by omega, rfl⟩, fun i o m hb hI => ?_⟩
 obtain ⟨i0, i1, ho, rfl⟩ := hI
 have wm : BO.ev .rem .i64 (i + md32 p1) 32 = (i + md32 p1) % 32 := rem_pos (by omega)
 simp only [wm]
 refine ⟨fun h1 => ?_, fun h1 => ?_⟩
 ·rintro _ rfl _ _ rfl _
  refine ⟨by omega, _, ?_, by omega, by omega, fun k hk => ?_, rfl⟩
  ·omega
  ·rw [bits_rd _ _ (by omega) (by omega), bt_w, qZk]
   by_cases e : (k : Int) = i
   ·rw [if_pos (by omega), bt_w]; congr 1; omega
   ·rw [if_neg (by omega), ho k (by omega)]
 ·rintro _ rfl _
  refine Eq.trans (of_word (b32 p0 <<< (p1 % 32).toNat ||| b32 p0 >>> (32 - (p1 % 32).toNat)) (fun k : Nat => IntKind.wrap .i64 (rdZ o k)) fun j hj => ?_) (alu12 l_p0 u_p0 l_p1 u_p1).symm
  show IntKind.wrap .i64 (rdZ o j) = _
  have hq := ho (((j : Int) - md32 p1) % 32).toNat (by omega)
  have e : ((((((j : Int) - md32 p1) % 32).toNat : Nat) : Int) + md32 p1) % 32 = j := by omega
  rw [e] at hq
  rw [hq]
  unfold bt md32 at *
  simp only [BitVec.getLsbD_or, BitVec.getLsbD_shiftLeft, BitVec.getLsbD_ushiftRight]
  by_cases g : p1 % 32 ≤ j
  ·have e2 : ((j : Int) - p1 % 32) % 32 = j - p1 % 32 := by omega
   have e3 : ((j : Int) - p1 % 32).toNat = j - (p1 % 32).toNat := by omega
   rw [e2, e3, BitVec.getLsbD_of_ge _ (32 - (p1 % 32).toNat + j) (by omega)]
   simp [hj, show ¬ j < (p1 % 32).toNat by omega]
  ·have e2 : ((j : Int) - p1 % 32) % 32 = j - p1 % 32 + 32 := by omega
   have e3 : ((j : Int) - p1 % 32 + 32).toNat = 32 - (p1 % 32).toNat + j := by omega
   rw [e2, e3]
   simp [show j < (p1 % 32).toNat by omega]
theorem plain (i v ro p) : statR 2 rc tree ⟨i, fN, v, ro, p⟩ = P (i 0) (i 1) := by kernel_rfl
theorem ran : ranR us (fun _ _ => .auto) rc 2 tree = true := by kernel_rfl
theorem fineT : fineR 2 rc tree = true := by kernel_rfl
theorem ok : RcOk (cxOf 2) rc := okR us_ok ran fineT okb fun i v ro p hρ hcap hpre => by rw [plain]; have q := hρ.hi; exact holds _ _ (q 0 _ rfl).1 (q 0 _ rfl).2 (q 1 _ rfl).1 (q 1 _ rfl).2
end CRRol
end Go.Proofs.YtfkdlidcogpncaaGreatDoor
