/-
  What astrolaberef16.Core).goes answers, as numbers of what it is handed: its run by the engine, and the plain statement behind it. No condition.
-/
import Derived.Test.YtbfgkimoobkpmaaGreatDoorGab
import Derived.Test.YtbfgkimoobkpmaaGreatDoorCRSet
import Derived.Test.YtbfgkimoobkpmaaGreatDoorCRMark
import Derived.Test.YtbfgkimoobkpmaaGreatDoorGmD
namespace Go.Proofs.YtbfgkimoobkpmaaGreatDoor.CRGoes
open Go.Eng Go.RowKit
set_option linter.unusedVariables false
set_option linter.unusedSimpArgs false
set_option maxRecDepth 100000
def rk : Rk := ⟨35, [(36, 41), (0, 31), (0, 31), (-9223372036854775808, 9223372036854775807), (-9223372036854775808, 9223372036854775807), (-9223372036854775808, 9223372036854775807), (0, 999999)], 9, [.ptr 0 0, .agg [.int .i64 (.v 0), .int .i64 (.v 1), .int .i64 (.v 2), .int .i64 (.v 3), .int .i64 (.v 4)]], [.cells [.wild 1, .wild 2, .int .i32 (.w .i32 (.f 13 (.v 7) (.c 0) (.c 0))), .int .i32 (.w .i32 (.f 13 (.v 7) (.c 1) (.c 0))), .int .i32 (.w .i32 (.f 13 (.v 7) (.c 2) (.c 0))), .int .i32 (.w .i32 (.f 13 (.v 7) (.c 3) (.c 0))), .int .i32 (.w .i32 (.f 13 (.v 7) (.c 4) (.c 0))), .int .i32 (.w .i32 (.f 13 (.v 7) (.c 5) (.c 0))), .int .i32 (.w .i32 (.f 13 (.v 7) (.c 6) (.c 0))), .int .i32 (.w .i32 (.f 13 (.v 7) (.c 7) (.c 0))), .int .i32 (.w .i32 (.f 13 (.v 7) (.c 8) (.c 0))), .int .i32 (.w .i32 (.f 13 (.v 7) (.c 9) (.c 0))), .int .i32 (.w .i32 (.f 13 (.v 7) (.c 10) (.c 0))), .int .i32 (.w .i32 (.f 13 (.v 7) (.c 11) (.c 0))), .int .i32 (.w .i32 (.f 13 (.v 7) (.c 12) (.c 0))), .int .i32 (.w .i32 (.f 13 (.v 7) (.c 13) (.c 0))), .int .i32 (.w .i32 (.f 13 (.v 7) (.c 14) (.c 0))), .int .i32 (.w .i32 (.f 13 (.v 7) (.c 15) (.c 0))), .int .i32 (.w .i32 (.f 13 (.v 7) (.c 16) (.c 0))), .int .i32 (.w .i32 (.f 13 (.v 7) (.c 17) (.c 0))), .int .i32 (.w .i32 (.f 13 (.v 7) (.c 18) (.c 0))), .int .i32 (.w .i32 (.f 13 (.v 7) (.c 19) (.c 0))), .int .i32 (.w .i32 (.f 13 (.v 7) (.c 20) (.c 0))), .int .i32 (.w .i32 (.f 13 (.v 7) (.c 21) (.c 0))), .int .i32 (.w .i32 (.f 13 (.v 7) (.c 22) (.c 0))), .int .i32 (.w .i32 (.f 13 (.v 7) (.c 23) (.c 0))), .int .i32 (.w .i32 (.f 13 (.v 7) (.c 24) (.c 0))), .int .i32 (.w .i32 (.f 13 (.v 7) (.c 25) (.c 0))), .int .i32 (.w .i32 (.f 13 (.v 7) (.c 26) (.c 0))), .int .i32 (.w .i32 (.f 13 (.v 7) (.c 27) (.c 0))), .int .i32 (.w .i32 (.f 13 (.v 7) (.c 28) (.c 0))), .int .i32 (.w .i32 (.f 13 (.v 7) (.c 29) (.c 0))), .int .i32 (.w .i32 (.f 13 (.v 7) (.c 30) (.c 0))), .int .i32 (.w .i32 (.f 13 (.v 7) (.c 31) (.c 0))), .int .i64 (.v 5), .wild 3, .sl (.own 4) 3 (.c 0) (.v 6) none] 34 none, .gone, .gone, .gone, .arr [.int .i64, .int .i64, .int .i64] 47 (.v 8) (.v 6)], [], .tup [], [.cells [.wild 1, .wild 2, .int .i32 (.w .i32 (.f 13 (.v 1000000) (.c 0) (.c 0))), .int .i32 (.w .i32 (.f 13 (.v 1000000) (.c 1) (.c 0))), .int .i32 (.w .i32 (.f 13 (.v 1000000) (.c 2) (.c 0))), .int .i32 (.w .i32 (.f 13 (.v 1000000) (.c 3) (.c 0))), .int .i32 (.w .i32 (.f 13 (.v 1000000) (.c 4) (.c 0))), .int .i32 (.w .i32 (.f 13 (.v 1000000) (.c 5) (.c 0))), .int .i32 (.w .i32 (.f 13 (.v 1000000) (.c 6) (.c 0))), .int .i32 (.w .i32 (.f 13 (.v 1000000) (.c 7) (.c 0))), .int .i32 (.w .i32 (.f 13 (.v 1000000) (.c 8) (.c 0))), .int .i32 (.w .i32 (.f 13 (.v 1000000) (.c 9) (.c 0))), .int .i32 (.w .i32 (.f 13 (.v 1000000) (.c 10) (.c 0))), .int .i32 (.w .i32 (.f 13 (.v 1000000) (.c 11) (.c 0))), .int .i32 (.w .i32 (.f 13 (.v 1000000) (.c 12) (.c 0))), .int .i32 (.w .i32 (.f 13 (.v 1000000) (.c 13) (.c 0))), .int .i32 (.w .i32 (.f 13 (.v 1000000) (.c 14) (.c 0))), .int .i32 (.w .i32 (.f 13 (.v 1000000) (.c 15) (.c 0))), .int .i32 (.w .i32 (.f 13 (.v 1000000) (.c 16) (.c 0))), .int .i32 (.w .i32 (.f 13 (.v 1000000) (.c 17) (.c 0))), .int .i32 (.w .i32 (.f 13 (.v 1000000) (.c 18) (.c 0))), .int .i32 (.w .i32 (.f 13 (.v 1000000) (.c 19) (.c 0))), .int .i32 (.w .i32 (.f 13 (.v 1000000) (.c 20) (.c 0))), .int .i32 (.w .i32 (.f 13 (.v 1000000) (.c 21) (.c 0))), .int .i32 (.w .i32 (.f 13 (.v 1000000) (.c 22) (.c 0))), .int .i32 (.w .i32 (.f 13 (.v 1000000) (.c 23) (.c 0))), .int .i32 (.w .i32 (.f 13 (.v 1000000) (.c 24) (.c 0))), .int .i32 (.w .i32 (.f 13 (.v 1000000) (.c 25) (.c 0))), .int .i32 (.w .i32 (.f 13 (.v 1000000) (.c 26) (.c 0))), .int .i32 (.w .i32 (.f 13 (.v 1000000) (.c 27) (.c 0))), .int .i32 (.w .i32 (.f 13 (.v 1000000) (.c 28) (.c 0))), .int .i32 (.w .i32 (.f 13 (.v 1000000) (.c 29) (.c 0))), .int .i32 (.w .i32 (.f 13 (.v 1000000) (.c 30) (.c 0))), .int .i32 (.w .i32 (.f 13 (.v 1000000) (.c 31) (.c 0))), .int .i64 (.v 1000001), .wild 3, .sl (.own 5) 3 (.c 0) (.v 1000003) none] 34 none, .gone, .gone, .gone, .gone, .arr [.int .i64, .int .i64, .int .i64] 47 (.v 1000002) (.v 1000003)], [.code [.int .i32] (.f 13 (.f 81 (.v 0) (.v 1) (listE [(.v 2), (.v 4), (.v 7), (.v 5), (.v 8), (.v 6)])) (.c 0) (.c 0)) (.c 32), .num (.w .i64 (.f 13 (.f 81 (.v 0) (.v 1) (listE [(.v 2), (.v 4), (.v 7), (.v 5), (.v 8), (.v 6)])) (.c 1) (.c 0))), .code [.int .i64, .int .i64, .int .i64] (.f 13 (.f 81 (.v 0) (.v 1) (listE [(.v 2), (.v 4), (.v 7), (.v 5), (.v 8), (.v 6)])) (.c 2) (.c 0)) (.b .padd .i64 (.v 6) (.c 1)), .num (.b .padd .i64 (.v 6) (.c 1))], []⟩
theorem okk : rk.ok = true := by kernel_rfl
theorem okh : rk.rh.ok = true := by kernel_rfl
noncomputable def us : SMs := fun Γ ins n => smH (cxG n Γ ins) [CRSet.rk.rh, CRMark.rk.rh] (smR (cxG n Γ ins) [])
theorem us_ok : SMsOk us := fun Γ ins n => smH_ok (tabsG n Γ ins) (rhs_cons CRSet.okh (rh_n CRSet.ok) (rhs_cons CRMark.okh (rh_n CRMark.ok) (rhs_nil _))) (smR_ok (tabsG n Γ ins) (rcs_nil _))
def q0 : E := (tR (.v 7) (.v 1))
def q1 : E := (t3 q0)
def q2 : E := (tR (.v 7) (.v 2))
def q3 : E := (t3 q2)
def q4 : E := (te (.v 0) (.c 39))
def q5 : E := (tC (.c 3) (.c 0))
def q6 : E := (tC (.c (-1)) q5)
def q7 : E := (tC (.v 5) q6)
def q8 : E := (.f 14 (.v 8) (.v 6) q7)
def q9 : E := (tp (.v 6) (.c 1))
def q10 : E := (te (.v 0) (.c 40))
def q11 : E := (te (.v 1) (.c 0))
def q12 : E := (tp (.v 5) (.c 1))
def q13 : E := (t3 q12)
def q14 : E := (.f 14 (.v 7) (.v 1) q13)
def q15 : E := (.ite q11 (.v 7) q14)
def q16 : E := (te (.v 0) (.c 41))
def q17 : E := (tn q1 q3)
def q18 : E := (te (.v 0) (.c 38))
def q19 : E := (tk q1 q3)
def q20 : E := (t6 q12)
def q21 : E := (tC (.c 1) (.c 0))
def q22 : E := (tC (.c (-1)) q21)
def q23 : E := (tC (.v 5) q22)
def q24 : E := (.f 14 (.v 8) (.v 6) q23)
def tree : TT (List E) :=
 (.br (te (.v 0) (.c 36)) (.br (te q1 q3) (.br q4 (.leaf [(.v 7), (.v 4), q8, q9]) (.br q10 (.leaf [q15, (.v 4), q8, q9]) (.br q16 (.leaf [(.v 7), q3, q8, q9]) (.leaf [(.v 7), (.v 4), q8, q9])))) (.br (te (.v 0) (.c 37)) (.br q17 (.br q4 (.leaf [(.v 7), (.v 4), q8, q9]) (.br q10 (.leaf [q15, (.v 4), q8, q9]) (.br q16 (.leaf [(.v 7), q3, q8, q9]) (.leaf [(.v 7), (.v 4), q8, q9])))) (.br q18 (.br q4 (.leaf [(.v 7), (.v 4), q8, q9]) (.br q10 (.leaf [q15, (.v 4), q8, q9]) (.br q16 (.leaf [(.v 7), q3, q8, q9]) (.br q19 (.leaf [(.v 7), (.v 4), q8, q9]) (.leaf [(.v 7), q20, q24, q9]))))) (.br q4 (.leaf [(.v 7), (.v 4), q8, q9]) (.br q10 (.leaf [q15, (.v 4), q8, q9]) (.br q16 (.leaf [(.v 7), q3, q8, q9]) (.leaf [(.v 7), q20, q24, q9])))))) (.br q18 (.br q4 (.leaf [(.v 7), (.v 4), q8, q9]) (.br
 q10 (.leaf [q15, (.v 4), q8, q9]) (.br q16 (.leaf [(.v 7), q3, q8, q9]) (.br q19 (.leaf [(.v 7), (.v 4), q8, q9]) (.leaf [(.v 7), q20, q24, q9]))))) (.br q4 (.leaf [(.v 7), (.v 4), q8, q9]) (.br q10 (.leaf [q15, (.v 4), q8, q9]) (.br q16 (.leaf [(.v 7), q3, q8, q9]) (.leaf [(.v 7), q20, q24, q9]))))))) (.br (te (.v 0) (.c 37)) (.br q17 (.br q4 (.leaf [(.v 7), (.v 4), q8, q9]) (.br q10 (.leaf [q15, (.v 4), q8, q9]) (.br q16 (.leaf [(.v 7), q3, q8, q9]) (.leaf [(.v 7), (.v 4), q8, q9])))) (.br q18 (.br q4 (.leaf [(.v 7), (.v 4), q8, q9]) (.br q10 (.leaf [q15, (.v 4), q8, q9]) (.br q16 (.leaf [(.v 7), q3, q8, q9]) (.br q19 (.leaf [(.v 7), (.v 4), q8, q9]) (.leaf [(.v 7), q20, q24, q9]))))) (.br q4 (.leaf [(.v 7), (.v 4), q8, q9]) (.br q10 (.leaf [q15, (.v 4), q8, q9]) (.br q16 (.leaf [(.v
 7), q3, q8, q9]) (.leaf [(.v 7), q20, q24, q9])))))) (.br q18 (.br q4 (.leaf [(.v 7), (.v 4), q8, q9]) (.br q10 (.leaf [q15, (.v 4), q8, q9]) (.br q16 (.leaf [(.v 7), q3, q8, q9]) (.br q19 (.leaf [(.v 7), (.v 4), q8, q9]) (.leaf [(.v 7), q20, q24, q9]))))) (.br q4 (.leaf [(.v 7), (.v 4), q8, q9]) (.br q10 (.leaf [q15, (.v 4), q8, q9]) (.br q16 (.leaf [(.v 7), q3, q8, q9]) (.leaf [(.v 7), q20, q24, q9])))))))

def sL0 (a b c e h f i g z0 z3 z5 : Int) : Prop := rowEq [.int .i32] z0 (rdZ (goeZ a b (consZ c (consZ e (consZ h (consZ f (consZ i (consZ g 0))))))) 0) 32 ∧ (z3 : Int) = (W6 (rdZ (goeZ a b (consZ c (consZ e (consZ h (consZ f (consZ i (consZ g 0))))))) 1)) ∧ rowEq [.int .i64, .int .i64, .int .i64] z5 (rdZ (goeZ a b (consZ c (consZ e (consZ h (consZ f (consZ i (consZ g 0))))))) 2) (g + 1) ∧ ((g + 1) : Int) = (g + 1) ∧ True
def sq0 (a b c e h f i g : Int) : Prop := (Pb (Pe a 38) (Pb (Pe a 39) (sL0 a b c e h f i g h e (updZ i g (consZ f (consZ (-1) (consZ 3 0))))) (Pb (Pe a 40) (sL0 a b c e h f i g (iteZ (Pe b 0) h (updZ h b (W3 (f + 1)))) e (updZ i g (consZ f (consZ (-1) (consZ 3 0))))) (Pb (Pe a 41) (sL0 a b c e h f i g h (W3 (rdZ h c)) (updZ i g (consZ f (consZ (-1) (consZ 3 0))))) (Pb (Pl (W3 (rdZ h b)) (W3 (rdZ h c))) (sL0 a b c e h f i g h e (updZ i g (consZ f (consZ (-1) (consZ 3 0))))) (sL0 a b c e h f i g h (W6 (f + 1)) (updZ i g (consZ f (consZ (-1) (consZ 1 0))))))))) (Pb (Pe a 39) (sL0 a b c e h f i g h e (updZ i g (consZ f (consZ (-1) (consZ 3 0))))) (Pb (Pe a 40) (sL0 a b c e h f i g (iteZ (Pe b 0) h (updZ h b (W3 (f + 1)))) e (updZ i g (consZ f (consZ (-1) (consZ 3 0))))) (Pb (Pe a 41) (sL0 a b
 c e h f i g h (W3 (rdZ h c)) (updZ i g (consZ f (consZ (-1) (consZ 3 0))))) (sL0 a b c e h f i g h (W6 (f + 1)) (updZ i g (consZ f (consZ (-1) (consZ 1 0)))))))))
def sq1 (a b c e h f i g : Int) : Prop := (Pb (Pe a 39) (sL0 a b c e h f i g h e (updZ i g (consZ f (consZ (-1) (consZ 3 0))))) (Pb (Pe a 40) (sL0 a b c e h f i g (iteZ (Pe b 0) h (updZ h b (W3 (f + 1)))) e (updZ i g (consZ f (consZ (-1) (consZ 3 0))))) (Pb (Pe a 41) (sL0 a b c e h f i g h (W3 (rdZ h c)) (updZ i g (consZ f (consZ (-1) (consZ 3 0))))) (sL0 a b c e h f i g h e (updZ i g (consZ f (consZ (-1) (consZ 3 0))))))))
def P (a b c d e f g h i : Int) : Prop :=
 (Pb (Pe a 36) (Pb (Pe (W3 (rdZ h b)) (W3 (rdZ h c))) (sq1 a b c e h f i g) (Pb (Pe a 37) (Pb (Pd (W3 (rdZ h b)) (W3 (rdZ h c))) (sq1 a b c e h f i g) (sq0 a b c e h f i g)) (sq0 a b c e h f i g))) (Pb (Pe a 37) (Pb (Pd (W3 (rdZ h b)) (W3 (rdZ h c))) (sq1 a b c e h f i g) (sq0 a b c e h f i g)) (sq0 a b c e h f i g)))

theorem holds (op d a b n pc nm rg mq : Int) (l_op : 36 ≤ op) (u_op : op ≤ 41) (l_d : 0 ≤ d) (u_d : d ≤ 31) (l_a : 0 ≤ a) (u_a : a ≤ 31) (l_b : -9223372036854775808 ≤ b) (u_b : b ≤ 9223372036854775807) (l_n : -9223372036854775808 ≤ n) (u_n : n ≤ 9223372036854775807) (l_pc : -9223372036854775808 ≤ pc) (u_pc : pc ≤ 9223372036854775807) (l_nm : 0 ≤ nm) (u_nm : nm ≤ 999999) : P op d a b n pc nm rg mq := by
  delta P sq0 sq1 sL0 Pb Pl Pe Pd W6 W3
  have ho : op = 36 ∨ op = 37 ∨ op = 38 ∨ op = 39 ∨ op = 40 ∨ op = 41 := by omega
  rcases ho with rfl | rfl | rfl | rfl | rfl | rfl <;> simp only [b01_eq, decide_eq_true_eq, decide_eq_false_iff_not, beq_iff_eq, beq_eq_false_iff_ne, bne_iff_ne, bne_eq_false_iff_eq, Int.not_le, Int.not_lt, true_and, and_true, iteZ_ne, ne_eq, Bool.not_eq_false, Bool.not_eq_true, not_true_eq_false, not_false_eq_true, Decidable.not_not, forall_const, false_implies, true_iff, iff_true, false_iff, iff_false, Int.reduceEq, Int.reduceNeg, eq_self, if_true, if_false, reduceIte, ob_le, ob_lt, ob_p, ob_n]
  · exact ⟨fun h => goe_leaf (does_36.trans (if_pos h)) ⟨by omega, by omega⟩, fun h => goe_leaf (does_36.trans (if_neg h)) (i64_in _)⟩
  · exact ⟨fun h => goe_leaf (does_37.trans (if_pos h)) ⟨by omega, by omega⟩, fun h => goe_leaf (does_37.trans (if_neg (fun g => g h))) (i64_in _)⟩
  · exact ⟨fun h => goe_leaf (does_38.trans (if_pos h)) ⟨by omega, by omega⟩, fun h => goe_leaf (does_38.trans (if_neg (Int.not_lt.2 h))) (i64_in _)⟩
  · exact goe_leaf does_39 ⟨by omega, by omega⟩
  · by_cases hd : d = 0
    · rw [if_pos hd]
      exact goe_leaf (does_40.trans (by rw [put_neg hd]; rfl)) ⟨by omega, by omega⟩
    · rw [if_neg hd]
      exact goe_leaf (does_40.trans (by rw [put_pos hd]; rfl)) ⟨by omega, by omega⟩
  · exact goe_leaf does_41 (i32_i64 _)

theorem plain (i v ro p) : statH 2 rk tree ⟨i, fN, v, ro, p⟩ = P (i 0) (i 1) (i 2) (i 3) (i 4) (i 5) (i 6) (i 7) (i 8) := by kernel_rfl
theorem ran : ranH us (fun _ _ => .auto) rk 2 tree = true := by kernel_rfl
theorem fineT : fineH 2 rk tree = true := by kernel_rfl
theorem fineB : blVb 1000 rk.inb = true := by kernel_rfl
theorem ok : RhOk (cxOf 2) rk.rh := okH us_ok ran fineT fineB okk fun i v ro p hρ hpre => by rw [plain]; exact holds (i 0) (i 1) (i 2) (i 3) (i 4) (i 5) (i 6) (i 7) (i 8) (hρ.hi 0 _ rfl).1 (hρ.hi 0 _ rfl).2 (hρ.hi 1 _ rfl).1 (hρ.hi 1 _ rfl).2 (hρ.hi 2 _ rfl).1 (hρ.hi 2 _ rfl).2 (hρ.hi 3 _ rfl).1 (hρ.hi 3 _ rfl).2 (hρ.hi 4 _ rfl).1 (hρ.hi 4 _ rfl).2 (hρ.hi 5 _ rfl).1 (hρ.hi 5 _ rfl).2 (hρ.hi 6 _ rfl).1 (hρ.hi 6 _ rfl).2
end Go.Proofs.YtbfgkimoobkpmaaGreatDoor.CRGoes
