/-
  What astrolaberef16.Core).memory answers, as numbers of what it is handed: its run by the engine, and the plain statement behind it. No condition.
-/
import Derived.Test.YtbfgkimoobkpmaaGreatDoorGab
import Derived.Test.YtbfgkimoobkpmaaGreatDoorCRSet
import Derived.Test.YtbfgkimoobkpmaaGreatDoorCRMark
import Derived.Test.YtbfgkimoobkpmaaGreatDoorCRLow
import Derived.Test.YtbfgkimoobkpmaaGreatDoorGmD
namespace Go.Proofs.YtbfgkimoobkpmaaGreatDoor.CRMem
open Go.Eng Go.RowKit
set_option linter.unusedVariables false
set_option linter.unusedSimpArgs false
set_option maxRecDepth 100000
def rk : Rk := ⟨34, [(34, 35), (0, 31), (0, 31), (-9223372036854775808, 9223372036854775807), (-32768, 65535), (-9223372036854775808, 9223372036854775807), (-9223372036854775808, 9223372036854775807), (0, 999999), (0, 2048)], 12, [.ptr 0 0, .agg [.int .i64 (.v 0), .int .i64 (.v 1), .int .i64 (.v 2), .int .i64 (.v 3), .int .i64 (.v 4)]], [.cells [.wild 1, .sl (.own 2) 1 (.c 0) (.v 8) none, .int .i32 (.w .i32 (.f 13 (.v 9) (.c 0) (.c 0))), .int .i32 (.w .i32 (.f 13 (.v 9) (.c 1) (.c 0))), .int .i32 (.w .i32 (.f 13 (.v 9) (.c 2) (.c 0))), .int .i32 (.w .i32 (.f 13 (.v 9) (.c 3) (.c 0))), .int .i32 (.w .i32 (.f 13 (.v 9) (.c 4) (.c 0))), .int .i32 (.w .i32 (.f 13 (.v 9) (.c 5) (.c 0))), .int .i32 (.w .i32 (.f 13 (.v 9) (.c 6) (.c 0))), .int .i32 (.w .i32 (.f 13 (.v 9) (.c 7) (.c 0))), .int .i32 (.w .i32 (.f 13 (.v 9) (.c 8) (.c 0))), .int .i32 (.w .i32 (.f 13 (.v 9) (.c 9) (.c 0))), .int .i32 (.w .i32 (.f 13 (.v 9) (.c 10) (.c 0))), .int .i32 (.w .i32 (.f 13 (.v 9) (.c 11) (.c 0))), .int .i32 (.w .i32 (.f 13 (.v 9) (.c 12) (.c 0))), .int .i32 (.w .i32 (.f 13 (.v 9) (.c 13) (.c 0))), .int .i32 (.w .i32 (.f 13 (.v 9) (.c 14) (.c 0))), .int .i32 (.w .i32 (.f 13 (.v 9) (.c 15) (.c 0))), .int .i32 (.w .i32 (.f 13 (.v 9) (.c 16) (.c 0))), .int .i32 (.w .i32 (.f 13 (.v 9) (.c 17) (.c 0))), .int .i32 (.w .i32 (.f 13 (.v 9) (.c 18) (.c 0))), .int .i32 (.w .i32 (.f 13 (.v 9) (.c 19) (.c 0))), .int .i32 (.w .i32 (.f 13 (.v 9) (.c 20) (.c 0))), .int .i32 (.w .i32 (.f 13 (.v 9) (.c 21) (.c 0))), .int .i32 (.w .i32 (.f 13 (.v 9) (.c 22) (.c 0))), .int .i32 (.w .i32 (.f 13 (.v 9) (.c 23) (.c 0))), .int .i32 (.w .i32 (.f 13 (.v 9) (.c 24) (.c 0))), .int .i32 (.w .i32 (.f 13 (.v 9) (.c 25) (.c 0))), .int .i32 (.w .i32 (.f 13 (.v 9) (.c 26) (.c 0))), .int .i32 (.w .i32 (.f 13 (.v 9) (.c 27) (.c 0))), .int .i32 (.w .i32 (.f 13 (.v 9) (.c 28) (.c 0))), .int .i32 (.w .i32 (.f 13 (.v 9) (.c 29) (.c 0))), .int .i32 (.w .i32 (.f 13 (.v 9) (.c 30) (.c 0))), .int .i32 (.w .i32 (.f 13 (.v 9) (.c 31) (.c 0))), .int .i64 (.v 5), .int .i64 (.v 6), .sl (.own 3) 3 (.c 0) (.v 7) none] 34 none, .gone, .arr [.int .i32] 21 (.v 10) (.v 8), .arr [.int .i64, .int .i64, .int .i64] 47 (.v 11) (.v 7)], [], .tup [], [.cells [.wild 1, .sl (.own 4) 1 (.c 0) (.v 8) none, .int .i32 (.w .i32 (.f 13 (.v 1000000) (.c 0) (.c 0))), .int .i32 (.w .i32 (.f 13 (.v 1000000) (.c 1) (.c 0))), .int .i32 (.w .i32 (.f 13 (.v 1000000) (.c 2) (.c 0))), .int .i32 (.w .i32 (.f 13 (.v 1000000) (.c 3) (.c 0))), .int .i32 (.w .i32 (.f 13 (.v 1000000) (.c 4) (.c 0))), .int .i32 (.w .i32 (.f 13 (.v 1000000) (.c 5) (.c 0))), .int .i32 (.w .i32 (.f 13 (.v 1000000) (.c 6) (.c 0))), .int .i32 (.w .i32 (.f 13 (.v 1000000) (.c 7) (.c 0))), .int .i32 (.w .i32 (.f 13 (.v 1000000) (.c 8) (.c 0))), .int .i32 (.w .i32 (.f 13 (.v 1000000) (.c 9) (.c 0))), .int .i32 (.w .i32 (.f 13 (.v 1000000) (.c 10) (.c 0))), .int .i32 (.w .i32 (.f 13 (.v 1000000) (.c 11) (.c 0))), .int .i32 (.w .i32 (.f 13 (.v 1000000) (.c 12) (.c 0))), .int .i32 (.w .i32 (.f 13 (.v 1000000) (.c 13) (.c 0))), .int .i32 (.w .i32 (.f 13 (.v 1000000) (.c 14) (.c 0))), .int .i32 (.w .i32 (.f 13 (.v 1000000) (.c 15) (.c 0))), .int .i32 (.w .i32 (.f 13 (.v 1000000) (.c 16) (.c 0))), .int .i32 (.w .i32 (.f 13 (.v 1000000) (.c 17) (.c 0))), .int .i32 (.w .i32 (.f 13 (.v 1000000) (.c 18) (.c 0))), .int .i32 (.w .i32 (.f 13 (.v 1000000) (.c 19) (.c 0))), .int .i32 (.w .i32 (.f 13 (.v 1000000) (.c 20) (.c 0))), .int .i32 (.w .i32 (.f 13 (.v 1000000) (.c 21) (.c 0))), .int .i32 (.w .i32 (.f 13 (.v 1000000) (.c 22) (.c 0))), .int .i32 (.w .i32 (.f 13 (.v 1000000) (.c 23) (.c 0))), .int .i32 (.w .i32 (.f 13 (.v 1000000) (.c 24) (.c 0))), .int .i32 (.w .i32 (.f 13 (.v 1000000) (.c 25) (.c 0))), .int .i32 (.w .i32 (.f 13 (.v 1000000) (.c 26) (.c 0))), .int .i32 (.w .i32 (.f 13 (.v 1000000) (.c 27) (.c 0))), .int .i32 (.w .i32 (.f 13 (.v 1000000) (.c 28) (.c 0))), .int .i32 (.w .i32 (.f 13 (.v 1000000) (.c 29) (.c 0))), .int .i32 (.w .i32 (.f 13 (.v 1000000) (.c 30) (.c 0))), .int .i32 (.w .i32 (.f 13 (.v 1000000) (.c 31) (.c 0))), .int .i64 (.v 1000002), .int .i64 (.v 1000003), .sl (.own 5) 3 (.c 0) (.v 1000004) none] 34 none, .gone, .gone, .gone, .arr [.int .i32] 21 (.v 1000001) (.v 8), .arr [.int .i64, .int .i64, .int .i64] 47 (.v 1000005) (.v 1000004)], [.code [.int .i32] (.f 13 (.f 82 (.v 0) (.v 1) (listE [(.v 2), (.v 4), (.v 8), (.v 9), (.v 10), (.v 5), (.v 6), (.v 11), (.v 7)])) (.c 0) (.c 0)) (.c 32), .code [.int .i32] (.f 13 (.f 82 (.v 0) (.v 1) (listE [(.v 2), (.v 4), (.v 8), (.v 9), (.v 10), (.v 5), (.v 6), (.v 11), (.v 7)])) (.c 1) (.c 0)) (.v 8), .num (.w .i64 (.f 13 (.f 82 (.v 0) (.v 1) (listE [(.v 2), (.v 4), (.v 8), (.v 9), (.v 10), (.v 5), (.v 6), (.v 11), (.v 7)])) (.c 2) (.c 0))), .num (.w .i64 (.f 13 (.f 82 (.v 0) (.v 1) (listE [(.v 2), (.v 4), (.v 8), (.v 9), (.v 10), (.v 5), (.v 6), (.v 11), (.v 7)])) (.c 3) (.c 0))), .num (.w .i64 (.f 13 (.f 82 (.v 0) (.v 1) (listE [(.v 2), (.v 4), (.v 8), (.v 9), (.v 10), (.v 5), (.v 6), (.v 11), (.v 7)])) (.c 5) (.c 0))), .code [.int .i64, .int .i64, .int .i64] (.f 13 (.f 82 (.v 0) (.v 1) (listE [(.v 2), (.v 4), (.v 8), (.v 9), (.v 10), (.v 5), (.v 6), (.v 11), (.v 7)])) (.c 4) (.c 0)) (.w .i64 (.f 13 (.f 82 (.v 0) (.v 1) (listE [(.v 2), (.v 4), (.v 8), (.v 9), (.v 10), (.v 5), (.v 6), (.v 11), (.v 7)])) (.c 5) (.c 0)))], []⟩
theorem okk : rk.ok = true := by kernel_rfl
theorem okh : rk.rh.ok = true := by kernel_rfl
noncomputable def us : SMs := fun Γ ins n => smH (cxG n Γ ins) [CRSet.rk.rh, CRMark.rk.rh] (smR (cxG n Γ ins) [CRLow.rc])
theorem us_ok : SMsOk us := fun Γ ins n => smH_ok (tabsG n Γ ins) (rhs_cons CRSet.okh (rh_n CRSet.ok) (rhs_cons CRMark.okh (rh_n CRMark.ok) (rhs_nil _))) (smR_ok (tabsG n Γ ins) (rcs_cons CRLow.okb (rc_n CRLow.ok) (rcs_nil _)))
def q0 : E := (.cl 1000 (-2147516416) 2147549182)
def q1 : E := (t3 q0)
def q2 : E := (tl (.c 1024) q1)
def q3 : E := (.cl 1001 (-2147483648) 2147483647)
def q4 : E := (.f 14 (.v 9) (.v 1) q3)
def q5 : E := (.ite (te (.v 1) (.c 0)) (.v 9) q4)
def q6 : E := (tp (.v 5) (.c 1))
def q7 : E := (t6 q6)
def q8 : E := (tp (.v 7) (.c 1))
def q9 : E := (tC q1 (tC (.c 3) (.c 0)))
def q10 : E := (tC (.v 5) q9)
def q11 : E := (.f 14 (.v 11) (.v 7) q10)
def q12 : E := (tC q1 (tC (.c 2) (.c 0)))
def q13 : E := (tC (.v 5) q12)
def q14 : E := (.f 14 (.v 11) (.v 7) q13)
def q15 : E := (.f 16 (.c 0) (.c 0) (.v 10))
def q16 : E := (t3 (tR (.v 9) (.v 1)))
def q17 : E := (.f 14 q15 q1 q16)
def tree : TT (List E) :=
 (.new 1000 (tp (t3 (tR (.v 9) (.v 2))) (.v 4)) (.br (tk q1 (.c 0)) (.leaf [(.v 9), (.v 10), (.v 5), (.c 4), (.v 7), (.v 11)]) (.br (tl (.v 8) q1) (.leaf [(.v 9), (.v 10), (.v 5), (.c 4), (.v 7), (.v 11)]) (.br (tl (.c 0) q1) (.br (tk q1 (.v 8)) (.br (te (.v 0) (.c 34)) (.new 1001 (t3 (tR (.v 10) q1)) (.br q2 (.leaf [q5, (.v 10), q7, (.v 6), q8, q11]) (.leaf [q5, (.v 10), q7, (.v 6), q8, q14]))) (.br q2 (.leaf [(.v 9), q17, q7, (.v 6), q8, q11]) (.leaf [(.v 9), q17, q7, (.v 6), q8, q14]))) (.bad 200)) (.bad 200)))))

noncomputable def sq0 (a b c e i j k f g l h : Int) : Int := (memZ a b (consZ c (consZ e (consZ i (consZ j (consZ k (consZ f (consZ g (consZ l (consZ h 0))))))))))
def sL0 (a b c e i j k f g l h z0 z3 z6 z8 z10 z12 : Int) : Prop := rowEq [.int .i32] z0 (rdZ (sq0 a b c e i j k f g l h) 0) 32 ∧ rowEq [.int .i32] z3 (rdZ (sq0 a b c e i j k f g l h) 1) i ∧ (z6 : Int) = (W6 (rdZ (sq0 a b c e i j k f g l h) 2)) ∧ (z8 : Int) = (W6 (rdZ (sq0 a b c e i j k f g l h) 3)) ∧ (z10 : Int) = (W6 (rdZ (sq0 a b c e i j k f g l h) 5)) ∧ rowEq [.int .i64, .int .i64, .int .i64] z12 (rdZ (sq0 a b c e i j k f g l h) 4) (W6 (rdZ (sq0 a b c e i j k f g l h) 5)) ∧ True
def P (a b c d e f g h i j k l : Int) : Prop :=
 Pn ((W3 (rdZ j c)) + e) (-2147516416) 2147549182 fun y0 => (Pb (Pl (W3 y0) 0) (sL0 a b c e i j k f g l h j k f 4 h l) (Pb (PL i (W3 y0)) (sL0 a b c e i j k f g l h j k f 4 h l) (Pm (PL 0 (W3 y0)) (Pm (Pl (W3 y0) i) (Pb (Pe a 34) (Pn (W3 (rdZ k (W3 y0))) (-2147483648) 2147483647 fun y1 => (Pb (PL 1024 (W3 y0)) (sL0 a b c e i j k f g l h (iteZ (Pe b 0) j (updZ j b y1)) k (W6 (f + 1)) g (h + 1) (updZ l h (consZ f (consZ (W3 y0) (consZ 3 0))))) (sL0 a b c e i j k f g l h (iteZ (Pe b 0) j (updZ j b y1)) k (W6 (f + 1)) g (h + 1) (updZ l h (consZ f (consZ (W3 y0) (consZ 2 0))))))) (Pb (PL 1024 (W3 y0)) (sL0 a b c e i j k f g l h j (updZ (appZ 0 0 k) (W3 y0) (W3 (rdZ j b))) (W6 (f + 1)) g (h + 1) (updZ l h (consZ f (consZ (W3 y0) (consZ 3 0))))) (sL0 a b c e i j k f g l h j (updZ (appZ 0 0 k)
 (W3 y0) (W3 (rdZ j b))) (W6 (f + 1)) g (h + 1) (updZ l h (consZ f (consZ (W3 y0) (consZ 2 0)))))))))))

theorem holds (op d a b n pc state nm nr rg rm mq : Int) (l_op : 34 ≤ op) (u_op : op ≤ 35) (l_d : 0 ≤ d) (u_d : d ≤ 31) (l_a : 0 ≤ a) (u_a : a ≤ 31) (l_b : -9223372036854775808 ≤ b) (u_b : b ≤ 9223372036854775807) (l_n : -32768 ≤ n) (u_n : n ≤ 65535) (l_pc : -9223372036854775808 ≤ pc) (u_pc : pc ≤ 9223372036854775807) (l_state : -9223372036854775808 ≤ state) (u_state : state ≤ 9223372036854775807) (l_nm : 0 ≤ nm) (u_nm : nm ≤ 999999) (l_nr : 0 ≤ nr) (u_nr : nr ≤ 2048) : P op d a b n pc state nm nr rg rm mq := by
  delta P sq0 sL0 Pb Pm Pn PL Pl Pe W6 W3
  rintro _ rfl _
  have w4 : IntKind.wrap .i32 n = n := wi32 (by omega) (by omega)
  have i0 : I64 pc := ⟨by omega, by omega⟩
  have i1 : I64 state := ⟨by omega, by omega⟩
  have i2 : I64 nm := ⟨by omega, by omega⟩
  have i3 : I64 (nm + 1) := ⟨by omega, by omega⟩
  have i4 : I64 4 := ⟨by omega, by omega⟩
  have ho : op = 34 ∨ op = 35 := by omega
  rcases ho with rfl | rfl <;> simp only [b01_eq, decide_eq_true_eq, decide_eq_false_iff_not, beq_iff_eq, beq_eq_false_iff_ne, bne_iff_ne, bne_eq_false_iff_eq, Int.not_le, Int.not_lt, true_and, and_true, iteZ_ne, ne_eq, Bool.not_eq_false, Bool.not_eq_true, not_true_eq_false, not_false_eq_true, Decidable.not_not, forall_const, false_implies, true_iff, iff_true, false_iff, iff_false, Int.reduceEq, Int.reduceNeg, eq_self, if_true, if_false, reduceIte, ob_le, ob_lt, ob_p, ob_n]
  · have h0 := (does_34 (m := ⟨rg, rm, pc, state, 0, mq, nm⟩) (nr := nr) (d := d) (a := a) (b := 0) (n := n)).trans (does_mem' w4)
    refine ⟨fun h1 => mem_leaf (h0.trans (if_pos (.inl h1))) (rowEq_refl _ _ _) i0 i4 i2, fun h1 => ⟨fun h2 => mem_leaf (h0.trans (if_pos (.inr h2))) (rowEq_refl _ _ _) i0 i4 i2, fun h2 => ⟨h1, h2, ?_⟩⟩⟩
    rintro _ rfl _
    have h3 := h0.trans (if_neg (fun g => g.elim (fun g => absurd g (Int.not_lt.2 h1)) (fun g => absurd g (Int.not_le.2 h2))))
    by_cases hd : d = 0
    · rw [if_pos hd]
      exact ⟨fun h4 => mem_leaf (h3.trans ((if_pos h4).trans (by unfold Mac.memo; rw [if_neg (by decide), put_neg hd, oc34]; rfl))) (rowEq_refl _ _ _) (i64_in _) i1 i3, fun h4 => mem_leaf (h3.trans ((if_neg (Int.not_le.2 h4)).trans (by unfold Mac.memo; rw [if_neg (by decide), put_neg hd, oc34]; rfl))) (rowEq_refl _ _ _) (i64_in _) i1 i3⟩
    · rw [if_neg hd]
      exact ⟨fun h4 => mem_leaf (h3.trans ((if_pos h4).trans (by unfold Mac.memo; rw [if_neg (by decide), put_pos hd, oc34]; rfl))) (rowEq_refl _ _ _) (i64_in _) i1 i3, fun h4 => mem_leaf (h3.trans ((if_neg (Int.not_le.2 h4)).trans (by unfold Mac.memo; rw [if_neg (by decide), put_pos hd, oc34]; rfl))) (rowEq_refl _ _ _) (i64_in _) i1 i3⟩
  · have h0 := (does_35 (m := ⟨rg, rm, pc, state, 0, mq, nm⟩) (nr := nr) (d := d) (a := a) (b := 0) (n := n)).trans (does_mem' w4)
    refine ⟨fun h1 => mem_leaf (h0.trans (if_pos (.inl h1))) (rowEq_refl _ _ _) i0 i4 i2, fun h1 => ⟨fun h2 => mem_leaf (h0.trans (if_pos (.inr h2))) (rowEq_refl _ _ _) i0 i4 i2, fun h2 => ⟨h1, h2, ?_⟩⟩⟩
    have h3 := h0.trans (if_neg (fun g => g.elim (fun g => absurd g (Int.not_lt.2 h1)) (fun g => absurd g (Int.not_le.2 h2))))
    exact ⟨fun h4 => mem_leaf (h3.trans ((if_pos h4).trans (by unfold Mac.memo; rw [if_pos rfl, oc35]; rfl))) (copy_row _ _ _ _) (i64_in _) i1 i3, fun h4 => mem_leaf (h3.trans ((if_neg (Int.not_le.2 h4)).trans (by unfold Mac.memo; rw [if_pos rfl, oc35]; rfl))) (copy_row _ _ _ _) (i64_in _) i1 i3⟩

theorem plain (i v ro p) : statH 2 rk tree ⟨i, fN, v, ro, p⟩ = P (i 0) (i 1) (i 2) (i 3) (i 4) (i 5) (i 6) (i 7) (i 8) (i 9) (i 10) (i 11) := by kernel_rfl
theorem ran : ranH us (fun _ _ => .auto) rk 2 tree = true := by kernel_rfl
theorem fineT : fineH 2 rk tree = true := by kernel_rfl
theorem fineB : blVb 1000 rk.inb = true := by kernel_rfl
theorem ok : RhOk (cxOf 2) rk.rh := okH us_ok ran fineT fineB okk fun i v ro p hρ hpre => by rw [plain]; exact holds (i 0) (i 1) (i 2) (i 3) (i 4) (i 5) (i 6) (i 7) (i 8) (i 9) (i 10) (i 11) (hρ.hi 0 _ rfl).1 (hρ.hi 0 _ rfl).2 (hρ.hi 1 _ rfl).1 (hρ.hi 1 _ rfl).2 (hρ.hi 2 _ rfl).1 (hρ.hi 2 _ rfl).2 (hρ.hi 3 _ rfl).1 (hρ.hi 3 _ rfl).2 (hρ.hi 4 _ rfl).1 (hρ.hi 4 _ rfl).2 (hρ.hi 5 _ rfl).1 (hρ.hi 5 _ rfl).2 (hρ.hi 6 _ rfl).1 (hρ.hi 6 _ rfl).2 (hρ.hi 7 _ rfl).1 (hρ.hi 7 _ rfl).2 (hρ.hi 8 _ rfl).1 (hρ.hi 8 _ rfl).2
end Go.Proofs.YtbfgkimoobkpmaaGreatDoor.CRMem
