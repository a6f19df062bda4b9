/-
  What functions of the program answer, as numbers of what they are handed: their runs by the engine, the plain statements behind them. No condition.
-/
import Derived.Test.YthfckifhnaoopacKj
import Derived.Test.YthfckifhnaoopacGab
import Derived.Test.YthfckifhnaoopacGp2
import Derived.Test.YthfckifhnaoopacGp1
import Derived.Test.YthfckifhnaoopacGp3
set_option linter.unusedVariables false
set_option linter.unusedSimpArgs false
set_option maxRecDepth 100000
namespace Go.Proofs.Ythfckifhnaoopac
open Go.Eng Go.RowKit
namespace CREnc
def rc : Rc := ⟨24, [some 5], [.int .i64, .int .i64, .int .i64, .int .i64, .int .i64], [(.b .eq .i64 (.f 141 (.v 0) (.v 1) (qZj [(.v 2), (.v 3), (.v 4)])) (.c 0)), (.b .le .i64 (.c 36) (.v 0)), (.b .le .i64 (.v 0) (.c 39))], .tup [none, none], [.int .u32 (.w .u32 (.b .padd .i64 (.b .padd .i64 (.b .padd .i64 (.b .pmul .i64 (.v 0) (.c 67108864)) (.b .pmul .i64 (.v 1) (.c 2097152))) (.b .pmul .i64 (.v 2) (.c 65536))) (.v 4))), .int .i64 (.c 0)]⟩
theorem okb : rc.ok = true := by kernel_rfl
noncomputable def us : SMs := fun Γ ins n => smH (cxG n Γ ins) [] (smR (cxG n Γ ins) [CRChk13.rc])
theorem us_ok : SMsOk us := fun Γ ins n => qZp (tabsG n Γ ins) (qZk _) (qZo (tabsG n Γ ins) (qQe CRChk13.okb (rc_n CRChk13.ok) (qZy _)))
def tree : TT (List E) :=
(.new 1000 (.f 141 (.v 0) (.v 1) (.f 11 (.v 2) (.f 11 (.v 3) (.f 11 (.v 4) (.c 0) (.c 0)) (.c 0)) (.c 0)))
 (.br (.b .ne .i64 (.cl 1000 0 6) (.c 0))
 (.leaf [(.c 0), (.cl 1000 0 6)])
 (.br (.b .lt .i64 (.v 4) (.c 0))
 (.leaf [(.w .u32 (.b .padd .i64 (.w .i64 (.b .padd .i64 (.w .i64 (.b .padd .i64 (.w .i64 (.b .padd .i64 (.w .i64 (.b .pmul .i64 (.v 0) (.c 67108864))) (.w .i64 (.b .pmul .i64 (.v 1) (.c 2097152))))) (.w .i64 (.b .pmul .i64 (.v 2) (.c 65536))))) (.w .i64 (.b .pmul .i64 (.v 3) (.c 2048))))) (.w .i64 (.b .padd .i64 (.v 4) (.c 65536))))), (.c 0)])
 (.leaf [(.w .u32 (.b .padd .i64 (.w .i64 (.b .padd .i64 (.w .i64 (.b .padd .i64 (.w .i64 (.b .padd .i64 (.w .i64 (.b .pmul .i64 (.v 0) (.c 67108864))) (.w .i64 (.b .pmul .i64 (.v 1) (.c 2097152))))) (.w .i64 (.b .pmul .i64 (.v 2) (.c 65536))))) (.w .i64 (.b .pmul .i64 (.v 3) (.c 2048))))) (.v 4))), (.c 0)]))))
def P (p0_0 p0_1 p0_2 p0_3 p0_4 : Int) : Prop :=
 ∀ y1000 : Int, y1000 = (cckZ p0_0 p0_1 (qQz p0_2 (qQz p0_3 (qQz p0_4 0)))) → (0 ≤ y1000 ∧ y1000 ≤ 6) →
 (((qQq (y1000 != 0)) ≠ 0 →
  (0 : Int) = (IntKind.wrap .u32 ((((p0_0 * 67108864) + (p0_1 * 2097152)) + (p0_2 * 65536)) + p0_4)) ∧ (y1000 : Int) = 0 ∧ True) ∧ ((qQq (y1000 != 0)) = 0 →
  (((qQq (decide (p0_4 < 0))) ≠ 0 →
   ((IntKind.wrap .u32 ((IntKind.wrap .i64 ((IntKind.wrap .i64 ((IntKind.wrap .i64 ((IntKind.wrap .i64 (p0_0 * 67108864)) + (IntKind.wrap .i64 (p0_1 * 2097152)))) + (IntKind.wrap .i64 (p0_2 * 65536)))) + (IntKind.wrap .i64 (p0_3 * 2048)))) + (IntKind.wrap .i64 (p0_4 + 65536)))) : Int) = (IntKind.wrap .u32 ((((p0_0 * 67108864) + (p0_1 * 2097152)) + (p0_2 * 65536)) + p0_4)) ∧ (0 : Int) = 0 ∧ True) ∧ ((qQq (decide (p0_4 < 0))) = 0 →
   ((IntKind.wrap .u32 ((IntKind.wrap .i64 ((IntKind.wrap .i64 ((IntKind.wrap .i64 ((IntKind.wrap .i64 (p0_0 * 67108864)) + (IntKind.wrap .i64 (p0_1 * 2097152)))) + (IntKind.wrap .i64 (p0_2 * 65536)))) + (IntKind.wrap .i64 (p0_3 * 2048)))) + p0_4)) : Int) = (IntKind.wrap .u32 ((((p0_0 * 67108864) + (p0_1 * 2097152)) + (p0_2 * 65536)) + p0_4)) ∧ (0 : Int) = 0 ∧ True))))
set_option maxHeartbeats 4000000 in
theorem holds (p0_0 p0_1 p0_2 p0_3 p0_4 : Int) (l_p0_0 : -9223372036854775808 ≤ p0_0) (u_p0_0 : p0_0 ≤ 9223372036854775807) (l_p0_1 : -9223372036854775808 ≤ p0_1) (u_p0_1 : p0_1 ≤ 9223372036854775807) (l_p0_2 : -9223372036854775808 ≤ p0_2) (u_p0_2 : p0_2 ≤ 9223372036854775807) (l_p0_3 : -9223372036854775808 ≤ p0_3) (u_p0_3 : p0_3 ≤ 9223372036854775807) (l_p0_4 : -9223372036854775808 ≤ p0_4) (u_p0_4 : p0_4 ≤ 9223372036854775807) (h_pre0 : qQq ((cckZ p0_0 p0_1 (qQz p0_2 (qQz p0_3 (qQz p0_4 0))))  ==  0) ≠ 0) (h_pre1 : qQq (decide (36  ≤  p0_0)) ≠ 0) (h_pre2 : qQq (decide (p0_0  ≤  39)) ≠ 0) : P p0_0 p0_1 p0_2 p0_3 p0_4 := by
 unfold P
 have hc : cckZ p0_0 p0_1 (qQz p0_2 (qQz p0_3 (qQz p0_4 0))) = 0 := by simpa [qQq] using h_pre0
 have k1 : p0_0 = 36 ∨ p0_0 = 37 ∨ p0_0 = 38 ∨ p0_0 = 39 := by
  have h1 : 36 ≤ p0_0 := by simpa [qQq] using h_pre1
  have h2 : p0_0 ≤ 39 := by simpa [qQq] using h_pre2
  omega
 clear h_pre0 h_pre1 h_pre2
 have k2 : (0 ≤ p0_1 ∧ p0_1 < 32) ∧ (0 ≤ p0_2 ∧ p0_2 < 32) ∧ p0_3 = 0 ∧ (0 ≤ p0_4 ∧ p0_4 ≤ 65535) := by
  rw [cckZ_I] at hc
  by_cases h : p0_0 = 39
  ·rw [cck_5 h] at hc
   (repeat' split at hc) <;> omega
  ·rw [cck_3 (by omega)] at hc
   (repeat' split at hc) <;> omega
 have k3 : p0_0 = 39 → p0_1 = 0 ∧ p0_2 = 0 := fun h => by
  rw [cckZ_I, cck_5 h] at hc
  (repeat' split at hc) <;> omega
 obtain ⟨⟨a0, a1⟩, ⟨b0, b1⟩, h3, n0, n1⟩ := k2
 rintro y rfl -
 rw [hc, h3]
 have e1 : IntKind.wrap .i64 (p0_0 * 67108864) = p0_0 * 67108864 := w64 (by omega) (by omega)
 have e2 : IntKind.wrap .i64 (p0_1 * 2097152) = p0_1 * 2097152 := w64 (by omega) (by omega)
 have e3 : IntKind.wrap .i64 (p0_2 * 65536) = p0_2 * 65536 := w64 (by omega) (by omega)
 have e4 : IntKind.wrap .i64 (0 * 2048) = 0 := by decide
 have e5 : IntKind.wrap .i64 (p0_0 * 67108864 + p0_1 * 2097152) = p0_0 * 67108864 + p0_1 * 2097152 := w64 (by omega) (by omega)
 have e6 : IntKind.wrap .i64 (p0_0 * 67108864 + p0_1 * 2097152 + p0_2 * 65536) = p0_0 * 67108864 + p0_1 * 2097152 + p0_2 * 65536 := w64 (by omega) (by omega)
 have e7 : IntKind.wrap .i64 (p0_0 * 67108864 + p0_1 * 2097152 + p0_2 * 65536 + 0) = p0_0 * 67108864 + p0_1 * 2097152 + p0_2 * 65536 := by rw [Int.add_zero]; exact e6
 have hn : ¬p0_4 < 0 := by omega
 rw [e1, e2, e3, e4, e5, e6, e7]
 simp [qQq, hn]
theorem plain (i v ro p) : statR 2 rc tree ⟨i, fN, v, ro, p⟩ = P (i 0) (i 1) (i 2) (i 3) (i 4) := by kernel_rfl
theorem ran : ranR us (fun _ _ => .auto) rc 2 tree = true := by kernel_rfl
theorem fineT : fineR 2 rc tree = true := by kernel_rfl
theorem ok : RcOk (cxOf 2) rc := okR us_ok ran fineT okb fun i v ro p hρ hcap hpre => by rw [plain]; have q := hρ.hi; exact holds _ _ _ _ _ (q 0 _ rfl).1 (q 0 _ rfl).2 (q 1 _ rfl).1 (q 1 _ rfl).2 (q 2 _ rfl).1 (q 2 _ rfl).2 (q 3 _ rfl).1 (q 3 _ rfl).2 (q 4 _ rfl).1 (q 4 _ rfl).2 (hpre _ (mg 0 rfl)) (hpre _ (mg 1 rfl)) (hpre _ (mg 2 rfl))
end CREnc
namespace CRAddrs
def rc : Rc := ⟨41, [none, none], [.row [.int .i64] 1000000, .int .i64], [], .one, [.bool (.f 85 (.v 2) (.v 0) (.v 1))]⟩
theorem okb : rc.ok = true := by kernel_rfl
noncomputable def us : SMs := fun Γ ins n => smH (cxG n Γ ins) [] (smR (cxG n Γ ins) [])
theorem us_ok : SMsOk us := fun Γ ins n => qZp (tabsG n Γ ins) (qZk _) (qZo (tabsG n Γ ins) (qZy _))
def tree : TT (List E) :=
(.loop ⟨1000, [some (0, 4611686018427387904)], [(.c 0)], 1002⟩
 (.br (.b .lt .i64 (.cl 1000 0 4611686018427387904) (.v 0))
 (.br (.b .lt .i64 (.w .i64 (.f 13 (.v 2) (.cl 1000 0 4611686018427387904) (.c 0))) (.c 0))
 (.exit 0)
 (.br (.b .le .i64 (.v 1) (.w .i64 (.f 13 (.v 2) (.cl 1000 0 4611686018427387904) (.c 0))))
 (.exit 1)
 (.br (.b .le .i64 (.b .padd .i64 (.cl 1000 0 4611686018427387904) (.c 1)) (.c 4611686018427387904))
 (.back [(.b .padd .i64 (.cl 1000 0 4611686018427387904) (.c 1))])
 (.bad 303))))
 (.exit 2))
 (.br (.b .eq .i64 (.v 1002) (.c 0))
 (.leaf [(.c 0)])
 (.br (.b .eq .i64 (.v 1002) (.c 1))
 (.leaf [(.c 0)])
 (.leaf [(.c 1)]))))
def P (n0 p1 c0 r0 : Int) : Prop :=
 ∃ I1000 : Int → Nat → Prop, (∃ m, I1000 0 m) ∧
 ∀ y1000 : Int, ∀ m1000, ((0 ≤ y1000 ∧ y1000 ≤ 4611686018427387904) ∧ True) → I1000 y1000 m1000 →
  (((qQq (decide (y1000 < n0))) ≠ 0 →
   (((qQq (decide ((IntKind.wrap .i64 (rdZ c0 y1000)) < 0))) ≠ 0 →
    (((qQq ((0 : Int) == 0)) ≠ 0 →
     ((0 : Int) ≠ 0 ↔ ((adZ c0 n0 p1) : Int) ≠ 0) ∧ True) ∧ ((qQq ((0 : Int) == 0)) = 0 →
     (((qQq ((0 : Int) == 1)) ≠ 0 →
      ((0 : Int) ≠ 0 ↔ ((adZ c0 n0 p1) : Int) ≠ 0) ∧ True) ∧ ((qQq ((0 : Int) == 1)) = 0 →
      ((1 : Int) ≠ 0 ↔ ((adZ c0 n0 p1) : Int) ≠ 0) ∧ True))))) ∧ ((qQq (decide ((IntKind.wrap .i64 (rdZ c0 y1000)) < 0))) = 0 →
    (((qQq (decide (p1 ≤ (IntKind.wrap .i64 (rdZ c0 y1000))))) ≠ 0 →
     (((qQq ((1 : Int) == 0)) ≠ 0 →
      ((0 : Int) ≠ 0 ↔ ((adZ c0 n0 p1) : Int) ≠ 0) ∧ True) ∧ ((qQq ((1 : Int) == 0)) = 0 →
      (((qQq ((1 : Int) == 1)) ≠ 0 →
       ((0 : Int) ≠ 0 ↔ ((adZ c0 n0 p1) : Int) ≠ 0) ∧ True) ∧ ((qQq ((1 : Int) == 1)) = 0 →
       ((1 : Int) ≠ 0 ↔ ((adZ c0 n0 p1) : Int) ≠ 0) ∧ True))))) ∧ ((qQq (decide (p1 ≤ (IntKind.wrap .i64 (rdZ c0 y1000))))) = 0 →
     (((qQq (decide ((y1000 + 1) ≤ 4611686018427387904))) ≠ 0 →
      ∃ m', m' < m1000 ∧ I1000 (y1000 + 1) m') ∧ ((qQq (decide ((y1000 + 1) ≤ 4611686018427387904))) = 0 →
      False))))))) ∧ ((qQq (decide (y1000 < n0))) = 0 →
   (((qQq ((2 : Int) == 0)) ≠ 0 →
    ((0 : Int) ≠ 0 ↔ ((adZ c0 n0 p1) : Int) ≠ 0) ∧ True) ∧ ((qQq ((2 : Int) == 0)) = 0 →
    (((qQq ((2 : Int) == 1)) ≠ 0 →
     ((0 : Int) ≠ 0 ↔ ((adZ c0 n0 p1) : Int) ≠ 0) ∧ True) ∧ ((qQq ((2 : Int) == 1)) = 0 →
     ((1 : Int) ≠ 0 ↔ ((adZ c0 n0 p1) : Int) ≠ 0) ∧ True))))))
theorem holds (n0 p1 c0 r0 : Int) (l_n0 : 0 ≤ n0) (u_n0 : n0 ≤ 1000000) (l_p1 : -9223372036854775808 ≤ p1) (u_p1 : p1 ≤ 9223372036854775807) (h_n0 : n0 ≤ r0) : P n0 p1 c0 r0 := by
 unfold P
 simp only [nrm, nro, Int.reduceEq, Int.reduceNeg, reduceIte]
 refine ⟨fun i m => adP c0 i p1 ∧ i ≤ n0 ∧ m = (n0 - i).toNat, ⟨_, ad_nil, l_n0, rfl⟩, fun i m hb hI => ?_⟩
 obtain ⟨hA, hi, rfl⟩ := hI
 refine ⟨fun h => ⟨fun h1 => adZ_eq.2 (ad_no hb.1 h (.inl h1)), fun h1 => ⟨fun h2 => adZ_eq.2 (ad_no hb.1 h (.inr h2)), fun h2 => ⟨by omega, _, ?_, ad_snoc hb.1 hA h1 h2, by omega, rfl⟩⟩⟩, fun h => ?_⟩
 ·omega
 ·have e : i = n0 := by omega
  subst e
  exact adZ_ne.2 hA
theorem plain (i v ro p) : statR 2 rc tree ⟨i, fN, v, ro, p⟩ = P (i 0) (i 1) (i 2) (i 3) := by kernel_rfl
theorem ran : ranR us (fun _ _ => .auto) rc 2 tree = true := by kernel_rfl
theorem fineT : fineR 2 rc tree = true := by kernel_rfl
theorem ok : RcOk (cxOf 2) rc := okR us_ok ran fineT okb fun i v ro p hρ hcap hpre => by rw [plain]; have q := hρ.hi; exact holds _ _ _ _ (q 0 _ rfl).1 (q 0 _ rfl).2 (q 1 _ rfl).1 (q 1 _ rfl).2 (hcap _ (mg 0 rfl))
end CRAddrs
namespace CRICheck
def rc : Rc := ⟨19, [some 5], [.row [.int .u32] 1000000, .row [.int .i32] 1000000, .row [.bool] 1000000, .row [.int .i64] 1000000, .row [.int .i64] 1000000], [], .one, [.int .i64 (.f 84 (.v 0) (.v 1) (qZj [(.v 2), (.v 3), (.v 4), (.v 8), (.v 9)]))]⟩
theorem okb : rc.ok = true := by kernel_rfl
noncomputable def us : SMs := fun Γ ins n => smH (cxG n Γ ins) [] (smR (cxG n Γ ins) [CRAddrs.rc])
theorem us_ok : SMsOk us := fun Γ ins n => qZp (tabsG n Γ ins) (qZk _) (qZo (tabsG n Γ ins) (qQe CRAddrs.okb (rc_n CRAddrs.ok) (qZy _)))
def Q0 : E := (.cl 1000 0 4611686018427387904)
def Q1 : E := (.cl 1002 0 4611686018427387904)
def Q2 : E := (tp Q1 (.c 1))
def Q3 : E := (tp Q0 (.c 1))
def tree : TT (List E) :=
 (.br (tk (.c 16384) (.v 0)) (.leaf [(.c 5)]) (.br (tk (.c 2048) (.v 1)) (.leaf [(.c 5)]) (.br (tk (.c 255) (.v 3)) (.leaf [(.c 5)]) (.br (tk (.c 255) (.v 4)) (.leaf [(.c 5)]) (.br (tn (.v 2) (.v 1)) (.leaf [(.c 2)]) (.br (tl (.v 3) (.v 13)) (.br (.nt (.f 85 (.v 8) (.v 3) (.v 1))) (.leaf [(.c 2)]) (.br (tl (.v 4) (.v 14)) (.br (.nt (.f 85 (.v 9) (.v 4) (.v 1))) (.leaf [(.c 2)]) (.loop ⟨1000, [some (0, 4611686018427387904)], [(.c 0)], 1005⟩ (.br (tk Q0 (.v 3)) (.loop ⟨1002, [some (0, 4611686018427387904)], [(.c 0)], 1004⟩ (.br (tk Q1 Q0) (.br (tk Q1 (.v 3)) (.br (te (t6 (tR (.v 8) Q0)) (t6 (tR (.v 8) Q1))) (.exit 0) (.br (tl Q2 (.c 4611686018427387904)) (.back [Q2]) (.bad 303))) (.bad 200)) (.exit 1)) (.br (te (.v 1004) (.c 0)) (.exit 0) (.br (tl Q3 (.c 4611686018427387904)) (.back [Q3])
 (.bad 303)))) (.exit 1)) (.br (te (.v 1005) (.c 0)) (.leaf [(.c 9)]) (.leaf [(.c 0)])))) (.bad 200))) (.bad 200)))))))
noncomputable def sq0 (a b c d e i j : Int) : Int := (chkZ a b (kZ c (kZ d (kZ e (kZ i (kZ j 0))))))
def P (a b c d e f g h i j k l n o p : Int) : Prop :=
 (Pb (Pl 16384 a) ((5 : Int) = (sq0 a b c d e i j) ∧ True) (Pb (Pl 2048 b) ((5 : Int) = (sq0 a b c d e i j) ∧ True) (Pb (Pl 255 d) ((5 : Int) = (sq0 a b c d e i j) ∧ True) (Pb (Pl 255 e) ((5 : Int) = (sq0 a b c d e i j) ∧ True) (Pb (Pd c b) ((2 : Int) = (sq0 a b c d e i j) ∧ True) (Pm (PL d o) (Pb (Pe (adZ i d b) 0) ((2 : Int) = (sq0 a b c d e i j) ∧ True) (Pm (PL e p) (Pb (Pe (adZ j e b) 0) ((2 : Int) = (sq0 a b c d e i j) ∧ True) (∃ I1000 : Int → Nat → Prop, (∃ m, I1000 0 m) ∧ ∀ y0 : Int, ∀ m0, ((0 ≤ y0 ∧ y0 ≤ 4611686018427387904) ∧ True) → I1000 y0 m0 → (Pb (Pl y0 d) (∃ I1002 : Int → Nat → Prop, (∃ m, I1002 0 m) ∧ ∀ y2 : Int, ∀ m2, ((0 ≤ y2 ∧ y2 ≤ 4611686018427387904) ∧ True) → I1002 y2 m2 → (Pb (Pl y2 y0) (Pm (Pl y2 d) (Pb (Pe (W6 (rdZ i y0)) (W6 (rdZ i y2))) (Pb (Pe (0 : Int) 0) (Pb
 (Pe (0 : Int) 0) ((9 : Int) = (sq0 a b c d e i j) ∧ True) ((0 : Int) = (sq0 a b c d e i j) ∧ True)) (Pm (PL (y0 + 1) 4611686018427387904) (∃ m', m' < m0 ∧ I1000 (y0 + 1) m'))) (Pm (PL (y2 + 1) 4611686018427387904) (∃ m', m' < m2 ∧ I1002 (y2 + 1) m')))) (Pb (Pe (1 : Int) 0) (Pb (Pe (0 : Int) 0) ((9 : Int) = (sq0 a b c d e i j) ∧ True) ((0 : Int) = (sq0 a b c d e i j) ∧ True)) (Pm (PL (y0 + 1) 4611686018427387904) (∃ m', m' < m0 ∧ I1000 (y0 + 1) m'))))) (Pb (Pe (1 : Int) 0) ((9 : Int) = (sq0 a b c d e i j) ∧ True) ((0 : Int) = (sq0 a b c d e i j) ∧ True)))))))))))))
theorem holds (n0_0 n0_1 n0_2 n0_3 n0_4 c0_0 c0_1 c0_2 c0_3 c0_4 r0_0 r0_1 r0_2 r0_3 r0_4 : Int) (l_n0_0 : 0 ≤ n0_0) (u_n0_0 : n0_0 ≤ 1000000) (l_n0_1 : 0 ≤ n0_1) (u_n0_1 : n0_1 ≤ 1000000) (l_n0_2 : 0 ≤ n0_2) (u_n0_2 : n0_2 ≤ 1000000) (l_n0_3 : 0 ≤ n0_3) (u_n0_3 : n0_3 ≤ 1000000) (l_n0_4 : 0 ≤ n0_4) (u_n0_4 : n0_4 ≤ 1000000) (h_n0_0 : n0_0 ≤ r0_0) (h_n0_1 : n0_1 ≤ r0_1) (h_n0_2 : n0_2 ≤ r0_2) (h_n0_3 : n0_3 ≤ r0_3) (h_n0_4 : n0_4 ≤ r0_4) : P n0_0 n0_1 n0_2 n0_3 n0_4 c0_0 c0_1 c0_2 c0_3 c0_4 r0_0 r0_1 r0_2 r0_3 r0_4 := by
 delta P sq0 Pb Pm PL Pl Pe Pd W6 kZ
 simp only [nrm, nro, Int.reduceEq, Int.reduceNeg, reduceIte]
 simp only [chk_ev]
 refine ⟨fun h1 => qKc (.inl h1), fun h1 => ⟨fun h2 => qKc (.inr (.inl h2)), fun h2 => ⟨fun h3 => qKc (.inr (.inr (.inl h3))), fun h3 => ⟨fun h4 => qKc (.inr (.inr (.inr h4))), fun h4 => ?_⟩⟩⟩⟩
 have hl : ¬ (16384 < n0_0 ∨ 2048 < n0_1 ∨ 255 < n0_3 ∨ 255 < n0_4) := by omega
 refine ⟨fun h5 => chk_arg hl (.inl h5), fun h5 => ⟨by omega, fun h6 => chk_arg hl (.inr (.inl (adZ_eq.1 h6))), fun h6 => ⟨by omega, fun h7 => chk_arg hl (.inr (.inr (adZ_eq.1 h7))), fun h7 => ?_⟩⟩⟩
 refine ⟨fun i m => (∀ a b : Int, 0 ≤ b → b < a → a < i → ¬ IntKind.wrap .i64 (rdZ c0_3 a) = IntKind.wrap .i64 (rdZ c0_3 b)) ∧ i ≤ n0_3 ∧ m = (n0_3 - i).toNat, ⟨_, fun a b _ _ _ => by omega, l_n0_3, rfl⟩, fun i m hb hI => ?_⟩
 obtain ⟨hA, hi, rfl⟩ := hI
 refine ⟨fun h => ?_, fun h => ?_⟩
 ·refine ⟨fun k m => (∀ b : Int, 0 ≤ b → b < k → ¬ IntKind.wrap .i64 (rdZ c0_3 i) = IntKind.wrap .i64 (rdZ c0_3 b)) ∧ k ≤ i ∧ m = (i - k).toNat, ⟨_, fun b _ _ => by omega, hb.1, rfl⟩, fun k m hk hI => ?_⟩
  obtain ⟨hB, hki, rfl⟩ := hI
  refine ⟨fun g => ⟨by omega, fun g1 => chk_twice hl h5 (adZ_ne.1 h6) (adZ_ne.1 h7) (tw_of hk.1 g h g1), fun g1 => ⟨by omega, _, ?_, fun b b0 b1 => ?_, by omega, rfl⟩⟩, fun g => ⟨by omega, _, ?_, fun a b b0 b1 b2 => ?_, by omega, rfl⟩⟩
  ·omega
  ·by_cases e : b = k
   ·subst e; exact g1
   ·exact hB b b0 (by omega)
  ·omega
  ·by_cases e : a = i
   ·subst e; exact hB b b0 (by omega)
   ·exact hA a b b0 b1 (by omega)
 ·refine chk_ok hl h5 (adZ_ne.1 h6) (adZ_ne.1 h7) ?_
  rintro ⟨a, b, g1, g2, g3⟩
  exact hA a b (by omega) (by omega) (by omega) g3
theorem plain (i v ro p) : statR 2 rc tree ⟨i, fN, v, ro, p⟩ = P (i 0) (i 1) (i 2) (i 3) (i 4) (i 5) (i 6) (i 7) (i 8) (i 9) (i 10) (i 11) (i 12) (i 13) (i 14) := by kernel_rfl
theorem ran : ranR us (fun _ _ => .auto) rc 2 tree = true := by kernel_rfl
theorem fineT : fineR 2 rc tree = true := by kernel_rfl
theorem ok : RcOk (cxOf 2) rc := okR us_ok ran fineT okb fun i v ro p hρ hcap hpre => by rw [plain]; have q := hρ.hi; exact holds _ _ _ _ _ _ _ _ _ _ _ _ _ _ _ (q 0 _ rfl).1 (q 0 _ rfl).2 (q 1 _ rfl).1 (q 1 _ rfl).2 (q 2 _ rfl).1 (q 2 _ rfl).2 (q 3 _ rfl).1 (q 3 _ rfl).2 (q 4 _ rfl).1 (q 4 _ rfl).2 (hcap _ (mg 0 rfl)) (hcap _ (mg 1 rfl)) (hcap _ (mg 2 rfl)) (hcap _ (mg 3 rfl)) (hcap _ (mg 4 rfl))
end CRICheck
end Go.Proofs.Ythfckifhnaoopac
