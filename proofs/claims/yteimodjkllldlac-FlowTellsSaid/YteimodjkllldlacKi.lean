/-
  What functions of the program answer, as numbers of what they are handed: their runs by the engine, the plain statements behind them. No condition.
-/
import Derived.Test.YteimodjkllldlacKe
import Derived.Test.YteimodjkllldlacKg
import Derived.Test.YteimodjkllldlacGab
import Derived.Test.YteimodjkllldlacGmZo
import Derived.Test.YteimodjkllldlacGmI
import Derived.Test.YteimodjkllldlacGmH
import Derived.Test.YteimodjkllldlacGmC
set_option linter.unusedVariables false
set_option linter.unusedSimpArgs false
set_option maxRecDepth 100000
namespace Go.Proofs.Yteimodjkllldlac
open Go.Eng Go.RowKit
namespace CRFSecrets
def rc : Rc := ⟨10, [some 5], [.row [.int .u32] 1000000, .row [.int .i32] 1000000, .row [.bool] 1000000, .row [.int .i64] 1000000, .row [.int .i64] 1000000], [], .one, [.row [.int .u32] 36 (.f 109 (.v 5) (.v 0) (qQr [(.v 1), (.v 7)])) (.ite (.b .ne .i64 (.f 84 (.v 0) (.v 1) (qQr [(.v 2), (.v 3), (.v 4), (.v 8), (.v 9)])) (.c 0)) (.c 0) (.v 0))]⟩
theorem okb : rc.ok = true := by kernel_rfl
noncomputable def us : SMs := fun Γ ins n => smH (cxG n Γ ins) [] (smR (cxG n Γ ins) [CRICheck.rc, CRLevels.rc])
theorem us_ok : SMsOk us := fun Γ ins n => qJx (tabsG n Γ ins) (qZd _) (qJj (tabsG n Γ ins) (qQu CRICheck.okb (rc_n CRICheck.ok) (qQu CRLevels.okb (rc_n CRLevels.ok) (qZf _))))
def Q0 : E := (.cl 1003 0 4611686018427387904)
def Q1 : E := (.cl 1006 (-4611686018427387904) 31)
def Q2 : E := (tp (.c 1) Q1)
def Q3 : E := (.b .psub .i64 Q1 (.c 1))
def Q4 : E := (tl (.c (-4611686018427387904)) Q3)
def Q5 : E := (.cl 1005 0 4294967295)
def Q6 : E := (.b .pmul .i64 (.c 2) Q5)
def Q7 : E := (.w .u32 Q6)
def Q8 : E := (.cl 1002 0 1000000)
def Q9 : E := (tp Q8 (.c 1))
def Q10 : E := (tl Q9 (.c 1000000))
def Q11 : E := (tp Q0 (.c 1))
def tree : TT (List E) :=
 (.br (tl (.v 0) (.v 10)) (.br (tl (.v 1) (.v 11)) (.br (tl (.v 2) (.v 12)) (.br (tl (.v 3) (.v 13)) (.br (tl (.v 4) (.v 14)) (.new 1000 (.f 84 (.v 0) (.v 1) (tC (.v 2) (tC (.v 3) (tC (.v 4) (tC (.v 8) (tC (.v 9) (.c 0))))))) (.br (tn (.cl 1000 0 9) (.c 0)) (.leaf [(.c 0), (.c 0)]) (.br (tl (.v 0) (.c 16384)) (.br (tl (.v 1) (.c 2048)) (.br (te (.v 2) (.v 1)) (.loop ⟨1001, [none, some (0, 1000000), some (0, 4611686018427387904)], [(.c 0), (.c 0), (.c 0)], 1009⟩ (.br (tk Q0 (.v 0)) (.loop ⟨1005, [some (0, 4294967295), some (-4611686018427387904, 31)], [(.c 0), (.c 31)], 1008⟩ (.br (tl (.c 0) Q1) (.br (tl (.c 0) Q2) (.br (tR (tR (.f 103 (.v 5) (.v 0) (tC (.v 1) (tC (.v 7) (.c 0)))) Q0) Q2) (.br Q4 (.back [(.w .u32 (tp Q7 (.c 1))), Q3]) (.bad 303)) (.br Q4 (.back [Q7, Q3]) (.bad 303))) (.bad
 200)) (.exit 0)) (.br Q10 (.br Q10 (.br (tl Q11 (.c 4611686018427387904)) (.back [(.f 14 (.v 1001) Q8 Q5), Q9, Q11]) (.bad 303)) (.bad 303)) (.bad 200))) (.exit 0)) (.leaf [Q8, (.v 1001)])) (.bad 200)) (.bad 200)) (.bad 200)))) (.bad 200)) (.bad 200)) (.bad 200)) (.bad 200)) (.bad 200))
def sL0 (a b c d e i j f h z0 z2 z4 : Int) : Prop := (z0 : Int) = (iteZ (Pd (chkZ a b (kZ c (kZ d (kZ e (kZ i (kZ j 0)))))) 0) 0 a) ∧ qQe [.int .u32] z2 (sctZ f a (kZ b (kZ h 0))) z4 ∧ True
def P (a b c d e f g h i j k l n o p : Int) : Prop :=
 (Pm (PL a k) (Pm (PL b l) (Pm (PL c n) (Pm (PL d o) (Pm (PL e p) (Pn (chkZ a b (kZ c (kZ d (kZ e (kZ i (kZ j 0)))))) 0 9 fun y0 => (Pb (Pd y0 0) (sL0 a b c d e i j f h 0 0 0) (Pm (PL a 16384) (Pm (PL b 2048) (Pm (Pe c b) (∃ I1001 : Int → Int → Int → Nat → Prop, (∃ m, I1001 0 0 0 m) ∧ ∀ y1 y2 y3 : Int, ∀ m1, (True ∧ (0 ≤ y2 ∧ y2 ≤ 1000000) ∧ (0 ≤ y3 ∧ y3 ≤ 4611686018427387904) ∧ True) → I1001 y1 y2 y3 m1 → (Pb (Pl y3 a) (∃ I1005 : Int → Int → Nat → Prop, (∃ m, I1005 0 31 m) ∧ ∀ y5 y6 : Int, ∀ m5, ((0 ≤ y5 ∧ y5 ≤ 4294967295) ∧ ((-4611686018427387904) ≤ y6 ∧ y6 ≤ 31) ∧ True) → I1005 y5 y6 m5 → (Pb (PL 0 y6) (Pm (PL 0 (1 + y6)) (Pb (rdZ (rdZ (levZ f a (kZ b (kZ h 0))) y3) (1 + y6)) (Pm (PL (-4611686018427387904) (y6 - 1)) (∃ m', m' < m5 ∧ I1005 (U3 ((U3 (2 * y5)) + 1)) (y6 - 1) m')) (Pm (PL
 (-4611686018427387904) (y6 - 1)) (∃ m', m' < m5 ∧ I1005 (U3 (2 * y5)) (y6 - 1) m')))) (Pm (PL (y2 + 1) 1000000) (Pm (PL (y2 + 1) 1000000) (Pm (PL (y3 + 1) 4611686018427387904) (∃ m', m' < m1 ∧ I1001 (updZ y1 y2 y5) (y2 + 1) (y3 + 1) m')))))) (sL0 a b c d e i j f h y2 y1 y2)))))))))))))
set_option maxHeartbeats 4000000 in
theorem holds (n0_0 n0_1 n0_2 n0_3 n0_4 c0_0 c0_1 c0_2 c0_3 c0_4 r0_0 r0_1 r0_2 r0_3 r0_4 : Int) (l_n0_0 : 0 ≤ n0_0) (u_n0_0 : n0_0 ≤ 1000000) (l_n0_1 : 0 ≤ n0_1) (u_n0_1 : n0_1 ≤ 1000000) (l_n0_2 : 0 ≤ n0_2) (u_n0_2 : n0_2 ≤ 1000000) (l_n0_3 : 0 ≤ n0_3) (u_n0_3 : n0_3 ≤ 1000000) (l_n0_4 : 0 ≤ n0_4) (u_n0_4 : n0_4 ≤ 1000000) (h_n0_0 : n0_0 ≤ r0_0) (h_n0_1 : n0_1 ≤ r0_1) (h_n0_2 : n0_2 ≤ r0_2) (h_n0_3 : n0_3 ≤ r0_3) (h_n0_4 : n0_4 ≤ r0_4) : P n0_0 n0_1 n0_2 n0_3 n0_4 c0_0 c0_1 c0_2 c0_3 c0_4 r0_0 r0_1 r0_2 r0_3 r0_4 := by
 delta P sL0 Pb Pm Pn PL Pl Pe Pd U3 kZ
 simp only [nrm, nro, Int.reduceEq, Int.reduceNeg, reduceIte]
 refine ⟨h_n0_0, h_n0_1, h_n0_2, h_n0_3, h_n0_4, ?_⟩
 rintro x rfl -
 simp only [chk_ev]
 generalize hC : chk7 n0_0 n0_1 n0_2 n0_3 n0_4 c0_3 c0_4 = C
 refine ⟨fun h => ⟨by rw [if_pos h], rowEq_nil _ _ _ (Int.le_refl _)⟩, fun h => ?_⟩
 obtain ⟨k1, k2, k3, k4, k5, k6, k7, k8⟩ := chk_zero (hC.trans h)
 have i0 : ∀ x y : Int, (if ¬ C = 0 then x else y) = y := fun x y => if_neg (fun g => g h)
 simp only [i0]
 subst k5
 refine ⟨k1, k2, rfl, ?_⟩
 have hz2 := qKw n0_2 c0_2
 refine ⟨fun c k j m => (0 ≤ j ∧ j ≤ n0_0) ∧ k = j ∧ (∀ i, 0 ≤ i → i < j → IntKind.wrap .u32 (rdZ c i) = IntKind.wrap .u32 (rdZ (sctZ c0_0 n0_0 (qQq n0_2 (qQq c0_2 0))) i)) ∧ m = (n0_0 - j).toNat, ⟨_, ⟨by decide, l_n0_0⟩, rfl, fun i _ _ => by omega, rfl⟩, ?_⟩
 rintro c k j m - ⟨⟨j0, j1⟩, e, hI, rfl⟩
 subst e
 refine ⟨fun hj => ?_, fun hj => ⟨by omega, row_u fun i i0 i1 => hI i i0 (by omega)⟩⟩
 obtain ⟨f, hf, hsum⟩ := sct_sum (w := c0_0) hz2.1 hz2.2 j0 hj
 obtain ⟨lr, ls⟩ := lev_rd (w := c0_0) (nr := n0_2) (cS := c0_2) j0 hj
 refine ⟨fun x r m => SbI f x r ∧ m = (r + 1).toNat, ⟨_, sb_start f, rfl⟩, ?_⟩
 rintro x r m - ⟨hS, rfl⟩
 have wu : ∀ y : Int, 0 ≤ y → y ≤ 4294967295 → IntKind.wrap .u32 y = y := fun y y0 y1 => by
  have : IntKind.wrap .u32 y = y % 4294967296 := by simp [IntKind.wrap, IntKind.bits, IntKind.signed]
  omega
 have hx0 := hS.2.1
 have hr := hS.1
 refine ⟨fun r0 => ⟨by omega, ?_⟩, fun r0 => ?_⟩
 ·have hl := ls r r0 (by omega)
  rw [c32_at _ r0 (by omega)] at hl
  have hfr := hf r.toNat
  rw [show ((r.toNat : Nat) : Int) = r by omega] at hfr
  refine ⟨fun hb => ⟨by omega, ?_⟩, fun hb => ⟨by omega, ?_⟩⟩
  ·obtain ⟨g1, g2⟩ := sb_step hS r0 (b := 1) (by rw [if_pos (hfr.2 (hl.1 hb))])
   rw [wu (2 * x) (by omega) (by omega), wu (2 * x + 1) (by omega) (by omega)]
   exact ⟨_, by omega, g1, rfl⟩
  ·obtain ⟨g1, g2⟩ := sb_step hS r0 (b := 0) (by rw [if_neg (fun k => hl.2 (hfr.1 k) hb)])
   rw [wu (2 * x) (by omega) (by omega)]
   rw [Int.add_zero] at g1
   exact ⟨_, by omega, g1, rfl⟩
 ·have hx := sb_end hS (by omega)
  refine ⟨by omega, by omega, by omega, _, ?_, ⟨by omega, by omega⟩, rfl, fun i i0 i1 => ?_, rfl⟩
  ·omega
  ·rw [qQh]
   by_cases e : i = k
   ·subst e
    rw [if_pos rfl, hsum, hx]
   ·rw [if_neg (by omega)]; exact hI i i0 (by omega)
theorem plain (i v ro p) : statR 2 rc tree ⟨i, fN, v, ro, p⟩ = P (i 0) (i 1) (i 2) (i 3) (i 4) (i 5) (i 6) (i 7) (i 8) (i 9) (i 10) (i 11) (i 12) (i 13) (i 14) := by kernel_rfl
theorem ran : ranR us (fun _ _ => .auto) rc 2 tree = true := by kernel_rfl
theorem fineT : fineR 2 rc tree = true := by kernel_rfl
theorem ok : RcOk (cxOf 2) rc := okR us_ok ran fineT okb fun i v ro p hρ hcap hpre => by rw [plain]; have q := hρ.hi; exact holds _ _ _ _ _ _ _ _ _ _ _ _ _ _ _ (q 0 _ rfl).1 (q 0 _ rfl).2 (q 1 _ rfl).1 (q 1 _ rfl).2 (q 2 _ rfl).1 (q 2 _ rfl).2 (q 3 _ rfl).1 (q 3 _ rfl).2 (q 4 _ rfl).1 (q 4 _ rfl).2 (hcap _ (mg 0 rfl)) (hcap _ (mg 1 rfl)) (hcap _ (mg 2 rfl)) (hcap _ (mg 3 rfl)) (hcap _ (mg 4 rfl))
end CRFSecrets
namespace CRWords
def rc : Rc := ⟨8, [none, none], [.row [.int .u32] 1000000, .row [.int .u32] 1000000], [], .one, [.bool (.ite (.b .eq .i64 (.v 0) (.v 1)) (.f 72 (.v 2) (.v 3) (.v 0)) (.c 0))]⟩
theorem okb : rc.ok = true := by kernel_rfl
noncomputable def us : SMs := fun Γ ins n => smH (cxG n Γ ins) [] (smR (cxG n Γ ins) [])
theorem us_ok : SMsOk us := fun Γ ins n => qJx (tabsG n Γ ins) (qZd _) (qJj (tabsG n Γ ins) (qZf _))
def tree : TT (List E) :=
(.br (.b .ne .i64 (.v 0) (.v 1))
 (.leaf [(.c 0)])
 (.loop ⟨1000, [some (0, 4611686018427387904)], [(.c 0)], 1002⟩
 (.br (.b .lt .i64 (.cl 1000 0 4611686018427387904) (.v 0))
 (.br (.b .lt .i64 (.cl 1000 0 4611686018427387904) (.v 1))
 (.br (.b .ne .i64 (.w .u32 (.f 13 (.v 2) (.cl 1000 0 4611686018427387904) (.c 0))) (.w .u32 (.f 13 (.v 3) (.cl 1000 0 4611686018427387904) (.c 0))))
 (.exit 0)
 (.br (.b .le .i64 (.b .padd .i64 (.cl 1000 0 4611686018427387904) (.c 1)) (.c 4611686018427387904))
 (.back [(.b .padd .i64 (.cl 1000 0 4611686018427387904) (.c 1))])
 (.bad 303)))
 (.bad 200))
 (.exit 1))
 (.br (.b .eq .i64 (.v 1002) (.c 0))
 (.leaf [(.c 0)])
 (.leaf [(.c 1)]))))
def P (n0 n1 c0 c1 r0 r1 : Int) : Prop :=
 (((qQz (n0 != n1)) ≠ 0 →
  ((0 : Int) ≠ 0 ↔ ((iteZ (qQz (n0 == n1)) (sameW c0 c1 n0) 0) : Int) ≠ 0) ∧ True) ∧ ((qQz (n0 != n1)) = 0 →
  ∃ I1000 : Int → Nat → Prop, (∃ m, I1000 0 m) ∧
  ∀ y1000 : Int, ∀ m1000, ((0 ≤ y1000 ∧ y1000 ≤ 4611686018427387904) ∧ True) → I1000 y1000 m1000 →
   (((qQz (decide (y1000 < n0))) ≠ 0 →
    (((qQz (decide (y1000 < n1))) ≠ 0 →
     (((qQz ((IntKind.wrap .u32 (rdZ c0 y1000)) != (IntKind.wrap .u32 (rdZ c1 y1000)))) ≠ 0 →
      (((qQz ((0 : Int) == 0)) ≠ 0 →
       ((0 : Int) ≠ 0 ↔ ((iteZ (qQz (n0 == n1)) (sameW c0 c1 n0) 0) : Int) ≠ 0) ∧ True) ∧ ((qQz ((0 : Int) == 0)) = 0 →
       ((1 : Int) ≠ 0 ↔ ((iteZ (qQz (n0 == n1)) (sameW c0 c1 n0) 0) : Int) ≠ 0) ∧ True))) ∧ ((qQz ((IntKind.wrap .u32 (rdZ c0 y1000)) != (IntKind.wrap .u32 (rdZ c1 y1000)))) = 0 →
      (((qQz (decide ((y1000 + 1) ≤ 4611686018427387904))) ≠ 0 →
       ∃ m', m' < m1000 ∧ I1000 (y1000 + 1) m') ∧ ((qQz (decide ((y1000 + 1) ≤ 4611686018427387904))) = 0 →
       False))))) ∧ ((qQz (decide (y1000 < n1))) = 0 →
     False))) ∧ ((qQz (decide (y1000 < n0))) = 0 →
    (((qQz ((1 : Int) == 0)) ≠ 0 →
     ((0 : Int) ≠ 0 ↔ ((iteZ (qQz (n0 == n1)) (sameW c0 c1 n0) 0) : Int) ≠ 0) ∧ True) ∧ ((qQz ((1 : Int) == 0)) = 0 →
     ((1 : Int) ≠ 0 ↔ ((iteZ (qQz (n0 == n1)) (sameW c0 c1 n0) 0) : Int) ≠ 0) ∧ True))))))
theorem sameU_iff (c d n : Int) : sameW c d n ≠ 0 ↔ ∀ i : Nat, (i : Int) < n → IntKind.wrap .u32 (rdZ c i) = IntKind.wrap .u32 (rdZ d i) := by
 have w : ∀ a b : Int, IntKind.wrap .i32 a = IntKind.wrap .i32 b ↔ IntKind.wrap .u32 a = IntKind.wrap .u32 b := fun a b =>
  ⟨fun h => by have := congrArg (IntKind.wrap .u32) h; rwa [wrap_wrap .u32 .i32 _ (by decide), wrap_wrap .u32 .i32 _ (by decide)] at this,
   fun h => by have := congrArg (IntKind.wrap .i32) h; rwa [wrap_wrap .i32 .u32 _ (by decide), wrap_wrap .i32 .u32 _ (by decide)] at this⟩
 unfold sameW
 split
 ·rename_i h; exact ⟨fun _ i hi => (w _ _).1 (h i hi), fun _ => by decide⟩
 ·rename_i h; exact ⟨fun k => absurd rfl k, fun k => absurd (fun i hi => (w _ _).2 (k i hi)) h⟩
theorem holds (n0 n1 c0 c1 r0 r1 : Int) (l_n0 : 0 ≤ n0) (u_n0 : n0 ≤ 1000000) (l_n1 : 0 ≤ n1) (u_n1 : n1 ≤ 1000000) (h_n0 : n0 ≤ r0) (h_n1 : n1 ≤ r1) : P n0 n1 c0 c1 r0 r1 := by
 unfold P
 simp only [nrm, Int.reduceEq, Int.reduceNeg, reduceIte]
 refine ⟨fun h => by simp [h], fun h => ?_⟩
 subst h
 simp only [if_true]
 have hs := sameU_iff c0 c1 n0
 refine ⟨fun i m => (∀ k : Nat, (k : Int) < i → IntKind.wrap .u32 (rdZ c0 k) = IntKind.wrap .u32 (rdZ c1 k)) ∧ i ≤ n0 ∧ m = (n0 - i).toNat, ⟨_, fun k hk => by omega, l_n0, rfl⟩, fun i m hb hI => ?_⟩
 obtain ⟨hI, hi, rfl⟩ := hI
 obtain ⟨j, rfl⟩ : ∃ j : Nat, i = j := ⟨i.toNat, by omega⟩
 refine ⟨fun h1 => ⟨fun h2 => ⟨fun h3 => by have : ¬ (sameW c0 c1 n0 ≠ 0) := fun h => h3 (hs.1 h j h1); simp_all, fun h3 => ⟨fun h4 => ⟨_, ?_, fun k hk => ?_, by omega, rfl⟩, fun h4 => by omega⟩⟩, fun h2 => by omega⟩, fun h1 => by have := hs.2 fun k hk => hI k (by omega); simp_all⟩
 ·omega
 ·by_cases e : k = j
  ·subst e; exact h3
  ·exact hI k (by omega)
theorem plain (i v ro p) : statR 2 rc tree ⟨i, fN, v, ro, p⟩ = P (i 0) (i 1) (i 2) (i 3) (i 4) (i 5) := by kernel_rfl
theorem ran : ranR us (fun _ _ => .auto) rc 2 tree = true := by kernel_rfl
theorem fineT : fineR 2 rc tree = true := by kernel_rfl
theorem ok : RcOk (cxOf 2) rc := okR us_ok ran fineT okb fun i v ro p hρ hcap hpre => by rw [plain]; have q := hρ.hi; exact holds _ _ _ _ _ _ (q 0 _ rfl).1 (q 0 _ rfl).2 (q 1 _ rfl).1 (q 1 _ rfl).2 (hcap _ (mg 0 rfl)) (hcap _ (mg 1 rfl))
end CRWords
end Go.Proofs.Yteimodjkllldlac
