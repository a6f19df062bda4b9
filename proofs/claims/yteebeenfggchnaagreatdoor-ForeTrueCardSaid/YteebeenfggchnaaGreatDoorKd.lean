/-
  What functions of the program answer, as numbers of what they are handed: their runs by the engine, the plain statements behind them. No condition.
-/
import Derived.Test.YteebeenfggchnaaGreatDoorKa
import Derived.Test.YteebeenfggchnaaGreatDoorKb
import Derived.Test.YteebeenfggchnaaGreatDoorKc
import Derived.Test.YteebeenfggchnaaGreatDoorGab
import Derived.Test.YteebeenfggchnaaGreatDoorGmT
import Derived.Test.YteebeenfggchnaaGreatDoorGmH
import Derived.Test.YteebeenfggchnaaGreatDoorGmV
import Derived.Test.YteebeenfggchnaaGreatDoorGmC
import Derived.Test.YteebeenfggchnaaGreatDoorGmE
set_option linter.unusedVariables false
set_option linter.unusedSimpArgs false
set_option maxRecDepth 100000
namespace Go.Proofs.YteebeenfggchnaaGreatDoor
open Go.Eng Go.RowKit
namespace CRAddrs
def rc : Rc := ⟨15, [none, none], [.row [.int .i64] 1000000, .int .i64], [], .one, [.bool (.f 85 (.v 2) (.v 0) (.v 1))]⟩
theorem okb : rc.ok = true := by kernel_rfl
noncomputable def us : SMs := fun Γ ins n => smH (cxG n Γ ins) [] (smR (cxG n Γ ins) [])
theorem us_ok : SMsOk us := fun Γ ins n => qZt (tabsG n Γ ins) (qZv _) (qZn (tabsG n Γ ins) (qZw _))
def tree : TT (List E) :=
(.loop ⟨1000, [some (0, 4611686018427387904)], [(.c 0)], 1002⟩
 (.br (.b .lt .i64 (.cl 1000 0 4611686018427387904) (.v 0))
 (.br (.b .lt .i64 (.w .i64 (.f 13 (.v 2) (.cl 1000 0 4611686018427387904) (.c 0))) (.c 0))
 (.exit 0)
 (.br (.b .le .i64 (.v 1) (.w .i64 (.f 13 (.v 2) (.cl 1000 0 4611686018427387904) (.c 0))))
 (.exit 1)
 (.br (.b .le .i64 (.b .padd .i64 (.cl 1000 0 4611686018427387904) (.c 1)) (.c 4611686018427387904))
 (.back [(.b .padd .i64 (.cl 1000 0 4611686018427387904) (.c 1))])
 (.bad 303))))
 (.exit 2))
 (.br (.b .eq .i64 (.v 1002) (.c 0))
 (.leaf [(.c 0)])
 (.br (.b .eq .i64 (.v 1002) (.c 1))
 (.leaf [(.c 0)])
 (.leaf [(.c 1)]))))
def P (n0 p1 c0 r0 : Int) : Prop :=
 ∃ I1000 : Int → Nat → Prop, (∃ m, I1000 0 m) ∧
 ∀ y1000 : Int, ∀ m1000, ((0 ≤ y1000 ∧ y1000 ≤ 4611686018427387904) ∧ True) → I1000 y1000 m1000 →
  (((qQj (decide (y1000 < n0))) ≠ 0 →
   (((qQj (decide ((IntKind.wrap .i64 (rdZ c0 y1000)) < 0))) ≠ 0 →
    (((qQj ((0 : Int) == 0)) ≠ 0 →
     ((0 : Int) ≠ 0 ↔ ((adZ c0 n0 p1) : Int) ≠ 0) ∧ True) ∧ ((qQj ((0 : Int) == 0)) = 0 →
     (((qQj ((0 : Int) == 1)) ≠ 0 →
      ((0 : Int) ≠ 0 ↔ ((adZ c0 n0 p1) : Int) ≠ 0) ∧ True) ∧ ((qQj ((0 : Int) == 1)) = 0 →
      ((1 : Int) ≠ 0 ↔ ((adZ c0 n0 p1) : Int) ≠ 0) ∧ True))))) ∧ ((qQj (decide ((IntKind.wrap .i64 (rdZ c0 y1000)) < 0))) = 0 →
    (((qQj (decide (p1 ≤ (IntKind.wrap .i64 (rdZ c0 y1000))))) ≠ 0 →
     (((qQj ((1 : Int) == 0)) ≠ 0 →
      ((0 : Int) ≠ 0 ↔ ((adZ c0 n0 p1) : Int) ≠ 0) ∧ True) ∧ ((qQj ((1 : Int) == 0)) = 0 →
      (((qQj ((1 : Int) == 1)) ≠ 0 →
       ((0 : Int) ≠ 0 ↔ ((adZ c0 n0 p1) : Int) ≠ 0) ∧ True) ∧ ((qQj ((1 : Int) == 1)) = 0 →
       ((1 : Int) ≠ 0 ↔ ((adZ c0 n0 p1) : Int) ≠ 0) ∧ True))))) ∧ ((qQj (decide (p1 ≤ (IntKind.wrap .i64 (rdZ c0 y1000))))) = 0 →
     (((qQj (decide ((y1000 + 1) ≤ 4611686018427387904))) ≠ 0 →
      ∃ m', m' < m1000 ∧ I1000 (y1000 + 1) m') ∧ ((qQj (decide ((y1000 + 1) ≤ 4611686018427387904))) = 0 →
      False))))))) ∧ ((qQj (decide (y1000 < n0))) = 0 →
   (((qQj ((2 : Int) == 0)) ≠ 0 →
    ((0 : Int) ≠ 0 ↔ ((adZ c0 n0 p1) : Int) ≠ 0) ∧ True) ∧ ((qQj ((2 : Int) == 0)) = 0 →
    (((qQj ((2 : Int) == 1)) ≠ 0 →
     ((0 : Int) ≠ 0 ↔ ((adZ c0 n0 p1) : Int) ≠ 0) ∧ True) ∧ ((qQj ((2 : Int) == 1)) = 0 →
     ((1 : Int) ≠ 0 ↔ ((adZ c0 n0 p1) : Int) ≠ 0) ∧ True))))))
theorem holds (n0 p1 c0 r0 : Int) (l_n0 : 0 ≤ n0) (u_n0 : n0 ≤ 1000000) (l_p1 : -9223372036854775808 ≤ p1) (u_p1 : p1 ≤ 9223372036854775807) (h_n0 : n0 ≤ r0) : P n0 p1 c0 r0 := by
 unfold P
 simp only [nrm, nro, Int.reduceEq, Int.reduceNeg, reduceIte]
 refine ⟨fun i m => adP c0 i p1 ∧ i ≤ n0 ∧ m = (n0 - i).toNat, ⟨_, ad_nil, l_n0, rfl⟩, fun i m hb hI => ?_⟩
 obtain ⟨hA, hi, rfl⟩ := hI
 refine ⟨fun h => ⟨fun h1 => adZ_eq.2 (ad_no hb.1 h (.inl h1)), fun h1 => ⟨fun h2 => adZ_eq.2 (ad_no hb.1 h (.inr h2)), fun h2 => ⟨by omega, _, ?_, ad_snoc hb.1 hA h1 h2, by omega, rfl⟩⟩⟩, fun h => ?_⟩
 ·omega
 ·have e : i = n0 := by omega
  subst e
  exact adZ_ne.2 hA
theorem plain (i v ro p) : statR 2 rc tree ⟨i, fN, v, ro, p⟩ = P (i 0) (i 1) (i 2) (i 3) := by kernel_rfl
theorem ran : ranR us (fun _ _ => .auto) rc 2 tree = true := by kernel_rfl
theorem fineT : fineR 2 rc tree = true := by kernel_rfl
theorem ok : RcOk (cxOf 2) rc := okR us_ok ran fineT okb fun i v ro p hρ hcap hpre => by rw [plain]; have q := hρ.hi; exact holds _ _ _ _ (q 0 _ rfl).1 (q 0 _ rfl).2 (q 1 _ rfl).1 (q 1 _ rfl).2 (hcap _ (mg 0 rfl))
end CRAddrs
namespace CRICheck
def rc : Rc := ⟨5, [some 5], [.row [.int .u32] 1000000, .row [.int .i32] 1000000, .row [.bool] 1000000, .row [.int .i64] 1000000, .row [.int .i64] 1000000], [], .one, [.int .i64 (.f 84 (.v 0) (.v 1) (qQy [(.v 2), (.v 3), (.v 4), (.v 8), (.v 9)]))]⟩
theorem okb : rc.ok = true := by kernel_rfl
noncomputable def us : SMs := fun Γ ins n => smH (cxG n Γ ins) [] (smR (cxG n Γ ins) [CRAddrs.rc])
theorem us_ok : SMsOk us := fun Γ ins n => qZt (tabsG n Γ ins) (qZv _) (qZn (tabsG n Γ ins) (qQs CRAddrs.okb (rc_n CRAddrs.ok) (qZw _)))
def Q0 : E := (.cl 1000 0 4611686018427387904)
def Q1 : E := (.cl 1002 0 4611686018427387904)
def Q2 : E := (tp Q1 (.c 1))
def Q3 : E := (tp Q0 (.c 1))
def tree : TT (List E) :=
 (.br (tk (.c 16384) (.v 0)) (.leaf [(.c 5)]) (.br (tk (.c 2048) (.v 1)) (.leaf [(.c 5)]) (.br (tk (.c 255) (.v 3)) (.leaf [(.c 5)]) (.br (tk (.c 255) (.v 4)) (.leaf [(.c 5)]) (.br (tn (.v 2) (.v 1)) (.leaf [(.c 2)]) (.br (tl (.v 3) (.v 13)) (.br (.nt (.f 85 (.v 8) (.v 3) (.v 1))) (.leaf [(.c 2)]) (.br (tl (.v 4) (.v 14)) (.br (.nt (.f 85 (.v 9) (.v 4) (.v 1))) (.leaf [(.c 2)]) (.loop ⟨1000, [some (0, 4611686018427387904)], [(.c 0)], 1005⟩ (.br (tk Q0 (.v 3)) (.loop ⟨1002, [some (0, 4611686018427387904)], [(.c 0)], 1004⟩ (.br (tk Q1 Q0) (.br (tk Q1 (.v 3)) (.br (te (t6 (tR (.v 8) Q0)) (t6 (tR (.v 8) Q1))) (.exit 0) (.br (tl Q2 (.c 4611686018427387904)) (.back [Q2]) (.bad 303))) (.bad 200)) (.exit 1)) (.br (te (.v 1004) (.c 0)) (.exit 0) (.br (tl Q3 (.c 4611686018427387904)) (.back [Q3])
 (.bad 303)))) (.exit 1)) (.br (te (.v 1005) (.c 0)) (.leaf [(.c 9)]) (.leaf [(.c 0)])))) (.bad 200))) (.bad 200)))))))
noncomputable def sq0 (a b c d e i j : Int) : Int := (chkZ a b (kZ c (kZ d (kZ e (kZ i (kZ j 0))))))
def P (a b c d e f g h i j k l n o p : Int) : Prop :=
 (Pb (Pl 16384 a) ((5 : Int) = (sq0 a b c d e i j) ∧ True) (Pb (Pl 2048 b) ((5 : Int) = (sq0 a b c d e i j) ∧ True) (Pb (Pl 255 d) ((5 : Int) = (sq0 a b c d e i j) ∧ True) (Pb (Pl 255 e) ((5 : Int) = (sq0 a b c d e i j) ∧ True) (Pb (Pd c b) ((2 : Int) = (sq0 a b c d e i j) ∧ True) (Pm (PL d o) (Pb (Pe (adZ i d b) 0) ((2 : Int) = (sq0 a b c d e i j) ∧ True) (Pm (PL e p) (Pb (Pe (adZ j e b) 0) ((2 : Int) = (sq0 a b c d e i j) ∧ True) (∃ I1000 : Int → Nat → Prop, (∃ m, I1000 0 m) ∧ ∀ y0 : Int, ∀ m0, ((0 ≤ y0 ∧ y0 ≤ 4611686018427387904) ∧ True) → I1000 y0 m0 → (Pb (Pl y0 d) (∃ I1002 : Int → Nat → Prop, (∃ m, I1002 0 m) ∧ ∀ y2 : Int, ∀ m2, ((0 ≤ y2 ∧ y2 ≤ 4611686018427387904) ∧ True) → I1002 y2 m2 → (Pb (Pl y2 y0) (Pm (Pl y2 d) (Pb (Pe (W6 (rdZ i y0)) (W6 (rdZ i y2))) (Pb (Pe (0 : Int) 0) (Pb
 (Pe (0 : Int) 0) ((9 : Int) = (sq0 a b c d e i j) ∧ True) ((0 : Int) = (sq0 a b c d e i j) ∧ True)) (Pm (PL (y0 + 1) 4611686018427387904) (∃ m', m' < m0 ∧ I1000 (y0 + 1) m'))) (Pm (PL (y2 + 1) 4611686018427387904) (∃ m', m' < m2 ∧ I1002 (y2 + 1) m')))) (Pb (Pe (1 : Int) 0) (Pb (Pe (0 : Int) 0) ((9 : Int) = (sq0 a b c d e i j) ∧ True) ((0 : Int) = (sq0 a b c d e i j) ∧ True)) (Pm (PL (y0 + 1) 4611686018427387904) (∃ m', m' < m0 ∧ I1000 (y0 + 1) m'))))) (Pb (Pe (1 : Int) 0) ((9 : Int) = (sq0 a b c d e i j) ∧ True) ((0 : Int) = (sq0 a b c d e i j) ∧ True)))))))))))))
theorem holds (n0_0 n0_1 n0_2 n0_3 n0_4 c0_0 c0_1 c0_2 c0_3 c0_4 r0_0 r0_1 r0_2 r0_3 r0_4 : Int) (l_n0_0 : 0 ≤ n0_0) (u_n0_0 : n0_0 ≤ 1000000) (l_n0_1 : 0 ≤ n0_1) (u_n0_1 : n0_1 ≤ 1000000) (l_n0_2 : 0 ≤ n0_2) (u_n0_2 : n0_2 ≤ 1000000) (l_n0_3 : 0 ≤ n0_3) (u_n0_3 : n0_3 ≤ 1000000) (l_n0_4 : 0 ≤ n0_4) (u_n0_4 : n0_4 ≤ 1000000) (h_n0_0 : n0_0 ≤ r0_0) (h_n0_1 : n0_1 ≤ r0_1) (h_n0_2 : n0_2 ≤ r0_2) (h_n0_3 : n0_3 ≤ r0_3) (h_n0_4 : n0_4 ≤ r0_4) : P n0_0 n0_1 n0_2 n0_3 n0_4 c0_0 c0_1 c0_2 c0_3 c0_4 r0_0 r0_1 r0_2 r0_3 r0_4 := by
 delta P sq0 Pb Pm PL Pl Pe Pd W6 kZ
 simp only [nrm, nro, Int.reduceEq, Int.reduceNeg, reduceIte]
 simp only [chk_ev]
 refine ⟨fun h1 => qKv (.inl h1), fun h1 => ⟨fun h2 => qKv (.inr (.inl h2)), fun h2 => ⟨fun h3 => qKv (.inr (.inr (.inl h3))), fun h3 => ⟨fun h4 => qKv (.inr (.inr (.inr h4))), fun h4 => ?_⟩⟩⟩⟩
 have hl : ¬ (16384 < n0_0 ∨ 2048 < n0_1 ∨ 255 < n0_3 ∨ 255 < n0_4) := by omega
 refine ⟨fun h5 => chk_arg hl (.inl h5), fun h5 => ⟨by omega, fun h6 => chk_arg hl (.inr (.inl (adZ_eq.1 h6))), fun h6 => ⟨by omega, fun h7 => chk_arg hl (.inr (.inr (adZ_eq.1 h7))), fun h7 => ?_⟩⟩⟩
 refine ⟨fun i m => (∀ a b : Int, 0 ≤ b → b < a → a < i → ¬ IntKind.wrap .i64 (rdZ c0_3 a) = IntKind.wrap .i64 (rdZ c0_3 b)) ∧ i ≤ n0_3 ∧ m = (n0_3 - i).toNat, ⟨_, fun a b _ _ _ => by omega, l_n0_3, rfl⟩, fun i m hb hI => ?_⟩
 obtain ⟨hA, hi, rfl⟩ := hI
 refine ⟨fun h => ?_, fun h => ?_⟩
 ·refine ⟨fun k m => (∀ b : Int, 0 ≤ b → b < k → ¬ IntKind.wrap .i64 (rdZ c0_3 i) = IntKind.wrap .i64 (rdZ c0_3 b)) ∧ k ≤ i ∧ m = (i - k).toNat, ⟨_, fun b _ _ => by omega, hb.1, rfl⟩, fun k m hk hI => ?_⟩
  obtain ⟨hB, hki, rfl⟩ := hI
  refine ⟨fun g => ⟨by omega, fun g1 => chk_twice hl h5 (adZ_ne.1 h6) (adZ_ne.1 h7) (tw_of hk.1 g h g1), fun g1 => ⟨by omega, _, ?_, fun b b0 b1 => ?_, by omega, rfl⟩⟩, fun g => ⟨by omega, _, ?_, fun a b b0 b1 b2 => ?_, by omega, rfl⟩⟩
  ·omega
  ·by_cases e : b = k
   ·subst e; exact g1
   ·exact hB b b0 (by omega)
  ·omega
  ·by_cases e : a = i
   ·subst e; exact hB b b0 (by omega)
   ·exact hA a b b0 b1 (by omega)
 ·refine chk_ok hl h5 (adZ_ne.1 h6) (adZ_ne.1 h7) ?_
  rintro ⟨a, b, g1, g2, g3⟩
  exact hA a b (by omega) (by omega) (by omega) g3
theorem plain (i v ro p) : statR 2 rc tree ⟨i, fN, v, ro, p⟩ = P (i 0) (i 1) (i 2) (i 3) (i 4) (i 5) (i 6) (i 7) (i 8) (i 9) (i 10) (i 11) (i 12) (i 13) (i 14) := by kernel_rfl
theorem ran : ranR us (fun _ _ => .auto) rc 2 tree = true := by kernel_rfl
theorem fineT : fineR 2 rc tree = true := by kernel_rfl
theorem ok : RcOk (cxOf 2) rc := okR us_ok ran fineT okb fun i v ro p hρ hcap hpre => by rw [plain]; have q := hρ.hi; exact holds _ _ _ _ _ _ _ _ _ _ _ _ _ _ _ (q 0 _ rfl).1 (q 0 _ rfl).2 (q 1 _ rfl).1 (q 1 _ rfl).2 (q 2 _ rfl).1 (q 2 _ rfl).2 (q 3 _ rfl).1 (q 3 _ rfl).2 (q 4 _ rfl).1 (q 4 _ rfl).2 (hcap _ (mg 0 rfl)) (hcap _ (mg 1 rfl)) (hcap _ (mg 2 rfl)) (hcap _ (mg 3 rfl)) (hcap _ (mg 4 rfl))
end CRICheck
namespace CRLike
def rc : Rc := ⟨9, [some 5, none], [.row [.int .u32] 140737488355328, .row [.int .i32] 140737488355328, .row [.bool] 140737488355328, .row [.int .i64] 140737488355328, .row [.int .i64] 140737488355328, .row [.int .i32] 140737488355328], [(.b .le .i64 (.v 1) (.c 2048))], .one, [.row [.int .i32] 21 (.f 102 (.v 7) (.v 1) (qQy [(.v 8), (.v 2), (.v 11), (.v 5)])) (.v 1)]⟩
theorem okb : rc.ok = true := by kernel_rfl
noncomputable def us : SMs := fun Γ ins n => smH (cxG n Γ ins) [] (smR (cxG n Γ ins) [])
theorem us_ok : SMsOk us := fun Γ ins n => qZt (tabsG n Γ ins) (qZv _) (qZn (tabsG n Γ ins) (qZw _))
def Q0 : E := (.cl 1000 0 4611686018427387904)
def Q1 : E := (.b .rem .i64 Q0 (.v 5))
def Q2 : E := (tp Q0 (.c 1))
def Q3 : E := (tl Q2 (.c 4611686018427387904))
def tree : TT (List E) :=
 (.br (tl (.v 1) (.c 1000000)) (.loop ⟨1000, [some (0, 4611686018427387904), none], [(.c 0), (.f 16 (.c 0) (.c 0) (.v 7))], 1003⟩ (.br (tk Q0 (.v 1)) (.br (tk Q0 (.v 2)) (.br (tk (.c 0) (.v 5)) (.br (tR (.v 8) Q0) (.br (te (.v 5) (.c 0)) (.bad 3) (.br (tk Q1 (.v 5)) (.br Q3 (.back [Q2, (.f 14 (.v 1001) Q0 (t3 (tR (.v 11) Q1)))]) (.bad 303)) (.bad 200))) (.br Q3 (.back [Q2, (.v 1001)]) (.bad 303))) (.exit 0)) (.exit 1)) (.exit 2)) (.br (te (.v 1003) (.c 0)) (.leaf [(.v 1), (.v 1001)]) (.br (te (.v 1003) (.c 1)) (.leaf [(.v 1), (.v 1001)]) (.leaf [(.v 1), (.v 1001)])))) (.bad 200))
def P (a b c d e f g h i j k l n o p q r s : Int) : Prop :=
 (Pm (PL b 1000000) (∃ I1000 : Int → Int → Nat → Prop, (∃ m, I1000 0 (appZ 0 0 h) m) ∧ ∀ y0 y1 : Int, ∀ m0, ((0 ≤ y0 ∧ y0 ≤ 4611686018427387904) ∧ True ∧ True) → I1000 y0 y1 m0 → (Pb (Pl y0 b) (Pb (Pl y0 c) (Pb (Pl 0 f) (Pb (rdZ i y0) (Pb (Pe f 0) False (Pm (Pl (BO.ev .rem .i64 y0 f) f) (Pm (PL (y0 + 1) 4611686018427387904) (∃ m', m' < m0 ∧ I1000 (y0 + 1) (updZ y1 y0 (W3 (rdZ l (BO.ev .rem .i64 y0 f)))) m')))) (Pm (PL (y0 + 1) 4611686018427387904) (∃ m', m' < m0 ∧ I1000 (y0 + 1) y1 m'))) (Pb (Pe (0 : Int) 0) ((b : Int) = b ∧ qQt [.int .i32] y1 (likZ h b (kZ i (kZ c (kZ l (kZ f 0))))) b ∧ True) (Pb (Pe (0 : Int) 1) ((b : Int) = b ∧ qQt [.int .i32] y1 (likZ h b (kZ i (kZ c (kZ l (kZ f 0))))) b ∧ True) ((b : Int) = b ∧ qQt [.int .i32] y1 (likZ h b (kZ i (kZ c (kZ l (kZ f 0))))) b ∧
 True)))) (Pb (Pe (1 : Int) 0) ((b : Int) = b ∧ qQt [.int .i32] y1 (likZ h b (kZ i (kZ c (kZ l (kZ f 0))))) b ∧ True) (Pb (Pe (1 : Int) 1) ((b : Int) = b ∧ qQt [.int .i32] y1 (likZ h b (kZ i (kZ c (kZ l (kZ f 0))))) b ∧ True) ((b : Int) = b ∧ qQt [.int .i32] y1 (likZ h b (kZ i (kZ c (kZ l (kZ f 0))))) b ∧ True)))) (Pb (Pe (2 : Int) 0) ((b : Int) = b ∧ qQt [.int .i32] y1 (likZ h b (kZ i (kZ c (kZ l (kZ f 0))))) b ∧ True) (Pb (Pe (2 : Int) 1) ((b : Int) = b ∧ qQt [.int .i32] y1 (likZ h b (kZ i (kZ c (kZ l (kZ f 0))))) b ∧ True) ((b : Int) = b ∧ qQt [.int .i32] y1 (likZ h b (kZ i (kZ c (kZ l (kZ f 0))))) b ∧ True))))))
theorem holds (n0_0 n0_1 n0_2 n0_3 n0_4 n1 c0_0 c0_1 c0_2 c0_3 c0_4 c1 r0_0 r0_1 r0_2 r0_3 r0_4 r1 : Int) (l_n0_0 : 0 ≤ n0_0) (u_n0_0 : n0_0 ≤ 140737488355328) (l_n0_1 : 0 ≤ n0_1) (u_n0_1 : n0_1 ≤ 140737488355328) (l_n0_2 : 0 ≤ n0_2) (u_n0_2 : n0_2 ≤ 140737488355328) (l_n0_3 : 0 ≤ n0_3) (u_n0_3 : n0_3 ≤ 140737488355328) (l_n0_4 : 0 ≤ n0_4) (u_n0_4 : n0_4 ≤ 140737488355328) (l_n1 : 0 ≤ n1) (u_n1 : n1 ≤ 140737488355328) (h_n0_0 : n0_0 ≤ r0_0) (h_n0_1 : n0_1 ≤ r0_1) (h_n0_2 : n0_2 ≤ r0_2) (h_n0_3 : n0_3 ≤ r0_3) (h_n0_4 : n0_4 ≤ r0_4) (h_n1 : n1 ≤ r1) (h_pre0 : qQj (decide (n0_1  ≤  2048)) ≠ 0) : P n0_0 n0_1 n0_2 n0_3 n0_4 n1 c0_0 c0_1 c0_2 c0_3 c0_4 c1 r0_0 r0_1 r0_2 r0_3 r0_4 r1 := by
 delta P Pb Pm PL Pl Pe W3 kZ
 simp only [nrm, nro, Int.reduceEq, Int.reduceNeg, reduceIte]
 have hq : ∀ i : Int, 0 ≤ i → ∀ q : Int, (∀ j : Int, 0 ≤ j → j < n0_1 → IntKind.wrap .i32 (rdZ q j) = if j < i then likV c0_1 c0_2 n0_2 c1 n1 j else IntKind.wrap .i32 (rdZ c0_1 j)) → (∀ j : Int, i ≤ j → j < n0_1 → likV c0_1 c0_2 n0_2 c1 n1 j = IntKind.wrap .i32 (rdZ c0_1 j)) →
   qQt [.int .i32] q (likZ c0_1 n0_1 (qQq c0_2 (qQq n0_2 (qQq c1 (qQq n1 0))))) n0_1 := fun i i0 q h g => rowEq_one fun j hj => by
  rw [lik_rd (by omega) hj, likV_wrap, h j (by omega) hj]
  split
  ·rfl
  ·exact (g j (by omega) hj).symm
 have hp : n0_1 ≤ 2048 := by simpa [qQj] using h_pre0
 refine ⟨by omega, fun i q m => i ≤ n0_1 ∧ (∀ j : Int, 0 ≤ j → j < n0_1 → IntKind.wrap .i32 (rdZ q j) = if j < i then likV c0_1 c0_2 n0_2 c1 n1 j else IntKind.wrap .i32 (rdZ c0_1 j)) ∧ m = (n0_1 - i).toNat,
  ⟨_, l_n0_1, fun j j0 j1 => ?_, rfl⟩, fun i q m hb hI => ?_⟩
 ·rw [rdZ_app, if_neg (by omega), if_neg (by omega), show ((j.toNat - (0 : Int).toNat : Nat) : Int) = j by omega]
 obtain ⟨hi, hj, rfl⟩ := hI
 have nolik : ∀ j : Int, (n0_2 ≤ j ∨ n1 ≤ 0 ∨ rdZ c0_2 j = 0) → likV c0_1 c0_2 n0_2 c1 n1 j = IntKind.wrap .i32 (rdZ c0_1 j) := fun j h => by
  unfold likV
  rw [if_neg]
  rintro ⟨h1, h2, h3⟩
  rcases h with h | h | h
  ·omega
  ·omega
  ·exact h3 h
 refine ⟨fun h1 => ⟨fun h2 => ⟨fun h3 => ⟨fun h4 => ?_, fun h4 => ?_⟩, fun h3 => ?_⟩, fun h2 => ?_⟩, fun h1 => ?_⟩
 ·have ht : BO.ev .rem .i64 i n1 = i % n1 := Int.tmod_eq_emod_of_nonneg hb.1
  rw [ht]
  have hm := Int.emod_lt_of_pos i h3
  refine ⟨fun e => by omega, fun _ => ⟨hm, by omega, _, ?_, by omega, fun j j0 j1 => ?_, rfl⟩⟩
  ·omega
  ·rw [qZg]
   by_cases e2 : j = i
   ·rw [if_pos (by rw [e2]), if_pos (by omega), e2, qKd]
    unfold likV
    rw [if_pos ⟨h2, h3, h4⟩]
   ·rw [if_neg (by omega), hj j j0 j1]
    by_cases e : j < i
    ·rw [if_pos e, if_pos (by omega)]
    ·rw [if_neg e, if_neg (by omega)]
 ·refine ⟨by omega, _, ?_, by omega, fun j j0 j1 => ?_, rfl⟩
  ·omega
  ·rw [hj j j0 j1]
   by_cases e : j < i
   ·rw [if_pos e, if_pos (by omega)]
   ·by_cases e2 : j = i
    ·rw [if_neg e, if_pos (by omega), e2, nolik i (.inr (.inr h4))]
    ·rw [if_neg e, if_neg (by omega)]
 ·exact hq i hb.1 q hj fun j _ _ => nolik j (.inr (.inl h3))
 ·exact hq i hb.1 q hj fun j _ _ => nolik j (.inl (by omega))
 ·exact hq i hb.1 q hj fun j g1 g2 => by omega
theorem plain (i v ro p) : statR 2 rc tree ⟨i, fN, v, ro, p⟩ = P (i 0) (i 1) (i 2) (i 3) (i 4) (i 5) (i 6) (i 7) (i 8) (i 9) (i 10) (i 11) (i 12) (i 13) (i 14) (i 15) (i 16) (i 17) := by kernel_rfl
theorem ran : ranR us (fun _ _ => .auto) rc 2 tree = true := by kernel_rfl
theorem fineT : fineR 2 rc tree = true := by kernel_rfl
theorem ok : RcOk (cxOf 2) rc := okR us_ok ran fineT okb fun i v ro p hρ hcap hpre => by rw [plain]; have q := hρ.hi; exact holds _ _ _ _ _ _ _ _ _ _ _ _ _ _ _ _ _ _ (q 0 _ rfl).1 (q 0 _ rfl).2 (q 1 _ rfl).1 (q 1 _ rfl).2 (q 2 _ rfl).1 (q 2 _ rfl).2 (q 3 _ rfl).1 (q 3 _ rfl).2 (q 4 _ rfl).1 (q 4 _ rfl).2 (q 5 _ rfl).1 (q 5 _ rfl).2 (hcap _ (mg 0 rfl)) (hcap _ (mg 1 rfl)) (hcap _ (mg 2 rfl)) (hcap _ (mg 3 rfl)) (hcap _ (mg 4 rfl)) (hcap _ (mg 5 rfl)) (hpre _ (mg 0 rfl))
end CRLike
namespace CCNewO
def rk : Rk := ⟨8, [(0, 16384), (0, 2048)], 5, [.sl (.inp 0) 1 (.c 0) (.v 0) (some (.v 4)), .sl (.own 0) 1 (.c 0) (.v 1) none], [.arr [.int .i32] 21 (.v 3) (.v 1)], [], .tup [.ptr 1 0, .int .i64 (.c 0)], [.arr [.int .i32] 21 (.v 3) (.v 1), .cells [.ptr 2 0, .sl (.own 3) 6 (.c 0) (.v 1000000) none, .int .i32 (.c 0), .int .i32 (.c 0), .int .i32 (.c 0), .int .i32 (.c 0), .int .i32 (.c 0), .int .i32 (.c 0), .int .i32 (.c 0), .int .i32 (.c 0), .int .i32 (.c 0), .int .i32 (.c 0), .int .i32 (.c 0), .int .i32 (.c 0), .int .i32 (.c 0), .int .i32 (.c 0), .int .i32 (.c 0), .int .i32 (.c 0), .int .i32 (.c 0), .int .i32 (.c 0), .int .i32 (.c 0), .int .i32 (.c 0), .int .i32 (.c 0), .int .i32 (.c 0), .int .i32 (.c 0), .int .i32 (.c 0), .int .i32 (.c 0), .int .i32 (.c 0), .int .i32 (.c 0), .int .i32 (.c 0), .int .i32 (.c 0), .int .i32 (.c 0), .int .i32 (.c 0), .int .i32 (.c 0), .int .i64 (.c 0), .int .i64 (.c 0), .int .i64 (.c 0), .lit (.slice none 0 0)] 69 none, .cells [.sl (.own 4) 1 (.c 0) (.v 1) none, .bool (.c 1)] 90 none, .arr [.int .i64, .int .i64, .int .i64, .int .i64, .int .i64, .bool] 73 (.v 1000001) (.v 1000000), .arr [.int .i32] 21 (.v 1000002) (.v 1)], [.num (.v 0), .code [.int .i64, .int .i64, .int .i64, .int .i64, .int .i64, .bool] (.f 88 (.v 2) (.v 0) (.c 0)) (.v 0), .code [.int .i32] (.v 3) (.v 1)], [⟨[.int .u32], (.v 2), (.v 0), (.v 4), none⟩]⟩
theorem okk : rk.ok = true := by kernel_rfl
theorem okh : rk.rh.ok = true := by kernel_rfl
noncomputable def us : SMs := fun Γ ins n => smH (cxG n Γ ins) [] (smR (cxG n Γ ins) [CCDec.rc])
theorem us_ok : SMsOk us := fun Γ ins n => qZt (tabsG n Γ ins) (qZv _) (qZn (tabsG n Γ ins) (qQs CCDec.okb (rc_n CCDec.ok) (qZw _)))
def Q0 : E := (.cl 1000 0 4611686018427387904)
def Q1 : E := (tR (.v 2) Q0)
def Q2 : E := (.w .u32 Q1)
def Q3 : E := (.cl 1002 0 1000000)
def Q4 : E := (tp Q3 (.c 1))
def Q5 : E := (tl Q4 (.c 1000000))
def Q6 : E := (tp Q0 (.c 1))
def tree : TT (List E) :=
 (.loop ⟨1000, [some (0, 4611686018427387904), none, some (0, 1000000)], [(.c 0), (.c 0), (.c 0)], 1010⟩ (.br (tk Q0 (.v 0)) (.new 1004 (.f 67 Q2 (.c 0) (.c 0)) (.new 1005 (.f 67 Q2 (.c 1) (.c 0)) (.new 1006 (.f 67 Q2 (.c 2) (.c 0)) (.new 1007 (.f 67 Q2 (.c 3) (.c 0)) (.new 1008 (.f 67 Q2 (.c 4) (.c 0)) (.new 1009 (.f 67 Q2 (.c 5) (.c 0)) (.br Q5 (.br (tl Q6 (.c 4611686018427387904)) (.br Q5 (.back [Q6, (.f 14 (.v 1001) Q3 (tC (.cl 1004 (-32768) 65535) (tC (.cl 1005 (-32768) 65535) (tC (.cl 1006 (-32768) 65535) (tC (.cl 1007 (-32768) 65535) (tC (.cl 1008 (-32768) 65535) (tC (te (.cl 1009 (-32768) 65535) (.c 0)) (.c 0)))))))), Q4]) (.bad 303)) (.bad 303)) (.bad 200)))))))) (.exit 0)) (.leaf [Q3, (.v 1001), (.v 3)]))
def P (a b c d e : Int) : Prop :=
 ∃ I1000 : Int → Int → Int → Nat → Prop, (∃ m, I1000 0 0 0 m) ∧ ∀ y0 y1 y2 : Int, ∀ m0, ((0 ≤ y0 ∧ y0 ≤ 4611686018427387904) ∧ True ∧ (0 ≤ y2 ∧ y2 ≤ 1000000) ∧ True) → I1000 y0 y1 y2 m0 → (Pb (Pl y0 a) (Pn (decZ (U3 (rdZ c y0)) 0) (-32768) 65535 fun y4 => Pn (decZ (U3 (rdZ c y0)) 1) (-32768) 65535 fun y5 => Pn (decZ (U3 (rdZ c y0)) 2) (-32768) 65535 fun y6 => Pn (decZ (U3 (rdZ c y0)) 3) (-32768) 65535 fun y7 => Pn (decZ (U3 (rdZ c y0)) 4) (-32768) 65535 fun y8 => Pn (decZ (U3 (rdZ c y0)) 5) (-32768) 65535 fun y9 => (Pm (PL (y2 + 1) 1000000) (Pm (PL (y0 + 1) 4611686018427387904) (Pm (PL (y2 + 1) 1000000) (∃ m', m' < m0 ∧ I1000 (y0 + 1) (updZ y1 y2 (kZ y4 (kZ y5 (kZ y6 (kZ y7 (kZ y8 (kZ (Pe y9 0) 0))))))) (y2 + 1) m'))))) ((y2 : Int) = a ∧ qQt [.int .i64, .int .i64, .int .i64, .int .i64,
 .int .i64, .bool] y1 (decW c a) a ∧ qQt [.int .i32] d d b ∧ True))
theorem holds (nc nr wq rm rW : Int) (l_nc : 0 ≤ nc) (u_nc : nc ≤ 16384) (l_nr : 0 ≤ nr) (u_nr : nr ≤ 2048) : P nc nr wq rm rW := by
 delta P Pb Pm Pn PL Pl Pe U3 kZ
 simp only [nrm, nro, Int.reduceEq, Int.reduceNeg, reduceIte]
 refine ⟨fun i q n m => n = i ∧ i ≤ nc ∧ q = decC wq i.toNat ∧ m = (nc - i).toNat, ⟨_, rfl, l_nc, rfl, rfl⟩, fun i q n m hb hI => ?_⟩
 obtain ⟨rfl, hi, rfl, rfl⟩ := hI
 refine ⟨fun h => ?_, fun h => ?_⟩
 ·rintro _ rfl _ _ rfl _ _ rfl _ _ rfl _ _ rfl _ _ rfl _
  refine ⟨by omega, by omega, by omega, _, ?_, rfl, by omega, ?_, rfl⟩
  ·omega
  ·rw [show (n + 1).toNat = n.toNat + 1 by omega, decC, show ((n.toNat : Nat) : Int) = n by omega]
   rfl
 ·rw [show n = nc by omega]
  exact ⟨rfl, qQx _ _ _, qQx _ _ _⟩
theorem plain (i v ro p) : statH 2 rk tree ⟨i, fN, v, ro, p⟩ = P (i 0) (i 1) (i 2) (i 3) (i 4) := by kernel_rfl
theorem ran : ranH us (fun _ _ => .auto) rk 2 tree = true := by kernel_rfl
theorem fineT : fineH 2 rk tree = true := by kernel_rfl
theorem ok : RhOk (cxOf 2) rk.rh := okH us_ok ran fineT (by kernel_rfl) okk fun i v ro p hρ hpre => by rw [plain]; have q := hρ.hi; exact holds _ _ _ _ _ (q 0 _ rfl).1 (q 0 _ rfl).2 (q 1 _ rfl).1 (q 1 _ rfl).2
end CCNewO
namespace CCStep
def rk : Rk := ⟨22, [(-9223372036854775808, 9223372036854775807), (-9223372036854775808, 9223372036854775807), (-9223372036854775808, 9223372036854775807), (0, 16384), (0, 999999), (0, 2048)], 10, [.ptr 0 0], [.cells (([.ptr 1 0, .sl (.own 2) 6 (.c 0) (.v 3) none] : List SV) ++ bk32 (.v 7) ++ ([.int .i64 (.v 0), .int .i64 (.v 1), .int .i64 (.v 2), .sl (.own 4) 3 (.c 0) (.v 4) none] : List SV)) 69 none, .cells [.sl (.own 3) 1 (.c 0) (.v 5) none, .bool (.c 1)] 90 none, .arr [.int .i64, .int .i64, .int .i64, .int .i64, .int .i64, .bool] 73 (.v 6) (.v 3), .arr [.int .i32] 21 (.v 8) (.v 5), .arr [.int .i64, .int .i64, .int .i64] 49 (.v 9) (.v 4)], [(.f 68 (.v 6) (.v 3) (.c 0))], .bool (.v 1000007), [.cells (([.ptr 1 0, .sl (.own 2) 6 (.c 0) (.v 3) none] : List SV) ++ bk32 (.v 1000000) ++ ([.int .i64 (.v 1000002), .int .i64 (.v 1000003), .int .i64 (.v 1000004), .sl (.own 5) 3 (.c 0) (.v 1000005) none] : List SV)) 69 none, .cells [.sl (.own 3) 1 (.c 0) (.v 5) none, .bool (.c 1)] 90 none, .arr [.int .i64, .int .i64, .int .i64, .int .i64, .int .i64, .bool] 73 (.v 6) (.v 3), .arr [.int .i32] 21 (.v 1000001) (.v 5), .gone, .arr [.int .i64, .int .i64, .int .i64] 49 (.v 1000006) (.v 1000005)], [.code [.int .i32] (.f 13 (.f 69 (.v 6) (.v 3) (qQy [(.v 7), (.v 8), (.v 5), (.v 0), (.v 1), (.v 2), (.v 9), (.v 4)])) (.c 0) (.c 0)) (.c 32), .code [.int .i32] (.f 13 (.f 69 (.v 6) (.v 3) (qQy [(.v 7), (.v 8), (.v 5), (.v 0), (.v 1), (.v 2), (.v 9), (.v 4)])) (.c 1) (.c 0)) (.v 5), .num (.w .i64 (.f 13 (.f 69 (.v 6) (.v 3) (qQy [(.v 7), (.v 8), (.v 5), (.v 0), (.v 1), (.v 2), (.v 9), (.v 4)])) (.c 2) (.c 0))), .num (.w .i64 (.f 13 (.f 69 (.v 6) (.v 3) (qQy [(.v 7), (.v 8), (.v 5), (.v 0), (.v 1), (.v 2), (.v 9), (.v 4)])) (.c 3) (.c 0))), .num (.w .i64 (.f 13 (.f 69 (.v 6) (.v 3) (qQy [(.v 7), (.v 8), (.v 5), (.v 0), (.v 1), (.v 2), (.v 9), (.v 4)])) (.c 4) (.c 0))), .num (.w .i64 (.f 13 (.f 69 (.v 6) (.v 3) (qQy [(.v 7), (.v 8), (.v 5), (.v 0), (.v 1), (.v 2), (.v 9), (.v 4)])) (.c 6) (.c 0))), .code [.int .i64, .int .i64, .int .i64] (.f 13 (.f 69 (.v 6) (.v 3) (qQy [(.v 7), (.v 8), (.v 5), (.v 0), (.v 1), (.v 2), (.v 9), (.v 4)])) (.c 5) (.c 0)) (.w .i64 (.f 13 (.f 69 (.v 6) (.v 3) (qQy [(.v 7), (.v 8), (.v 5), (.v 0), (.v 1), (.v 2), (.v 9), (.v 4)])) (.c 6) (.c 0))), .bool (.b .eq .i64 (.v 1) (.c 0))], []⟩
theorem okk : rk.ok = true := by kernel_rfl
theorem okh : rk.rh.ok = true := by kernel_rfl
noncomputable def us : SMs := fun Γ ins n => smH (cxG n Γ ins) [] (smR (cxG n Γ ins) [CADo.rc, COCost.rc, CACost.rc])
theorem us_ok : SMsOk us := fun Γ ins n => qZt (tabsG n Γ ins) (qZv _) (qZn (tabsG n Γ ins) (qQs CADo.okb (rc_n CADo.ok) (qQs COCost.okb (rc_n COCost.ok) (qQs CACost.okb (rc_n CACost.ok) (qZw _)))))
def Q0 : E := (tR (.v 6) (.v 0))
def Q1 : E := (.cl 1002 (-9223372036854775808) 9223372036854775807)
def Q2 : E := (.cl 1000 (-9223372036854775808) 9223372036854775807)
def Q3 : E := (.cl 1003 (-9223372036854775808) 9223372036854775807)
def Q4 : E := (tR (.v 7) Q1)
def Q5 : E := (t3 Q4)
def Q6 : E := (tR (.v 7) Q3)
def Q7 : E := (t3 Q6)
def Q8 : E := (.cl 1001 (-9223372036854775808) 9223372036854775807)
def Q9 : E := (tn Q8 (.c 0))
def Q10 : E := (tl (.c 0) Q8)
def Q11 : E := (tk Q8 (.c 32))
def Q12 : E := (.f 65 Q2 Q5 (.c 0))
def Q13 : E := (.cl 1005 (-2147483648) 2147483647)
def Q14 : E := (tp (.v 0) (.c 1))
def Q15 : E := (t6 Q14)
def Q16 : E := (tp (.v 2) (.cl 1007 0 67))
def Q17 : E := (t6 Q16)
def Q18 : E := (tp (.v 4) (.c 1))
def Q19 : E := (tC (.cl 1007 0 67) (.c 0))
def Q20 : E := (tC (.c (-1)) Q19)
def Q21 : E := (tC (.v 0) Q20)
def Q22 : E := (.f 14 (.v 9) (.v 4) Q21)
def Q23 : E := (.cl 1004 (-9223372036854775808) 9223372036854775807)
def Q24 : E := (t3 Q23)
def Q25 : E := (tp Q5 Q24)
def Q26 : E := (t3 Q25)
def Q27 : E := (tp (.v 2) (.c 1))
def Q28 : E := (t6 Q27)
def Q29 : E := (tC (.c 1) (.c 0))
def Q30 : E := (tC (.c (-1)) Q29)
def Q31 : E := (tC (.v 0) Q30)
def Q32 : E := (.f 14 (.v 9) (.v 4) Q31)
def Q33 : E := (tk Q13 (.c 0))
def Q34 : E := (tl (.v 5) Q13)
def Q35 : E := (tl (.c 0) Q13)
def Q36 : E := (tk Q13 (.v 5))
def Q37 : E := (tl (.c 1024) Q13)
def Q38 : E := (te Q2 (.c 35))
def Q39 : E := (tR (.v 7) Q8)
def Q40 : E := (t3 Q39)
def Q41 : E := (.f 14 (.v 8) Q13 Q40)
def Q42 : E := (.f 66 Q2 (.c 0) (.c 0))
def Q43 : E := (tp Q42 (.c 1))
def Q44 : E := (tp (.v 2) Q43)
def Q45 : E := (t6 Q44)
def Q46 : E := (tC Q43 (.c 0))
def Q47 : E := (tC Q13 Q46)
def Q48 : E := (tC (.v 0) Q47)
def Q49 : E := (.f 14 (.v 9) (.v 4) Q48)
def Q50 : E := (tR (.v 8) Q13)
def Q51 : E := (t3 Q50)
def Q52 : E := (.f 14 (.v 7) Q8 Q51)
def Q53 : E := (tp (.v 2) Q42)
def Q54 : E := (t6 Q53)
def Q55 : E := (tC Q42 (.c 0))
def Q56 : E := (tC Q13 Q55)
def Q57 : E := (tC (.v 0) Q56)
def Q58 : E := (.f 14 (.v 9) (.v 4) Q57)
def Q59 : E := (tp (.v 2) (.c 3))
def Q60 : E := (t6 Q59)
def Q61 : E := (tC (.c 3) (.c 0))
def Q62 : E := (tC (.c (-1)) Q61)
def Q63 : E := (tC (.v 0) Q62)
def Q64 : E := (.f 14 (.v 9) (.v 4) Q63)
def Q65 : E := (.cl 1005 (-9223372036854775808) 9223372036854775807)
def Q66 : E := (tC (.c (-1)) Q55)
def Q67 : E := (tC (.v 0) Q66)
def Q68 : E := (.f 14 (.v 9) (.v 4) Q67)
def tree : TT (List E) :=
 (.br (tn (.v 1) (.c 0)) (.leaf [(.v 7), (.v 8), (.v 0), (.v 1), (.v 2), (.v 4), (.v 9), (.c 0)]) (.br (tk (.v 0) (.c 0)) (.leaf [(.v 7), (.v 8), (.v 0), (.c 2), (.v 2), (.v 4), (.v 9), (.c 1)]) (.br (tl (.v 3) (.v 0)) (.leaf [(.v 7), (.v 8), (.v 0), (.c 2), (.v 2), (.v 4), (.v 9), (.c 1)]) (.br (tl (.c 0) (.v 0)) (.br (tk (.v 0) (.v 3)) (.new 1000 (t6 (tR Q0 (.c 0))) (.new 1001 (t6 (tR Q0 (.c 1))) (.new 1002 (t6 (tR Q0 (.c 2))) (.new 1003 (t6 (tR Q0 (.c 3))) (.new 1004 (t6 (tR Q0 (.c 4))) (.br (.nt (tR Q0 (.c 5))) (.leaf [(.v 7), (.v 8), (.v 0), (.c 3), (.v 2), (.v 4), (.v 9), (.c 1)]) (.br (tl (.c 0) Q1) (.br (tk Q1 (.c 32)) (.br (tl Q2 (.c 30)) (.br (tl (.c 0) Q3) (.br (tk Q3 (.c 32)) (.new 1005 (.f 63 Q2 Q5 Q7) (.new 1006 (.f 64 Q2 Q5 Q7) (.br (.nt (.cl 1006 0 1)) (.leaf [(.v 7), (.v
 8), (.v 0), (.c 5), (.v 2), (.v 4), (.v 9), (.c 1)]) (.br Q9 (.br Q10 (.br Q11 (.new 1007 Q12 (.leaf [(.f 14 (.v 7) Q8 Q13), (.v 8), Q15, (.v 1), Q17, Q18, Q22, (.c 1)])) (.bad 200)) (.bad 200)) (.new 1007 Q12 (.leaf [(.v 7), (.v 8), Q15, (.v 1), Q17, Q18, Q22, (.c 1)])))))) (.bad 200)) (.bad 200)) (.br (te Q2 (.c 31)) (.br Q9 (.br Q10 (.br Q11 (.leaf [(.f 14 (.v 7) Q8 Q26), (.v 8), Q15, (.v 1), Q28, Q18, Q32, (.c 1)]) (.bad 200)) (.bad 200)) (.leaf [(.v 7), (.v 8), Q15, (.v 1), Q28, Q18, Q32, (.c 1)])) (.br (te Q2 (.c 32)) (.br Q9 (.br Q10 (.br Q11 (.leaf [(.f 14 (.v 7) Q8 (.b .or .i32 Q5 Q24)), (.v 8), Q15, (.v 1), Q28, Q18, Q32, (.c 1)]) (.bad 200)) (.bad 200)) (.leaf [(.v 7), (.v 8), Q15, (.v 1), Q28, Q18, Q32, (.c 1)])) (.br (te Q2 (.c 33)) (.br Q9 (.br Q10 (.br Q11 (.leaf [(.f 14
 (.v 7) Q8 (t3 (.b .shl .u32 (.w .u32 Q23) (.c 16)))), (.v 8), Q15, (.v 1), Q28, Q18, Q32, (.c 1)]) (.bad 200)) (.bad 200)) (.leaf [(.v 7), (.v 8), Q15, (.v 1), Q28, Q18, Q32, (.c 1)])) (.br (te Q2 (.c 34)) (.new 1005 Q26 (.br Q33 (.leaf [(.v 7), (.v 8), (.v 0), (.c 4), (.v 2), (.v 4), (.v 9), (.c 1)]) (.br Q34 (.leaf [(.v 7), (.v 8), (.v 0), (.c 4), (.v 2), (.v 4), (.v 9), (.c 1)]) (.br Q35 (.br Q36 (.br Q37 (.br Q38 (.br Q10 (.br Q11 (.leaf [(.v 7), Q41, Q15, (.v 1), Q45, Q18, Q49, (.c 1)]) (.bad 200)) (.bad 200)) (.br Q9 (.br Q10 (.br Q11 (.leaf [Q52, (.v 8), Q15, (.v 1), Q45, Q18, Q49, (.c 1)]) (.bad 200)) (.bad 200)) (.leaf [(.v 7), (.v 8), Q15, (.v 1), Q45, Q18, Q49, (.c 1)]))) (.br Q38 (.br Q10 (.br Q11 (.leaf [(.v 7), Q41, Q15, (.v 1), Q54, Q18, Q58, (.c 1)]) (.bad 200)) (.bad
 200)) (.br Q9 (.br Q10 (.br Q11 (.leaf [Q52, (.v 8), Q15, (.v 1), Q54, Q18, Q58, (.c 1)]) (.bad 200)) (.bad 200)) (.leaf [(.v 7), (.v 8), Q15, (.v 1), Q54, Q18, Q58, (.c 1)])))) (.bad 200)) (.bad 200))))) (.br Q38 (.new 1005 Q26 (.br Q33 (.leaf [(.v 7), (.v 8), (.v 0), (.c 4), (.v 2), (.v 4), (.v 9), (.c 1)]) (.br Q34 (.leaf [(.v 7), (.v 8), (.v 0), (.c 4), (.v 2), (.v 4), (.v 9), (.c 1)]) (.br Q35 (.br Q36 (.br Q37 (.br Q10 (.br Q11 (.leaf [(.v 7), Q41, Q15, (.v 1), Q45, Q18, Q49, (.c 1)]) (.bad 200)) (.bad 200)) (.br Q10 (.br Q11 (.leaf [(.v 7), Q41, Q15, (.v 1), Q54, Q18, Q58, (.c 1)]) (.bad 200)) (.bad 200))) (.bad 200)) (.bad 200))))) (.br Q10 (.br Q11 (.br (te Q2 (.c 36)) (.br (tn Q40 Q5) (.leaf [(.v 7), (.v 8), Q15, (.v 1), Q28, Q18, Q32, (.c 1)]) (.leaf [(.v 7), (.v 8), Q23, (.v
 1), Q60, Q18, Q64, (.c 1)])) (.br (te Q2 (.c 37)) (.br (te Q40 Q5) (.leaf [(.v 7), (.v 8), Q15, (.v 1), Q28, Q18, Q32, (.c 1)]) (.leaf [(.v 7), (.v 8), Q23, (.v 1), Q60, Q18, Q64, (.c 1)])) (.br (te Q2 (.c 38)) (.br (.nt (tk Q40 Q5)) (.leaf [(.v 7), (.v 8), Q15, (.v 1), Q28, Q18, Q32, (.c 1)]) (.leaf [(.v 7), (.v 8), Q23, (.v 1), Q60, Q18, Q64, (.c 1)])) (.br (te Q2 (.c 40)) (.br Q9 (.new 1005 Q54 (.leaf [(.f 14 (.v 7) Q8 (t3 Q14)), (.v 8), Q23, (.v 1), Q65, Q18, Q68, (.c 1)])) (.new 1005 Q54 (.leaf [(.v 7), (.v 8), Q23, (.v 1), Q65, Q18, Q68, (.c 1)]))) (.br (te Q2 (.c 39)) (.new 1005 Q54 (.leaf [(.v 7), (.v 8), Q23, (.v 1), Q65, Q18, Q68, (.c 1)])) (.br (te Q2 (.c 41)) (.leaf [(.v 7), (.v 8), Q5, (.v 1), Q54, Q18, Q68, (.c 1)]) (.br (te Q2 (.c 43)) (.new 1005 Q54 (.leaf [(.v 7), (.v
 8), (.v 0), (.c 1), Q65, Q18, Q68, (.c 1)])) (.leaf [(.v 7), (.v 8), Q15, (.v 1), Q54, Q18, Q68, (.c 1)])))))))) (.bad 200)) (.bad 200)))))))) (.bad 200)) (.bad 200)))))))) (.bad 200)) (.bad 200)))))
noncomputable def sq0 (g d h i f a b c j e : Int) : Int := (stepZ g d (kZ h (kZ i (kZ f (kZ a (kZ b (kZ c (kZ j (kZ e 0)))))))))
def sL0 (g d h i f a b c j e z0 z3 z6 z8 z10 z12 z14 z17 : Int) : Prop := qQt [.int .i32] z0 (rdZ (sq0 g d h i f a b c j e) 0) 32 ∧ qQt [.int .i32] z3 (rdZ (sq0 g d h i f a b c j e) 1) f ∧ (z6 : Int) = (W6 (rdZ (sq0 g d h i f a b c j e) 2)) ∧ (z8 : Int) = (W6 (rdZ (sq0 g d h i f a b c j e) 3)) ∧ (z10 : Int) = (W6 (rdZ (sq0 g d h i f a b c j e) 4)) ∧ (z12 : Int) = (W6 (rdZ (sq0 g d h i f a b c j e) 6)) ∧ qQt [.int .i64, .int .i64, .int .i64] z14 (rdZ (sq0 g d h i f a b c j e) 5) (W6 (rdZ (sq0 g d h i f a b c j e) 6)) ∧ ((z17 : Int) ≠ 0 ↔ ((Pe b 0) : Int) ≠ 0) ∧ True
def P (a b c d e f g h i j : Int) : Prop :=
 (Pb (Pd b 0) (sL0 g d h i f a b c j e h i a b c e j 0) (Pb (Pl a 0) (sL0 g d h i f a b c j e h i a 2 c e j 1) (Pb (PL d a) (sL0 g d h i f a b c j e h i a 2 c e j 1) (Pm (PL 0 a) (Pm (Pl a d) (Pn (W6 (rdZ (rdZ g a) 0)) (-9223372036854775808) 9223372036854775807 fun y0 => Pn (W6 (rdZ (rdZ g a) 1)) (-9223372036854775808) 9223372036854775807 fun y1 => Pn (W6 (rdZ (rdZ g a) 2)) (-9223372036854775808) 9223372036854775807 fun y2 => Pn (W6 (rdZ (rdZ g a) 3)) (-9223372036854775808) 9223372036854775807 fun y3 => Pn (W6 (rdZ (rdZ g a) 4)) (-9223372036854775808) 9223372036854775807 fun y4 => (Pb (Pe (rdZ (rdZ g a) 5) 0) (sL0 g d h i f a b c j e h i a 3 c e j 1) (Pm (PL 0 y2) (Pm (Pl y2 32) (Pb (PL y0 30) (Pm (PL 0 y3) (Pm (Pl y3 32) (Pn (aluV y0 (W3 (rdZ h y2)) (W3 (rdZ h y3))) (-2147483648)
 2147483647 fun y5 => Pn (aluK y0 (W3 (rdZ h y2)) (W3 (rdZ h y3))) 0 1 fun y6 => (Pb (Pe y6 0) (sL0 g d h i f a b c j e h i a 5 c e j 1) (Pb (Pd y1 0) (Pm (PL 0 y1) (Pm (Pl y1 32) (Pn (aluC y0 (W3 (rdZ h y2))) 0 67 fun y7 => (sL0 g d h i f a b c j e (updZ h y1 y5) i (W6 (a + 1)) b (W6 (c + y7)) (e + 1) (updZ j e (kZ a (kZ (-1) (kZ y7 0)))) 1)))) (Pn (aluC y0 (W3 (rdZ h y2))) 0 67 fun y7 => (sL0 g d h i f a b c j e h i (W6 (a + 1)) b (W6 (c + y7)) (e + 1) (updZ j e (kZ a (kZ (-1) (kZ y7 0)))) 1))))))) (Pb (Pe y0 31) (Pb (Pd y1 0) (Pm (PL 0 y1) (Pm (Pl y1 32) (sL0 g d h i f a b c j e (updZ h y1 (W3 ((W3 (rdZ h y2)) + (W3 y4)))) i (W6 (a + 1)) b (W6 (c + 1)) (e + 1) (updZ j e (kZ a (kZ (-1) (kZ 1 0)))) 1))) (sL0 g d h i f a b c j e h i (W6 (a + 1)) b (W6 (c + 1)) (e + 1) (updZ j e (kZ a (kZ
 (-1) (kZ 1 0)))) 1)) (Pb (Pe y0 32) (Pb (Pd y1 0) (Pm (PL 0 y1) (Pm (Pl y1 32) (sL0 g d h i f a b c j e (updZ h y1 (bor .i32 (W3 (rdZ h y2)) (W3 y4))) i (W6 (a + 1)) b (W6 (c + 1)) (e + 1) (updZ j e (kZ a (kZ (-1) (kZ 1 0)))) 1))) (sL0 g d h i f a b c j e h i (W6 (a + 1)) b (W6 (c + 1)) (e + 1) (updZ j e (kZ a (kZ (-1) (kZ 1 0)))) 1)) (Pb (Pe y0 33) (Pb (Pd y1 0) (Pm (PL 0 y1) (Pm (Pl y1 32) (sL0 g d h i f a b c j e (updZ h y1 (W3 (shlZ .u32 (U3 y4) 16))) i (W6 (a + 1)) b (W6 (c + 1)) (e + 1) (updZ j e (kZ a (kZ (-1) (kZ 1 0)))) 1))) (sL0 g d h i f a b c j e h i (W6 (a + 1)) b (W6 (c + 1)) (e + 1) (updZ j e (kZ a (kZ (-1) (kZ 1 0)))) 1)) (Pb (Pe y0 34) (Pn (W3 ((W3 (rdZ h y2)) + (W3 y4))) (-2147483648) 2147483647 fun y5 => (Pb (Pl y5 0) (sL0 g d h i f a b c j e h i a 4 c e j 1) (Pb (PL f
 y5) (sL0 g d h i f a b c j e h i a 4 c e j 1) (Pm (PL 0 y5) (Pm (Pl y5 f) (Pb (PL 1024 y5) (Pb (Pe y0 35) (Pm (PL 0 y1) (Pm (Pl y1 32) (sL0 g d h i f a b c j e h (updZ i y5 (W3 (rdZ h y1))) (W6 (a + 1)) b (W6 (c + ((opCo y0) + 1))) (e + 1) (updZ j e (kZ a (kZ y5 (kZ ((opCo y0) + 1) 0)))) 1))) (Pb (Pd y1 0) (Pm (PL 0 y1) (Pm (Pl y1 32) (sL0 g d h i f a b c j e (updZ h y1 (W3 (rdZ i y5))) i (W6 (a + 1)) b (W6 (c + ((opCo y0) + 1))) (e + 1) (updZ j e (kZ a (kZ y5 (kZ ((opCo y0) + 1) 0)))) 1))) (sL0 g d h i f a b c j e h i (W6 (a + 1)) b (W6 (c + ((opCo y0) + 1))) (e + 1) (updZ j e (kZ a (kZ y5 (kZ ((opCo y0) + 1) 0)))) 1))) (Pb (Pe y0 35) (Pm (PL 0 y1) (Pm (Pl y1 32) (sL0 g d h i f a b c j e h (updZ i y5 (W3 (rdZ h y1))) (W6 (a + 1)) b (W6 (c + (opCo y0))) (e + 1) (updZ j e (kZ a (kZ y5 (kZ
 (opCo y0) 0)))) 1))) (Pb (Pd y1 0) (Pm (PL 0 y1) (Pm (Pl y1 32) (sL0 g d h i f a b c j e (updZ h y1 (W3 (rdZ i y5))) i (W6 (a + 1)) b (W6 (c + (opCo y0))) (e + 1) (updZ j e (kZ a (kZ y5 (kZ (opCo y0) 0)))) 1))) (sL0 g d h i f a b c j e h i (W6 (a + 1)) b (W6 (c + (opCo y0))) (e + 1) (updZ j e (kZ a (kZ y5 (kZ (opCo y0) 0)))) 1))))))))) (Pb (Pe y0 35) (Pn (W3 ((W3 (rdZ h y2)) + (W3 y4))) (-2147483648) 2147483647 fun y5 => (Pb (Pl y5 0) (sL0 g d h i f a b c j e h i a 4 c e j 1) (Pb (PL f y5) (sL0 g d h i f a b c j e h i a 4 c e j 1) (Pm (PL 0 y5) (Pm (Pl y5 f) (Pb (PL 1024 y5) (Pm (PL 0 y1) (Pm (Pl y1 32) (sL0 g d h i f a b c j e h (updZ i y5 (W3 (rdZ h y1))) (W6 (a + 1)) b (W6 (c + ((opCo y0) + 1))) (e + 1) (updZ j e (kZ a (kZ y5 (kZ ((opCo y0) + 1) 0)))) 1))) (Pm (PL 0 y1) (Pm (Pl y1 32)
 (sL0 g d h i f a b c j e h (updZ i y5 (W3 (rdZ h y1))) (W6 (a + 1)) b (W6 (c + (opCo y0))) (e + 1) (updZ j e (kZ a (kZ y5 (kZ (opCo y0) 0)))) 1))))))))) (Pm (PL 0 y1) (Pm (Pl y1 32) (Pb (Pe y0 36) (Pb (Pd (W3 (rdZ h y1)) (W3 (rdZ h y2))) (sL0 g d h i f a b c j e h i (W6 (a + 1)) b (W6 (c + 1)) (e + 1) (updZ j e (kZ a (kZ (-1) (kZ 1 0)))) 1) (sL0 g d h i f a b c j e h i y4 b (W6 (c + 3)) (e + 1) (updZ j e (kZ a (kZ (-1) (kZ 3 0)))) 1)) (Pb (Pe y0 37) (Pb (Pe (W3 (rdZ h y1)) (W3 (rdZ h y2))) (sL0 g d h i f a b c j e h i (W6 (a + 1)) b (W6 (c + 1)) (e + 1) (updZ j e (kZ a (kZ (-1) (kZ 1 0)))) 1) (sL0 g d h i f a b c j e h i y4 b (W6 (c + 3)) (e + 1) (updZ j e (kZ a (kZ (-1) (kZ 3 0)))) 1)) (Pb (Pe y0 38) (Pb (Pe (Pl (W3 (rdZ h y1)) (W3 (rdZ h y2))) 0) (sL0 g d h i f a b c j e h i (W6 (a +
 1)) b (W6 (c + 1)) (e + 1) (updZ j e (kZ a (kZ (-1) (kZ 1 0)))) 1) (sL0 g d h i f a b c j e h i y4 b (W6 (c + 3)) (e + 1) (updZ j e (kZ a (kZ (-1) (kZ 3 0)))) 1)) (Pb (Pe y0 40) (Pb (Pd y1 0) (Pn (W6 (c + (opCo y0))) (-9223372036854775808) 9223372036854775807 fun y5 => (sL0 g d h i f a b c j e (updZ h y1 (W3 (a + 1))) i y4 b y5 (e + 1) (updZ j e (kZ a (kZ (-1) (kZ (opCo y0) 0)))) 1)) (Pn (W6 (c + (opCo y0))) (-9223372036854775808) 9223372036854775807 fun y5 => (sL0 g d h i f a b c j e h i y4 b y5 (e + 1) (updZ j e (kZ a (kZ (-1) (kZ (opCo y0) 0)))) 1))) (Pb (Pe y0 39) (Pn (W6 (c + (opCo y0))) (-9223372036854775808) 9223372036854775807 fun y5 => (sL0 g d h i f a b c j e h i y4 b y5 (e + 1) (updZ j e (kZ a (kZ (-1) (kZ (opCo y0) 0)))) 1)) (Pb (Pe y0 41) (sL0 g d h i f a b c j e h i (W3
 (rdZ h y2)) b (W6 (c + (opCo y0))) (e + 1) (updZ j e (kZ a (kZ (-1) (kZ (opCo y0) 0)))) 1) (Pb (Pe y0 43) (Pn (W6 (c + (opCo y0))) (-9223372036854775808) 9223372036854775807 fun y5 => (sL0 g d h i f a b c j e h i a 1 y5 (e + 1) (updZ j e (kZ a (kZ (-1) (kZ (opCo y0) 0)))) 1)) (sL0 g d h i f a b c j e h i (W6 (a + 1)) b (W6 (c + (opCo y0))) (e + 1) (updZ j e (kZ a (kZ (-1) (kZ (opCo y0) 0)))) 1)))))))))))))))))))))))))
set_option maxHeartbeats 4000000 in
theorem holds (pc state cost nc nm nr cq rg rm mq : Int) (l_pc : -9223372036854775808 ≤ pc) (u_pc : pc ≤ 9223372036854775807) (l_state : -9223372036854775808 ≤ state) (u_state : state ≤ 9223372036854775807) (l_cost : -9223372036854775808 ≤ cost) (u_cost : cost ≤ 9223372036854775807) (l_nc : 0 ≤ nc) (u_nc : nc ≤ 16384) (l_nm : 0 ≤ nm) (u_nm : nm ≤ 999999) (l_nr : 0 ≤ nr) (u_nr : nr ≤ 2048) (h_pre0 : (okC cq nc) ≠ 0) : P pc state cost nc nm nr cq rg rm mq := by
 delta P sq0 sL0 Pb Pm Pn PL Pl Pe Pd W6 W3 U3 kZ
 simp only [nrm, nro, Int.reduceEq, Int.reduceNeg, reduceIte]
 have hok := (okC_ne cq nc).1 h_pre0
 refine ⟨fun h0 => st_leaf (by simp [Mac.step, h0]) (by omega) (by omega) (by omega) (by omega) (by simp [h0]), fun h0 => ⟨fun h1 => st_leaf (by simp [Mac.step, h0, h1]) (by omega) (by omega) (by omega) (by omega) (by simp [h0]), fun h1 => ⟨fun h2 => st_leaf (by simp [Mac.step, h0, h2]) (by omega) (by omega) (by omega) (by omega) (by simp [h0]), fun h2 => ⟨by omega, by omega, ?_⟩⟩⟩⟩
 intro y0 e0 b0 y1 e1 b1 y2 e2 b2 y3 e3 b3 y4 e4 b4
 refine ⟨fun h3 => st_leaf (by simp [Mac.step, h0, h3]; omega) (by omega) (by omega) (by omega) (by omega) (by simp [h0]), fun h3 => ?_⟩
 have hr := hok pc.toNat (by omega)
 unfold okRow at hr
 rw [show ((pc.toNat : Nat) : Int) = pc by omega, ← e0, ← e1, ← e2, ← e3, ← e4] at hr
 obtain ⟨g0, g1, g2, g3, g4⟩ := hr h3
 have hs : Mac.step cq nc nr ⟨rg, rm, pc, state, cost, mq, nm⟩ = Mac.does ⟨rg, rm, pc, state, cost, mq, nm⟩ nr y0 y1 y2 y3 y4 := by
  unfold Mac.step
  simp only
  rw [if_neg (by omega), if_neg (by omega), if_neg h3, ← e0, ← e1, ← e2, ← e3, ← e4]
 clear e0 e1 e2 e3 e4
 have hx := i64_bd (pc + 1)
 clear hok hr h_pre0
 repeat' (first | refine st_leaf (hs.trans ?_) ?_ ?_ ?_ ?_ ?_ | refine ⟨by omega, ?_⟩ | refine ⟨fun _ => ?_, fun _ => ?_⟩ | intro _)
 all_goals first | exact i64_bd _ | exact i32_in64 _ | omega | skip
 all_goals first | rw [does_alu (by omega)] | ((have hy : y0 = 31 := by omega); subst hy; rw [does_31]) | ((have hy : y0 = 32 := by omega); subst hy; rw [does_32]) | ((have hy : y0 = 33 := by omega); subst hy; rw [does_33]) | ((have hy : y0 = 34 := by omega); subst hy; rw [does_34]) | ((have hy : y0 = 35 := by omega); subst hy; rw [does_35]) | ((have hy : y0 = 36 := by omega); subst hy; rw [does_36]) | ((have hy : y0 = 37 := by omega); subst hy; rw [does_37]) | ((have hy : y0 = 38 := by omega); subst hy; rw [does_38]) | ((have hy : y0 = 39 := by omega); subst hy; rw [does_39]) | ((have hy : y0 = 40 := by omega); subst hy; rw [does_40]) | ((have hy : y0 = 41 := by omega); subst hy; rw [does_41]) | ((have hy : y0 = 42 := by omega); subst hy; rw [does_42]) | ((have hy : y0 = 43 := by omega); subst hy; rw [does_43])
 all_goals try simp only [Mac.mem, Mac.branch, Mac.reg]
 all_goals (repeat (first | rw [put_pos (by omega)] | rw [put_neg (by omega)] | refine (if_pos (by omega)).trans ?_ | refine (if_neg (by omega)).trans ?_ | unfold Mac.memA | unfold Mac.memo | simp only [Mac.reg]))
 all_goals (subst_vars; rfl)
theorem plain (i v ro p) : statH 2 rk tree ⟨i, fN, v, ro, p⟩ = P (i 0) (i 1) (i 2) (i 3) (i 4) (i 5) (i 6) (i 7) (i 8) (i 9) := by kernel_rfl
theorem ran : ranH us (fun _ _ => .auto) rk 2 tree = true := by kernel_rfl
theorem fineT : fineH 2 rk tree = true := by kernel_rfl
theorem ok : RhOk (cxOf 2) rk.rh := okH us_ok ran fineT (by kernel_rfl) okk fun i v ro p hρ hpre => by rw [plain]; have q := hρ.hi; exact holds _ _ _ _ _ _ _ _ _ _ (q 0 _ rfl).1 (q 0 _ rfl).2 (q 1 _ rfl).1 (q 1 _ rfl).2 (q 2 _ rfl).1 (q 2 _ rfl).2 (q 3 _ rfl).1 (q 3 _ rfl).2 (q 4 _ rfl).1 (q 4 _ rfl).2 (q 5 _ rfl).1 (q 5 _ rfl).2 (hpre _ (mg 0 rfl))
end CCStep
end Go.Proofs.YteebeenfggchnaaGreatDoor
