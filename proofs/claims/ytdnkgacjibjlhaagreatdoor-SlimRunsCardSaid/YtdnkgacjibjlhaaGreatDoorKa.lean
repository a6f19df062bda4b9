/-
  What functions of the program answer, as numbers of what they are handed: their runs by the engine, the plain statements behind them. No condition.
-/
import Derived.Test.YtdnkgacjibjlhaaGreatDoorGab
import Derived.Test.YtdnkgacjibjlhaaGreatDoorGib
import Derived.Test.YtdnkgacjibjlhaaGreatDoorGp1
import Derived.Test.YtdnkgacjibjlhaaGreatDoorGp7
set_option linter.unusedVariables false
set_option linter.unusedSimpArgs false
set_option maxRecDepth 100000
namespace Go.Proofs.YtdnkgacjibjlhaaGreatDoor
open Go.Eng Go.RowKit
namespace CICheck
def rc : Rc := ⟨16, [some 5], [.row [.int .u32] 1000000, .row [.int .i32] 1000000, .row [.bool] 1000000, .row [.int .i64] 1000000, .row [.int .i64] 1000000], [], .one, [.int .i64 (.f 84 (.v 0) (.v 1) (qQm [(.v 2), (.v 3), (.v 4), (.v 8), (.v 9)]))]⟩
theorem okb : rc.ok = true := by kernel_rfl
noncomputable def us : SMs := fun Γ ins n => smH (cxG n Γ ins) [] (qYj 47 (libSort Γ ins n) (qYj 35 (libComp Γ ins n) (smR (cxG n Γ ins) [])))
theorem us_ok : SMsOk us := fun Γ ins n => qZs (tabsG n Γ ins) (qZy _) (qZg (libSort_ok Γ ins n) (qZg (libComp_ok Γ ins n) (qZp (tabsG n Γ ins) (qZv _))))
def Q0 : E := (.cl 1000 0 4611686018427387904)
def Q1 : E := (.cl 1002 0 1000000)
def Q2 : E := (tp Q1 (.c 1))
def Q3 : E := (tl Q2 (.c 1000000))
def Q4 : E := (tp Q0 (.c 1))
def Q5 : E := (.cl 1006 0 4611686018427387904)
def Q6 : E := (tR (.v 8) Q5)
def Q7 : E := (t6 Q6)
def Q8 : E := (tp Q5 (.c 1))
def Q9 : E := (.cl 1010 0 4611686018427387904)
def Q10 : E := (tR (.v 9) Q9)
def Q11 : E := (t6 Q10)
def Q12 : E := (tp Q9 (.c 1))
def Q13 : E := (.f 42 (.v 1001) Q1 (.c 0))
def Q14 : E := (.f 44 Q13 Q1 (.c 0))
def tree : TT (List E) :=
 (.loop ⟨1000, [some (0, 4611686018427387904), none, some (0, 1000000)], [(.c 0), (.c 0), (.c 0)], 1004⟩ (.br (tk Q0 (.v 3)) (.br Q3 (.br (tl Q4 (.c 4611686018427387904)) (.br Q3 (.back [Q4, (.f 14 (.v 1001) Q1 (t6 (tR (.v 8) Q0))), Q2]) (.bad 303)) (.bad 303)) (.bad 200)) (.exit 0)) (.br (tk (.c 16384) (.v 0)) (.leaf [(.c 5)]) (.br (tk (.c 2048) (.v 1)) (.leaf [(.c 5)]) (.br (tk (.c 255) (.v 3)) (.leaf [(.c 5)]) (.br (tk (.c 255) (.v 4)) (.leaf [(.c 5)]) (.br (tn (.v 2) (.v 1)) (.leaf [(.c 2)]) (.loop ⟨1006, [some (0, 4611686018427387904)], [(.c 0)], 1008⟩ (.br (tk Q5 (.v 3)) (.br (tk Q7 (.c 0)) (.exit 0) (.br (tl (.v 1) Q7) (.exit 1) (.br (tl Q8 (.c 4611686018427387904)) (.back [Q8]) (.bad 303)))) (.exit 2)) (.br (te (.v 1008) (.c 0)) (.leaf [(.c 2)]) (.br (te (.v 1008) (.c 1)) (.leaf
 [(.c 2)]) (.loop ⟨1010, [some (0, 4611686018427387904)], [(.c 0)], 1012⟩ (.br (tk Q9 (.v 4)) (.br (tk Q11 (.c 0)) (.exit 0) (.br (tl (.v 1) Q11) (.exit 1) (.br (tl Q12 (.c 4611686018427387904)) (.back [Q12]) (.bad 303)))) (.exit 2)) (.br (te (.v 1012) (.c 0)) (.leaf [(.c 2)]) (.br (te (.v 1012) (.c 1)) (.leaf [(.c 2)]) (.br (tl (.c 0) Q14) (.br (tn Q14 (.v 3)) (.leaf [(.c 9)]) (.leaf [(.c 0)])) (.bad 200))))))))))))))
noncomputable def sq0 (a b c d e i j : Int) : Int := (chkZ a b (kZ c (kZ d (kZ e (kZ i (kZ j 0))))))
def sq1 (e j a b c d i y1 y2 : Int) : Prop := (∃ I1010 : Int → Nat → Prop, (∃ m, I1010 0 m) ∧ ∀ y10 : Int, ∀ m10, ((0 ≤ y10 ∧ y10 ≤ 4611686018427387904) ∧ True) → I1010 y10 m10 → (Pb (Pl y10 e) (Pb (Pl (W6 (rdZ j y10)) 0) (Pb (Pe (0 : Int) 0) ((2 : Int) = (sq0 a b c d e i j) ∧ True) (Pb (Pe (0 : Int) 1) ((2 : Int) = (sq0 a b c d e i j) ∧ True) (Pm (PL 0 (compN (sortC y1 y2) y2)) (Pb (Pd (compN (sortC y1 y2) y2) d) ((9 : Int) = (sq0 a b c d e i j) ∧ True) ((0 : Int) = (sq0 a b c d e i j) ∧ True))))) (Pb (PL b (W6 (rdZ j y10))) (Pb (Pe (1 : Int) 0) ((2 : Int) = (sq0 a b c d e i j) ∧ True) (Pb (Pe (1 : Int) 1) ((2 : Int) = (sq0 a b c d e i j) ∧ True) (Pm (PL 0 (compN (sortC y1 y2) y2)) (Pb (Pd (compN (sortC y1 y2) y2) d) ((9 : Int) = (sq0 a b c d e i j) ∧ True) ((0 : Int) = (sq0 a b c d e i
 j) ∧ True))))) (Pm (PL (y10 + 1) 4611686018427387904) (∃ m', m' < m10 ∧ I1010 (y10 + 1) m')))) (Pb (Pe (2 : Int) 0) ((2 : Int) = (sq0 a b c d e i j) ∧ True) (Pb (Pe (2 : Int) 1) ((2 : Int) = (sq0 a b c d e i j) ∧ True) (Pm (PL 0 (compN (sortC y1 y2) y2)) (Pb (Pd (compN (sortC y1 y2) y2) d) ((9 : Int) = (sq0 a b c d e i j) ∧ True) ((0 : Int) = (sq0 a b c d e i j) ∧ True)))))))
def P (a b c d e f g h i j k l n o p : Int) : Prop :=
 ∃ I1000 : Int → Int → Int → Nat → Prop, (∃ m, I1000 0 0 0 m) ∧ ∀ y0 y1 y2 : Int, ∀ m0, ((0 ≤ y0 ∧ y0 ≤ 4611686018427387904) ∧ True ∧ (0 ≤ y2 ∧ y2 ≤ 1000000) ∧ True) → I1000 y0 y1 y2 m0 → (Pb (Pl y0 d) (Pm (PL (y2 + 1) 1000000) (Pm (PL (y0 + 1) 4611686018427387904) (Pm (PL (y2 + 1) 1000000) (∃ m', m' < m0 ∧ I1000 (y0 + 1) (updZ y1 y2 (W6 (rdZ i y0))) (y2 + 1) m')))) (Pb (Pl 16384 a) ((5 : Int) = (sq0 a b c d e i j) ∧ True) (Pb (Pl 2048 b) ((5 : Int) = (sq0 a b c d e i j) ∧ True) (Pb (Pl 255 d) ((5 : Int) = (sq0 a b c d e i j) ∧ True) (Pb (Pl 255 e) ((5 : Int) = (sq0 a b c d e i j) ∧ True) (Pb (Pd c b) ((2 : Int) = (sq0 a b c d e i j) ∧ True) (∃ I1006 : Int → Nat → Prop, (∃ m, I1006 0 m) ∧ ∀ y6 : Int, ∀ m6, ((0 ≤ y6 ∧ y6 ≤ 4611686018427387904) ∧ True) → I1006 y6 m6 → (Pb (Pl y6 d) (Pb (Pl
 (W6 (rdZ i y6)) 0) (Pb (Pe (0 : Int) 0) ((2 : Int) = (sq0 a b c d e i j) ∧ True) (Pb (Pe (0 : Int) 1) ((2 : Int) = (sq0 a b c d e i j) ∧ True) (sq1 e j a b c d i y1 y2))) (Pb (PL b (W6 (rdZ i y6))) (Pb (Pe (1 : Int) 0) ((2 : Int) = (sq0 a b c d e i j) ∧ True) (Pb (Pe (1 : Int) 1) ((2 : Int) = (sq0 a b c d e i j) ∧ True) (sq1 e j a b c d i y1 y2))) (Pm (PL (y6 + 1) 4611686018427387904) (∃ m', m' < m6 ∧ I1006 (y6 + 1) m')))) (Pb (Pe (2 : Int) 0) ((2 : Int) = (sq0 a b c d e i j) ∧ True) (Pb (Pe (2 : Int) 1) ((2 : Int) = (sq0 a b c d e i j) ∧ True) (sq1 e j a b c d i y1 y2)))))))))))
theorem holds (n0_0 n0_1 n0_2 n0_3 n0_4 c0_0 c0_1 c0_2 c0_3 c0_4 r0_0 r0_1 r0_2 r0_3 r0_4 : Int) (l_n0_0 : 0 ≤ n0_0) (u_n0_0 : n0_0 ≤ 1000000) (l_n0_1 : 0 ≤ n0_1) (u_n0_1 : n0_1 ≤ 1000000) (l_n0_2 : 0 ≤ n0_2) (u_n0_2 : n0_2 ≤ 1000000) (l_n0_3 : 0 ≤ n0_3) (u_n0_3 : n0_3 ≤ 1000000) (l_n0_4 : 0 ≤ n0_4) (u_n0_4 : n0_4 ≤ 1000000) (h_n0_0 : n0_0 ≤ r0_0) (h_n0_1 : n0_1 ≤ r0_1) (h_n0_2 : n0_2 ≤ r0_2) (h_n0_3 : n0_3 ≤ r0_3) (h_n0_4 : n0_4 ≤ r0_4) : P n0_0 n0_1 n0_2 n0_3 n0_4 c0_0 c0_1 c0_2 c0_3 c0_4 r0_0 r0_1 r0_2 r0_3 r0_4 := by
 delta P sq0 sq1 Pb Pm PL Pl Pe Pd W6 kZ
 simp only [nrm, nro, Int.reduceEq, Int.reduceNeg, reduceIte]
 simp only [chk_ev]
 refine ⟨fun i q n m => n = i ∧ i ≤ n0_3 ∧ (∀ k : Nat, (k : Int) < i → IntKind.wrap .i64 (rdZ q k) = IntKind.wrap .i64 (rdZ c0_3 k)) ∧ m = (n0_3 - i).toNat, ⟨_, rfl, l_n0_3, fun k hk => by omega, rfl⟩, fun i q n m hb hI => ?_⟩
 obtain ⟨rfl, hi, hq, rfl⟩ := hI
 refine ⟨fun h => ⟨by omega, by omega, by omega, _, ?_, rfl, by omega, ?_, rfl⟩, fun h => ?_⟩
 ·omega
 ·intro k hk
  rw [qZf]
  by_cases e : (k : Int) = n
  ·rw [if_pos (by omega), ← e, Go.Eng.wrap_wrap _ _ _ (Nat.le_refl _)]
  ·rw [if_neg (by omega), hq k (by omega)]
 refine ⟨fun h1 => chk_long (.inl h1), fun h1 => ⟨fun h2 => chk_long (.inr (.inl h2)), fun h2 => ⟨fun h3 => chk_long (.inr (.inr (.inl h3))), fun h3 => ⟨fun h4 => chk_long (.inr (.inr (.inr h4))), fun h4 => ?_⟩⟩⟩⟩
 have hl : ¬ (16384 < n0_0 ∨ 2048 < n0_1 ∨ 255 < n0_3 ∨ 255 < n0_4) := by omega
 refine ⟨fun h5 => chk_arg hl (.inl h5), fun h5 => ?_⟩
 refine ⟨fun i m => adP c0_3 i n0_1 ∧ i ≤ n0_3 ∧ m = (n0_3 - i).toNat, ⟨_, ad_nil, l_n0_3, rfl⟩, fun i m hb1 hI => ?_⟩
 obtain ⟨hA, hi1, rfl⟩ := hI
 refine ⟨fun g => ⟨fun g1 => chk_arg hl (.inr (.inl (ad_no hb1.1 g (.inl g1)))), fun g1 => ⟨fun g2 => chk_arg hl (.inr (.inl (ad_no hb1.1 g (.inr g2)))), fun g2 => ⟨by omega, _, ?_, ad_snoc hb1.1 hA g1 g2, by omega, rfl⟩⟩⟩, fun g => ?_⟩
 ·omega
 rw [show i = n0_3 by omega] at hA
 refine ⟨fun i m => adP c0_4 i n0_1 ∧ i ≤ n0_4 ∧ m = (n0_4 - i).toNat, ⟨_, ad_nil, l_n0_4, rfl⟩, fun i m hb2 hI => ?_⟩
 obtain ⟨hB, hi2, rfl⟩ := hI
 refine ⟨fun g => ⟨fun g1 => chk_arg hl (.inr (.inr (ad_no hb2.1 g (.inl g1)))), fun g1 => ⟨fun g2 => chk_arg hl (.inr (.inr (ad_no hb2.1 g (.inr g2)))), fun g2 => ⟨by omega, _, ?_, ad_snoc hb2.1 hB g1 g2, by omega, rfl⟩⟩⟩, fun g => ?_⟩
 ·omega
 rw [show i = n0_4 by omega] at hB
 have hn : n = n0_3 := by omega
 rw [hn] at hq ⊢
 have hT := comp_twice (q := q) (c := c0_3) l_n0_3 (by
  unfold rowL
  exact List.map_congr_left fun k hk => hq k (by have := List.mem_range.1 hk; omega))
 refine ⟨by unfold compN; omega, fun g => chk_twice hl h5 hA hB (Classical.byContradiction fun e => g (hT.2 e)), fun g => chk_ok hl h5 hA hB (hT.1 g)⟩
theorem plain (i v ro p) : statR 2 rc tree ⟨i, fN, v, ro, p⟩ = P (i 0) (i 1) (i 2) (i 3) (i 4) (i 5) (i 6) (i 7) (i 8) (i 9) (i 10) (i 11) (i 12) (i 13) (i 14) := by kernel_rfl
theorem ran : ranR us (fun _ _ => .auto) rc 2 tree = true := by kernel_rfl
theorem fineT : fineR 2 rc tree = true := by kernel_rfl
theorem ok : RcOk (cxOf 2) rc := okR us_ok ran fineT okb fun i v ro p hρ hcap hpre => by rw [plain]; have q := hρ.hi; exact holds _ _ _ _ _ _ _ _ _ _ _ _ _ _ _ (q 0 _ rfl).1 (q 0 _ rfl).2 (q 1 _ rfl).1 (q 1 _ rfl).2 (q 2 _ rfl).1 (q 2 _ rfl).2 (q 3 _ rfl).1 (q 3 _ rfl).2 (q 4 _ rfl).1 (q 4 _ rfl).2 (hcap _ (mg 0 rfl)) (hcap _ (mg 1 rfl)) (hcap _ (mg 2 rfl)) (hcap _ (mg 3 rfl)) (hcap _ (mg 4 rfl))
end CICheck
end Go.Proofs.YtdnkgacjibjlhaaGreatDoor
