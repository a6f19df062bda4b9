/-
  What functions of the program answer, as numbers of what they are handed: their runs by the engine, the plain statements behind them. No condition.
-/
import Derived.Test.YteimodjkllldlacGab
import Derived.Test.YteimodjkllldlacGib
import Derived.Test.YteimodjkllldlacGp1
import Derived.Test.YteimodjkllldlacGp2
set_option linter.unusedVariables false
set_option linter.unusedSimpArgs false
set_option maxRecDepth 100000
namespace Go.Proofs.Yteimodjkllldlac
open Go.Eng Go.RowKit
namespace CICheck
def rc : Rc := ⟨11, [some 5], [.row [.int .u32] 1000000, .row [.int .i32] 1000000, .row [.bool] 1000000, .row [.int .i64] 1000000, .row [.int .i64] 1000000], [], .one, [.int .i64 (.f 84 (.v 0) (.v 1) (qQs [(.v 2), (.v 3), (.v 4), (.v 8), (.v 9)]))]⟩
theorem okb : rc.ok = true := by kernel_rfl
noncomputable def us : SMs := fun Γ ins n => smH (cxG n Γ ins) [] (smAnd 40 (libSort Γ ins n) (smAnd 24 (libComp Γ ins n) (smR (cxG n Γ ins) [])))
theorem us_ok : SMsOk us := fun Γ ins n => qJx (tabsG n Γ ins) (qZc _) (smAnd_ok (libSort_ok Γ ins n) (smAnd_ok (libComp_ok Γ ins n) (qJj (tabsG n Γ ins) (qZe _))))
def Q0 : E := (.cl 1000 0 4611686018427387904)
def Q1 : E := (.cl 1002 0 1000000)
def Q2 : E := (tp Q1 (.c 1))
def Q3 : E := (tl Q2 (.c 1000000))
def Q4 : E := (tp Q0 (.c 1))
def Q5 : E := (.cl 1006 0 4611686018427387904)
def Q6 : E := (tR (.v 8) Q5)
def Q7 : E := (t6 Q6)
def Q8 : E := (tp Q5 (.c 1))
def Q9 : E := (.cl 1010 0 4611686018427387904)
def Q10 : E := (tR (.v 9) Q9)
def Q11 : E := (t6 Q10)
def Q12 : E := (tp Q9 (.c 1))
def Q13 : E := (.f 42 (.v 1001) Q1 (.c 0))
def Q14 : E := (.f 44 Q13 Q1 (.c 0))
def tree : TT (List E) :=
 (.loop ⟨1000, [some (0, 4611686018427387904), none, some (0, 1000000)], [(.c 0), (.c 0), (.c 0)], 1004⟩ (.br (tk Q0 (.v 3)) (.br Q3 (.br (tl Q4 (.c 4611686018427387904)) (.br Q3 (.back [Q4, (.f 14 (.v 1001) Q1 (t6 (tR (.v 8) Q0))), Q2]) (.bad 303)) (.bad 303)) (.bad 200)) (.exit 0)) (.br (tk (.c 16384) (.v 0)) (.leaf [(.c 5)]) (.br (tk (.c 2048) (.v 1)) (.leaf [(.c 5)]) (.br (tk (.c 255) (.v 3)) (.leaf [(.c 5)]) (.br (tk (.c 255) (.v 4)) (.leaf [(.c 5)]) (.br (tn (.v 2) (.v 1)) (.leaf [(.c 2)]) (.loop ⟨1006, [some (0, 4611686018427387904)], [(.c 0)], 1008⟩ (.br (tk Q5 (.v 3)) (.br (tk Q7 (.c 0)) (.exit 0) (.br (tl (.v 1) Q7) (.exit 1) (.br (tl Q8 (.c 4611686018427387904)) (.back [Q8]) (.bad 303)))) (.exit 2)) (.br (te (.v 1008) (.c 0)) (.leaf [(.c 2)]) (.br (te (.v 1008) (.c 1)) (.leaf
 [(.c 2)]) (.loop ⟨1010, [some (0, 4611686018427387904)], [(.c 0)], 1012⟩ (.br (tk Q9 (.v 4)) (.br (tk Q11 (.c 0)) (.exit 0) (.br (tl (.v 1) Q11) (.exit 1) (.br (tl Q12 (.c 4611686018427387904)) (.back [Q12]) (.bad 303)))) (.exit 2)) (.br (te (.v 1012) (.c 0)) (.leaf [(.c 2)]) (.br (te (.v 1012) (.c 1)) (.leaf [(.c 2)]) (.br (tl (.c 0) Q14) (.br (tn Q14 (.v 3)) (.leaf [(.c 9)]) (.leaf [(.c 0)])) (.bad 200))))))))))))))
noncomputable def sq0 (a b c d e i j : Int) : Int := (chkZ a b (kZ c (kZ d (kZ e (kZ i (kZ j 0))))))
def sq1 (e j a b c d i y1 y2 : Int) : Prop := (∃ I1010 : Int → Nat → Prop, (∃ m, I1010 0 m) ∧ ∀ y10 : Int, ∀ m10, ((0 ≤ y10 ∧ y10 ≤ 4611686018427387904) ∧ True) → I1010 y10 m10 → (Pb (Pl y10 e) (Pb (Pl (W6 (rdZ j y10)) 0) (Pb (Pe (0 : Int) 0) ((2 : Int) = (sq0 a b c d e i j) ∧ True) (Pb (Pe (0 : Int) 1) ((2 : Int) = (sq0 a b c d e i j) ∧ True) (Pm (PL 0 (compN (sortC y1 y2) y2)) (Pb (Pd (compN (sortC y1 y2) y2) d) ((9 : Int) = (sq0 a b c d e i j) ∧ True) ((0 : Int) = (sq0 a b c d e i j) ∧ True))))) (Pb (PL b (W6 (rdZ j y10))) (Pb (Pe (1 : Int) 0) ((2 : Int) = (sq0 a b c d e i j) ∧ True) (Pb (Pe (1 : Int) 1) ((2 : Int) = (sq0 a b c d e i j) ∧ True) (Pm (PL 0 (compN (sortC y1 y2) y2)) (Pb (Pd (compN (sortC y1 y2) y2) d) ((9 : Int) = (sq0 a b c d e i j) ∧ True) ((0 : Int) = (sq0 a b c d e i
 j) ∧ True))))) (Pm (PL (y10 + 1) 4611686018427387904) (∃ m', m' < m10 ∧ I1010 (y10 + 1) m')))) (Pb (Pe (2 : Int) 0) ((2 : Int) = (sq0 a b c d e i j) ∧ True) (Pb (Pe (2 : Int) 1) ((2 : Int) = (sq0 a b c d e i j) ∧ True) (Pm (PL 0 (compN (sortC y1 y2) y2)) (Pb (Pd (compN (sortC y1 y2) y2) d) ((9 : Int) = (sq0 a b c d e i j) ∧ True) ((0 : Int) = (sq0 a b c d e i j) ∧ True)))))))
def P (a b c d e f g h i j k l n o p : Int) : Prop :=
 ∃ I1000 : Int → Int → Int → Nat → Prop, (∃ m, I1000 0 0 0 m) ∧ ∀ y0 y1 y2 : Int, ∀ m0, ((0 ≤ y0 ∧ y0 ≤ 4611686018427387904) ∧ True ∧ (0 ≤ y2 ∧ y2 ≤ 1000000) ∧ True) → I1000 y0 y1 y2 m0 → (Pb (Pl y0 d) (Pm (PL (y2 + 1) 1000000) (Pm (PL (y0 + 1) 4611686018427387904) (Pm (PL (y2 + 1) 1000000) (∃ m', m' < m0 ∧ I1000 (y0 + 1) (updZ y1 y2 (W6 (rdZ i y0))) (y2 + 1) m')))) (Pb (Pl 16384 a) ((5 : Int) = (sq0 a b c d e i j) ∧ True) (Pb (Pl 2048 b) ((5 : Int) = (sq0 a b c d e i j) ∧ True) (Pb (Pl 255 d) ((5 : Int) = (sq0 a b c d e i j) ∧ True) (Pb (Pl 255 e) ((5 : Int) = (sq0 a b c d e i j) ∧ True) (Pb (Pd c b) ((2 : Int) = (sq0 a b c d e i j) ∧ True) (∃ I1006 : Int → Nat → Prop, (∃ m, I1006 0 m) ∧ ∀ y6 : Int, ∀ m6, ((0 ≤ y6 ∧ y6 ≤ 4611686018427387904) ∧ True) → I1006 y6 m6 → (Pb (Pl y6 d) (Pb (Pl
 (W6 (rdZ i y6)) 0) (Pb (Pe (0 : Int) 0) ((2 : Int) = (sq0 a b c d e i j) ∧ True) (Pb (Pe (0 : Int) 1) ((2 : Int) = (sq0 a b c d e i j) ∧ True) (sq1 e j a b c d i y1 y2))) (Pb (PL b (W6 (rdZ i y6))) (Pb (Pe (1 : Int) 0) ((2 : Int) = (sq0 a b c d e i j) ∧ True) (Pb (Pe (1 : Int) 1) ((2 : Int) = (sq0 a b c d e i j) ∧ True) (sq1 e j a b c d i y1 y2))) (Pm (PL (y6 + 1) 4611686018427387904) (∃ m', m' < m6 ∧ I1006 (y6 + 1) m')))) (Pb (Pe (2 : Int) 0) ((2 : Int) = (sq0 a b c d e i j) ∧ True) (Pb (Pe (2 : Int) 1) ((2 : Int) = (sq0 a b c d e i j) ∧ True) (sq1 e j a b c d i y1 y2)))))))))))
theorem holds (n0_0 n0_1 n0_2 n0_3 n0_4 c0_0 c0_1 c0_2 c0_3 c0_4 r0_0 r0_1 r0_2 r0_3 r0_4 : Int) (l_n0_0 : 0 ≤ n0_0) (u_n0_0 : n0_0 ≤ 1000000) (l_n0_1 : 0 ≤ n0_1) (u_n0_1 : n0_1 ≤ 1000000) (l_n0_2 : 0 ≤ n0_2) (u_n0_2 : n0_2 ≤ 1000000) (l_n0_3 : 0 ≤ n0_3) (u_n0_3 : n0_3 ≤ 1000000) (l_n0_4 : 0 ≤ n0_4) (u_n0_4 : n0_4 ≤ 1000000) (h_n0_0 : n0_0 ≤ r0_0) (h_n0_1 : n0_1 ≤ r0_1) (h_n0_2 : n0_2 ≤ r0_2) (h_n0_3 : n0_3 ≤ r0_3) (h_n0_4 : n0_4 ≤ r0_4) : P n0_0 n0_1 n0_2 n0_3 n0_4 c0_0 c0_1 c0_2 c0_3 c0_4 r0_0 r0_1 r0_2 r0_3 r0_4 := by
 delta P sq0 sq1 Pb Pm PL Pl Pe Pd W6 kZ
 simp only [nrm, nro, Int.reduceEq, Int.reduceNeg, reduceIte]
 simp only [chk_ev]
 refine ⟨fun i q n m => n = i ∧ i ≤ n0_3 ∧ (∀ k : Nat, (k : Int) < i → IntKind.wrap .i64 (rdZ q k) = IntKind.wrap .i64 (rdZ c0_3 k)) ∧ m = (n0_3 - i).toNat, ⟨_, rfl, l_n0_3, fun k hk => by omega, rfl⟩, fun i q n m hb hI => ?_⟩
 obtain ⟨rfl, hi, hq, rfl⟩ := hI
 refine ⟨fun h => ⟨by omega, by omega, by omega, _, ?_, rfl, by omega, ?_, rfl⟩, fun h => ?_⟩
 ·omega
 ·intro k hk
  rw [qQh]
  by_cases e : (k : Int) = n
  ·rw [if_pos (by omega), ← e, Go.Eng.wrap_wrap _ _ _ (Nat.le_refl _)]
  ·rw [if_neg (by omega), hq k (by omega)]
 refine ⟨fun h1 => qKj (.inl h1), fun h1 => ⟨fun h2 => qKj (.inr (.inl h2)), fun h2 => ⟨fun h3 => qKj (.inr (.inr (.inl h3))), fun h3 => ⟨fun h4 => qKj (.inr (.inr (.inr h4))), fun h4 => ?_⟩⟩⟩⟩
 have hl : ¬ (16384 < n0_0 ∨ 2048 < n0_1 ∨ 255 < n0_3 ∨ 255 < n0_4) := by omega
 refine ⟨fun h5 => chk_arg hl (.inl h5), fun h5 => ?_⟩
 refine ⟨fun i m => adP c0_3 i n0_1 ∧ i ≤ n0_3 ∧ m = (n0_3 - i).toNat, ⟨_, ad_nil, l_n0_3, rfl⟩, fun i m hb1 hI => ?_⟩
 obtain ⟨hA, hi1, rfl⟩ := hI
 refine ⟨fun g => ⟨fun g1 => chk_arg hl (.inr (.inl (ad_no hb1.1 g (.inl g1)))), fun g1 => ⟨fun g2 => chk_arg hl (.inr (.inl (ad_no hb1.1 g (.inr g2)))), fun g2 => ⟨by omega, _, ?_, ad_snoc hb1.1 hA g1 g2, by omega, rfl⟩⟩⟩, fun g => ?_⟩
 ·omega
 rw [show i = n0_3 by omega] at hA
 refine ⟨fun i m => adP c0_4 i n0_1 ∧ i ≤ n0_4 ∧ m = (n0_4 - i).toNat, ⟨_, ad_nil, l_n0_4, rfl⟩, fun i m hb2 hI => ?_⟩
 obtain ⟨hB, hi2, rfl⟩ := hI
 refine ⟨fun g => ⟨fun g1 => chk_arg hl (.inr (.inr (ad_no hb2.1 g (.inl g1)))), fun g1 => ⟨fun g2 => chk_arg hl (.inr (.inr (ad_no hb2.1 g (.inr g2)))), fun g2 => ⟨by omega, _, ?_, ad_snoc hb2.1 hB g1 g2, by omega, rfl⟩⟩⟩, fun g => ?_⟩
 ·omega
 rw [show i = n0_4 by omega] at hB
 have hn : n = n0_3 := by omega
 rw [hn] at hq ⊢
 have hT := comp_twice (q := q) (c := c0_3) l_n0_3 (by
  unfold rowL
  exact List.map_congr_left fun k hk => hq k (by have := List.mem_range.1 hk; omega))
 refine ⟨by unfold compN; omega, fun g => chk_twice hl h5 hA hB (Classical.byContradiction fun e => g (hT.2 e)), fun g => chk_ok hl h5 hA hB (hT.1 g)⟩
theorem plain (i v ro p) : statR 2 rc tree ⟨i, fN, v, ro, p⟩ = P (i 0) (i 1) (i 2) (i 3) (i 4) (i 5) (i 6) (i 7) (i 8) (i 9) (i 10) (i 11) (i 12) (i 13) (i 14) := by kernel_rfl
theorem ran : ranR us (fun _ _ => .auto) rc 2 tree = true := by kernel_rfl
theorem fineT : fineR 2 rc tree = true := by kernel_rfl
theorem ok : RcOk (cxOf 2) rc := okR us_ok ran fineT okb fun i v ro p hρ hcap hpre => by rw [plain]; have q := hρ.hi; exact holds _ _ _ _ _ _ _ _ _ _ _ _ _ _ _ (q 0 _ rfl).1 (q 0 _ rfl).2 (q 1 _ rfl).1 (q 1 _ rfl).2 (q 2 _ rfl).1 (q 2 _ rfl).2 (q 3 _ rfl).1 (q 3 _ rfl).2 (q 4 _ rfl).1 (q 4 _ rfl).2 (hcap _ (mg 0 rfl)) (hcap _ (mg 1 rfl)) (hcap _ (mg 2 rfl)) (hcap _ (mg 3 rfl)) (hcap _ (mg 4 rfl))
end CICheck
namespace CCDec
def rc : Rc := ⟨26, [none], [.int .u32], [], .tup [some 5, none], [.int .i64 (.f 67 (.v 0) (.c 0) (.c 0)), .int .i64 (.f 67 (.v 0) (.c 1) (.c 0)), .int .i64 (.f 67 (.v 0) (.c 2) (.c 0)), .int .i64 (.f 67 (.v 0) (.c 3) (.c 0)), .int .i64 (.f 67 (.v 0) (.c 4) (.c 0)), .int .i64 (.f 67 (.v 0) (.c 5) (.c 0))]⟩
theorem okb : rc.ok = true := by kernel_rfl
noncomputable def us : SMs := fun Γ ins n => smH (cxG n Γ ins) [] (smR (cxG n Γ ins) [])
theorem us_ok : SMsOk us := fun Γ ins n => qJx (tabsG n Γ ins) (qZc _) (qJj (tabsG n Γ ins) (qZe _))
def Q0 : E := (.b .shr .u32 (.v 0) (.c 26))
def Q1 : E := (.b .shr .u32 (.v 0) (.c 21))
def Q2 : E := (.b .and .u32 Q1 (.c 31))
def Q3 : E := (.b .and .u32 Q2 (.c 31))
def Q4 : E := (.b .shl .u32 Q0 (.c 26))
def Q5 : E := (.b .shl .u32 (.cl 1000 0 31) (.c 21))
def Q6 : E := (.b .or .u32 Q4 Q5)
def Q7 : E := (.b .shr .u32 (.v 0) (.c 16))
def Q8 : E := (.b .and .u32 Q7 (.c 31))
def Q9 : E := (.b .and .u32 Q8 (.c 31))
def Q10 : E := (.b .shr .u32 (.v 0) (.c 11))
def Q11 : E := (.b .and .u32 Q10 (.c 31))
def Q12 : E := (.cl 1001 0 4294967295)
def Q13 : E := (.b .shl .u32 (.cl 1002 0 31) (.c 16))
def Q14 : E := (.b .or .u32 Q12 Q13)
def Q15 : E := (.b .or .u32 Q14 (.c 0))
def Q16 : E := (.cl 1003 0 4294967295)
def Q17 : E := (.b .shr .u32 (.v 0) (.c 0))
def Q18 : E := (.b .and .u32 Q17 (.c 65535))
def Q19 : E := (.w .i16 Q18)
def Q20 : E := (.b .and .u32 Q18 (.c 65535))
def Q21 : E := (.b .or .u32 Q12 (.c 0))
def Q22 : E := (.b .or .u32 Q21 (.c 0))
def Q23 : E := (.b .shl .u32 (.cl 1002 0 65535) (.c 0))
def Q24 : E := (.b .or .u32 Q22 Q23)
def Q25 : E := (tn Q16 (.v 0))
def Q26 : E := (.b .or .u32 Q4 (.c 0))
def Q27 : E := (.cl 1000 0 4294967295)
def Q28 : E := (.b .or .u32 Q27 (.c 0))
def Q29 : E := (.b .or .u32 Q28 (.c 0))
def tree : TT (List E) :=
 (.br (tl (.c 1) Q0) (.br (.nt (tl Q0 (.c 43))) (.leaf [(.c 0), (.c 0), (.c 0), (.c 0), (.c 0), (.c 2)]) (.br (tl Q0 (.c 23)) (.new 1000 Q3 (.new 1001 Q6 (.new 1002 Q9 (.new 1003 (.b .and .u32 Q11 (.c 31)) (.new 1004 (.b .or .u32 Q14 (.b .shl .u32 (.cl 1003 0 31) (.c 11))) (.br (tn (.b .or .u32 (.cl 1004 0 4294967295) (.c 0)) (.v 0)) (.leaf [(.c 0), (.c 0), (.c 0), (.c 0), (.c 0), (.c 3)]) (.leaf [Q0, Q2, Q8, Q11, (.c 0), (.c 0)]))))))) (.br (tl Q0 (.c 30)) (.new 1000 Q3 (.new 1001 Q6 (.new 1002 Q9 (.new 1003 Q15 (.br (tn (.b .or .u32 Q16 (.c 0)) (.v 0)) (.leaf [(.c 0), (.c 0), (.c 0), (.c 0), (.c 0), (.c 3)]) (.leaf [Q0, Q2, Q8, (.c 0), (.c 0), (.c 0)])))))) (.br (te Q0 (.c 31)) (.new 1000 Q3 (.new 1001 Q6 (.new 1002 Q9 (.new 1003 Q15 (.new 1004 Q19 (.new 1005 (.b .shl .u32 (.b .and .u32
 (.w .u32 (.cl 1004 (-32768) 32767)) (.c 65535)) (.c 0)) (.br (tn (.b .or .u32 Q16 (.cl 1005 0 65535)) (.v 0)) (.leaf [(.c 0), (.c 0), (.c 0), (.c 0), (.c 0), (.c 3)]) (.leaf [Q0, Q2, Q8, (.c 0), Q19, (.c 0)])))))))) (.br (te Q0 (.c 33)) (.new 1000 Q3 (.new 1001 Q6 (.new 1002 Q20 (.new 1003 Q24 (.br Q25 (.leaf [(.c 0), (.c 0), (.c 0), (.c 0), (.c 0), (.c 3)]) (.leaf [Q0, Q2, (.c 0), (.c 0), Q18, (.c 0)])))))) (.br (te Q0 (.c 40)) (.new 1000 Q3 (.new 1001 Q6 (.new 1002 Q20 (.new 1003 Q24 (.br Q25 (.leaf [(.c 0), (.c 0), (.c 0), (.c 0), (.c 0), (.c 3)]) (.leaf [Q0, Q2, (.c 0), (.c 0), Q18, (.c 0)])))))) (.br (tk Q0 (.c 39)) (.new 1000 Q3 (.new 1001 Q6 (.new 1002 Q9 (.new 1003 Q15 (.new 1004 Q20 (.br (tn (.b .or .u32 Q16 (.b .shl .u32 (.cl 1004 0 65535) (.c 0))) (.v 0)) (.leaf [(.c 0), (.c
 0), (.c 0), (.c 0), (.c 0), (.c 3)]) (.leaf [Q0, Q2, Q8, (.c 0), Q18, (.c 0)]))))))) (.br (te Q0 (.c 39)) (.new 1000 Q26 (.new 1001 Q20 (.new 1002 (.b .or .u32 Q29 (.b .shl .u32 (.cl 1001 0 65535) (.c 0))) (.br (tn (.cl 1002 0 4294967295) (.v 0)) (.leaf [(.c 0), (.c 0), (.c 0), (.c 0), (.c 0), (.c 3)]) (.leaf [Q0, (.c 0), (.c 0), (.c 0), Q18, (.c 0)]))))) (.br (te Q0 (.c 41)) (.new 1000 Q26 (.new 1001 Q9 (.new 1002 (.b .or .u32 (.b .or .u32 Q27 (.b .shl .u32 (.cl 1001 0 31) (.c 16))) (.c 0)) (.br (tn (.b .or .u32 (.cl 1002 0 4294967295) (.c 0)) (.v 0)) (.leaf [(.c 0), (.c 0), (.c 0), (.c 0), (.c 0), (.c 3)]) (.leaf [Q0, (.c 0), Q8, (.c 0), (.c 0), (.c 0)]))))) (.new 1000 Q26 (.new 1001 (.b .or .u32 Q29 (.c 0)) (.br (tn Q12 (.v 0)) (.leaf [(.c 0), (.c 0), (.c 0), (.c 0), (.c 0), (.c 3)])
 (.leaf [Q0, (.c 0), (.c 0), (.c 0), (.c 0), (.c 0)]))))))))))))) (.leaf [(.c 0), (.c 0), (.c 0), (.c 0), (.c 0), (.c 2)]))
noncomputable def sq0 (a y0 : Int) : Int := (bor .u32 (shlZ .u32 (shrZ .u32 a 26) 26) (shlZ .u32 y0 21))
def sL0 (a z0 z2 z4 z6 z8 z10 : Int) : Prop := (z0 : Int) = (decZ a 0) ∧ (z2 : Int) = (decZ a 1) ∧ (z4 : Int) = (decZ a 2) ∧ (z6 : Int) = (decZ a 3) ∧ (z8 : Int) = (decZ a 4) ∧ (z10 : Int) = (decZ a 5) ∧ True
def sq1 (a : Int) : Prop := (Pn (band .u32 (band .u32 (shrZ .u32 a 21) 31) 31) 0 31 fun y0 => Pn (sq0 a y0) 0 4294967295 fun y1 => Pn (band .u32 (band .u32 (shrZ .u32 a 0) 65535) 65535) 0 65535 fun y2 => Pn (bor .u32 (bor .u32 (bor .u32 y1 0) 0) (shlZ .u32 y2 0)) 0 4294967295 fun y3 => (Pb (Pd y3 a) (sL0 a 0 0 0 0 0 3) (sL0 a (shrZ .u32 a 26) (band .u32 (shrZ .u32 a 21) 31) 0 0 (band .u32 (shrZ .u32 a 0) 65535) 0)))
def P (a : Int) : Prop :=
 (Pb (PL 1 (shrZ .u32 a 26)) (Pb (Pe (PL (shrZ .u32 a 26) 43) 0) (sL0 a 0 0 0 0 0 2) (Pb (PL (shrZ .u32 a 26) 23) (Pn (band .u32 (band .u32 (shrZ .u32 a 21) 31) 31) 0 31 fun y0 => Pn (sq0 a y0) 0 4294967295 fun y1 => Pn (band .u32 (band .u32 (shrZ .u32 a 16) 31) 31) 0 31 fun y2 => Pn (band .u32 (band .u32 (shrZ .u32 a 11) 31) 31) 0 31 fun y3 => Pn (bor .u32 (bor .u32 y1 (shlZ .u32 y2 16)) (shlZ .u32 y3 11)) 0 4294967295 fun y4 => (Pb (Pd (bor .u32 y4 0) a) (sL0 a 0 0 0 0 0 3) (sL0 a (shrZ .u32 a 26) (band .u32 (shrZ .u32 a 21) 31) (band .u32 (shrZ .u32 a 16) 31) (band .u32 (shrZ .u32 a 11) 31) 0 0))) (Pb (PL (shrZ .u32 a 26) 30) (Pn (band .u32 (band .u32 (shrZ .u32 a 21) 31) 31) 0 31 fun y0 => Pn (sq0 a y0) 0 4294967295 fun y1 => Pn (band .u32 (band .u32 (shrZ .u32 a 16) 31) 31) 0 31 fun
 y2 => Pn (bor .u32 (bor .u32 y1 (shlZ .u32 y2 16)) 0) 0 4294967295 fun y3 => (Pb (Pd (bor .u32 y3 0) a) (sL0 a 0 0 0 0 0 3) (sL0 a (shrZ .u32 a 26) (band .u32 (shrZ .u32 a 21) 31) (band .u32 (shrZ .u32 a 16) 31) 0 0 0))) (Pb (Pe (shrZ .u32 a 26) 31) (Pn (band .u32 (band .u32 (shrZ .u32 a 21) 31) 31) 0 31 fun y0 => Pn (sq0 a y0) 0 4294967295 fun y1 => Pn (band .u32 (band .u32 (shrZ .u32 a 16) 31) 31) 0 31 fun y2 => Pn (bor .u32 (bor .u32 y1 (shlZ .u32 y2 16)) 0) 0 4294967295 fun y3 => Pn (IntKind.wrap .i16 (band .u32 (shrZ .u32 a 0) 65535)) (-32768) 32767 fun y4 => Pn (shlZ .u32 (band .u32 (U3 y4) 65535) 0) 0 65535 fun y5 => (Pb (Pd (bor .u32 y3 y5) a) (sL0 a 0 0 0 0 0 3) (sL0 a (shrZ .u32 a 26) (band .u32 (shrZ .u32 a 21) 31) (band .u32 (shrZ .u32 a 16) 31) 0 (IntKind.wrap .i16 (band
 .u32 (shrZ .u32 a 0) 65535)) 0))) (Pb (Pe (shrZ .u32 a 26) 33) (sq1 a) (Pb (Pe (shrZ .u32 a 26) 40) (sq1 a) (Pb (Pl (shrZ .u32 a 26) 39) (Pn (band .u32 (band .u32 (shrZ .u32 a 21) 31) 31) 0 31 fun y0 => Pn (sq0 a y0) 0 4294967295 fun y1 => Pn (band .u32 (band .u32 (shrZ .u32 a 16) 31) 31) 0 31 fun y2 => Pn (bor .u32 (bor .u32 y1 (shlZ .u32 y2 16)) 0) 0 4294967295 fun y3 => Pn (band .u32 (band .u32 (shrZ .u32 a 0) 65535) 65535) 0 65535 fun y4 => (Pb (Pd (bor .u32 y3 (shlZ .u32 y4 0)) a) (sL0 a 0 0 0 0 0 3) (sL0 a (shrZ .u32 a 26) (band .u32 (shrZ .u32 a 21) 31) (band .u32 (shrZ .u32 a 16) 31) 0 (band .u32 (shrZ .u32 a 0) 65535) 0))) (Pb (Pe (shrZ .u32 a 26) 39) (Pn (bor .u32 (shlZ .u32 (shrZ .u32 a 26) 26) 0) 0 4294967295 fun y0 => Pn (band .u32 (band .u32 (shrZ .u32 a 0) 65535) 65535) 0
 65535 fun y1 => Pn (bor .u32 (bor .u32 (bor .u32 y0 0) 0) (shlZ .u32 y1 0)) 0 4294967295 fun y2 => (Pb (Pd y2 a) (sL0 a 0 0 0 0 0 3) (sL0 a (shrZ .u32 a 26) 0 0 0 (band .u32 (shrZ .u32 a 0) 65535) 0))) (Pb (Pe (shrZ .u32 a 26) 41) (Pn (bor .u32 (shlZ .u32 (shrZ .u32 a 26) 26) 0) 0 4294967295 fun y0 => Pn (band .u32 (band .u32 (shrZ .u32 a 16) 31) 31) 0 31 fun y1 => Pn (bor .u32 (bor .u32 y0 (shlZ .u32 y1 16)) 0) 0 4294967295 fun y2 => (Pb (Pd (bor .u32 y2 0) a) (sL0 a 0 0 0 0 0 3) (sL0 a (shrZ .u32 a 26) 0 (band .u32 (shrZ .u32 a 16) 31) 0 0 0))) (Pn (bor .u32 (shlZ .u32 (shrZ .u32 a 26) 26) 0) 0 4294967295 fun y0 => Pn (bor .u32 (bor .u32 (bor .u32 y0 0) 0) 0) 0 4294967295 fun y1 => (Pb (Pd y1 a) (sL0 a 0 0 0 0 0 3) (sL0 a (shrZ .u32 a 26) 0 0 0 0 0)))))))))))) (sL0 a 0 0 0 0 0 2))
theorem wi16 (x : Int) : IntKind.wrap .i16 x = (x + 32768) % 65536 - 32768 := by
 simp [IntKind.wrap, IntKind.bits, IntKind.signed] <;> (try split) <;> omega
set_option maxHeartbeats 4000000 in
theorem holds (p0 : Int) (l_p0 : 0 ≤ p0) (u_p0 : p0 ≤ 4294967295) : P p0 := by
 delta P sq0 sq1 sL0 Pb Pn PL Pl Pe Pd U3
 simp only [sh26, sh21, sh16, sh11, sh0, sl26, sl21, sl16, sl11, sl0, ba31, ba16, wi16, wu32]
 simp only [nrm, Int.reduceEq, Int.reduceNeg, reduceIte]
 refine ⟨fun c1 => ⟨fun c2 => dec_no2 l_p0 u_p0 (by omega), fun c2 => ?_⟩, fun c1 => dec_no2 l_p0 u_p0 (by omega)⟩
 refine ⟨fun d0 => ?_, fun d0 => ?_⟩
 ·skip
  intro y0 hy0 by0 y1 hy1 by1 y2 hy2 by2 y3 hy3 by3 y4 hy4 by4
  have ey1 : y1 = p0 / 67108864 * 67108864 + y0 * 2097152 := by rw [hy1, or21 (h := p0 / 67108864 * 67108864 % 4294967296) (by omega) (by omega) (by omega) (by omega) (by omega)] <;> omega
  have ey4 : y4 = y1 + y2 * 65536 + y3 * 2048 := by rw [hy4, or16 (h := y1) (by omega) (by omega) (by omega) (by omega) (by omega), or11 (h := y1 + y2 * 65536 % 4294967296) (by omega) (by omega) (by omega) (by omega) (by omega)] <;> omega
  rw [or_0 (h := y4) (by omega) (by omega)]
  refine ⟨fun hne => qKa l_p0 u_p0 (by omega) (by unfold decP; simp only; omega), fun heq => qKb l_p0 u_p0 (by unfold decP; simp only; omega) (by omega) (by omega) (by omega) (by split <;> omega) (by unfold decN; simp only; split <;> (try split) <;> omega)⟩
 refine ⟨fun d1 => ?_, fun d1 => ?_⟩
 ·skip
  intro y0 hy0 by0 y1 hy1 by1 y2 hy2 by2 y3 hy3 by3
  have ey1 : y1 = p0 / 67108864 * 67108864 + y0 * 2097152 := by rw [hy1, or21 (h := p0 / 67108864 * 67108864 % 4294967296) (by omega) (by omega) (by omega) (by omega) (by omega)] <;> omega
  have ey3 : y3 = y1 + y2 * 65536 := by rw [hy3, or16 (h := y1) (by omega) (by omega) (by omega) (by omega) (by omega), or_0 (h := y1 + y2 * 65536 % 4294967296) (by omega) (by omega)] <;> omega
  rw [or_0 (h := y3) (by omega) (by omega)]
  refine ⟨fun hne => qKa l_p0 u_p0 (by omega) (by unfold decP; simp only; omega), fun heq => qKb l_p0 u_p0 (by unfold decP; simp only; omega) (by omega) (by omega) (by omega) (by split <;> omega) (by unfold decN; simp only; split <;> (try split) <;> omega)⟩
 refine ⟨fun d2 => ?_, fun d2 => ?_⟩
 ·skip
  intro y0 hy0 by0 y1 hy1 by1 y2 hy2 by2 y3 hy3 by3 y4 hy4 by4 y5 hy5 by5
  have ey1 : y1 = p0 / 67108864 * 67108864 + y0 * 2097152 := by rw [hy1, or21 (h := p0 / 67108864 * 67108864 % 4294967296) (by omega) (by omega) (by omega) (by omega) (by omega)] <;> omega
  have ey3 : y3 = y1 + y2 * 65536 := by rw [hy3, or16 (h := y1) (by omega) (by omega) (by omega) (by omega) (by omega), or_0 (h := y1 + y2 * 65536 % 4294967296) (by omega) (by omega)] <;> omega
  rw [or11 (h := y3) (by omega) (by omega) (by omega) (by omega) (by omega)]
  refine ⟨fun hne => qKa l_p0 u_p0 (by omega) (by unfold decP; simp only; omega), fun heq => qKb l_p0 u_p0 (by unfold decP; simp only; omega) (by omega) (by omega) (by omega) (by split <;> omega) (by unfold decN; simp only; split <;> (try split) <;> omega)⟩
 refine ⟨fun d3 => ?_, fun d3 => ?_⟩
 ·skip
  intro y0 hy0 by0 y1 hy1 by1 y2 hy2 by2 y3 hy3 by3
  have ey1 : y1 = p0 / 67108864 * 67108864 + y0 * 2097152 := by rw [hy1, or21 (h := p0 / 67108864 * 67108864 % 4294967296) (by omega) (by omega) (by omega) (by omega) (by omega)] <;> omega
  have ey3 : y3 = y1 + y2 := by rw [hy3, or_0 (h := y1) (by omega) (by omega), or_0 (h := y1) (by omega) (by omega), or11 (h := y1) (by omega) (by omega) (by omega) (by omega) (by omega)] <;> omega
  refine ⟨fun hne => qKa l_p0 u_p0 (by omega) (by unfold decP; simp only; omega), fun heq => qKb l_p0 u_p0 (by unfold decP; simp only; omega) (by omega) (by omega) (by omega) (by split <;> omega) (by unfold decN; simp only; split <;> (try split) <;> omega)⟩
 refine ⟨fun d4 => ?_, fun d4 => ?_⟩
 ·skip
  intro y0 hy0 by0 y1 hy1 by1 y2 hy2 by2 y3 hy3 by3
  have ey1 : y1 = p0 / 67108864 * 67108864 + y0 * 2097152 := by rw [hy1, or21 (h := p0 / 67108864 * 67108864 % 4294967296) (by omega) (by omega) (by omega) (by omega) (by omega)] <;> omega
  have ey3 : y3 = y1 + y2 := by rw [hy3, or_0 (h := y1) (by omega) (by omega), or_0 (h := y1) (by omega) (by omega), or11 (h := y1) (by omega) (by omega) (by omega) (by omega) (by omega)] <;> omega
  refine ⟨fun hne => qKa l_p0 u_p0 (by omega) (by unfold decP; simp only; omega), fun heq => qKb l_p0 u_p0 (by unfold decP; simp only; omega) (by omega) (by omega) (by omega) (by split <;> omega) (by unfold decN; simp only; split <;> (try split) <;> omega)⟩
 refine ⟨fun d5 => ?_, fun d5 => ?_⟩
 ·skip
  intro y0 hy0 by0 y1 hy1 by1 y2 hy2 by2 y3 hy3 by3 y4 hy4 by4
  have ey1 : y1 = p0 / 67108864 * 67108864 + y0 * 2097152 := by rw [hy1, or21 (h := p0 / 67108864 * 67108864 % 4294967296) (by omega) (by omega) (by omega) (by omega) (by omega)] <;> omega
  have ey3 : y3 = y1 + y2 * 65536 := by rw [hy3, or16 (h := y1) (by omega) (by omega) (by omega) (by omega) (by omega), or_0 (h := y1 + y2 * 65536 % 4294967296) (by omega) (by omega)] <;> omega
  rw [or11 (h := y3) (by omega) (by omega) (by omega) (by omega) (by omega)]
  refine ⟨fun hne => qKa l_p0 u_p0 (by omega) (by unfold decP; simp only; omega), fun heq => qKb l_p0 u_p0 (by unfold decP; simp only; omega) (by omega) (by omega) (by omega) (by split <;> omega) (by unfold decN; simp only; split <;> (try split) <;> omega)⟩
 refine ⟨fun d6 => ?_, fun d6 => ?_⟩
 ·skip
  intro y0 hy0 by0 y1 hy1 by1 y2 hy2 by2
  have ey0 : y0 = p0 / 67108864 * 67108864 := by rw [hy0, or_0 (h := p0 / 67108864 * 67108864 % 4294967296) (by omega) (by omega)] <;> omega
  have ey2 : y2 = y0 + y1 := by rw [hy2, or_0 (h := y0) (by omega) (by omega), or_0 (h := y0) (by omega) (by omega), or11 (h := y0) (by omega) (by omega) (by omega) (by omega) (by omega)] <;> omega
  refine ⟨fun hne => qKa l_p0 u_p0 (by omega) (by unfold decP; simp only; omega), fun heq => qKb l_p0 u_p0 (by unfold decP; simp only; omega) (by omega) (by omega) (by omega) (by split <;> omega) (by unfold decN; simp only; split <;> (try split) <;> omega)⟩
 refine ⟨fun d7 => ?_, fun d7 => ?_⟩
 ·skip
  intro y0 hy0 by0 y1 hy1 by1 y2 hy2 by2
  have ey0 : y0 = p0 / 67108864 * 67108864 := by rw [hy0, or_0 (h := p0 / 67108864 * 67108864 % 4294967296) (by omega) (by omega)] <;> omega
  have ey2 : y2 = y0 + y1 * 65536 := by rw [hy2, or16 (h := y0) (by omega) (by omega) (by omega) (by omega) (by omega), or_0 (h := y0 + y1 * 65536 % 4294967296) (by omega) (by omega)] <;> omega
  rw [or_0 (h := y2) (by omega) (by omega)]
  refine ⟨fun hne => qKa l_p0 u_p0 (by omega) (by unfold decP; simp only; omega), fun heq => qKb l_p0 u_p0 (by unfold decP; simp only; omega) (by omega) (by omega) (by omega) (by split <;> omega) (by unfold decN; simp only; split <;> (try split) <;> omega)⟩
 intro y0 hy0 by0 y1 hy1 by1
 have ey0 : y0 = p0 / 67108864 * 67108864 := by rw [hy0, or_0 (h := p0 / 67108864 * 67108864 % 4294967296) (by omega) (by omega)] <;> omega
 have ey1 : y1 = y0 := by rw [hy1, or_0 (h := y0) (by omega) (by omega), or_0 (h := y0) (by omega) (by omega), or_0 (h := y0) (by omega) (by omega)] <;> omega
 refine ⟨fun hne => qKa l_p0 u_p0 (by omega) (by unfold decP; simp only; omega), fun heq => qKb l_p0 u_p0 (by unfold decP; simp only; omega) (by omega) (by omega) (by omega) (by split <;> omega) (by unfold decN; simp only; split <;> (try split) <;> omega)⟩
theorem plain (i v ro p) : statR 2 rc tree ⟨i, fN, v, ro, p⟩ = P (i 0) := by kernel_rfl
theorem ran : ranR us (fun f _ => if [44].contains f then .unroll 400 else .auto) rc 2 tree = true := by kernel_rfl
theorem fineT : fineR 2 rc tree = true := by kernel_rfl
theorem ok : RcOk (cxOf 2) rc := okR us_ok ran fineT okb fun i v ro p hρ hcap hpre => by rw [plain]; have q := hρ.hi; exact holds _ (q 0 _ rfl).1 (q 0 _ rfl).2
end CCDec
namespace CSCon
def rc : Rc := ⟨27, [none, none], [.row [.bool] 1000000, .bool], [], .one, [.bool (.f 113 (.v 2) (.v 0) (.v 1))]⟩
theorem okb : rc.ok = true := by kernel_rfl
noncomputable def us : SMs := fun Γ ins n => smH (cxG n Γ ins) [] (smR (cxG n Γ ins) [])
theorem us_ok : SMsOk us := fun Γ ins n => qJx (tabsG n Γ ins) (qZc _) (qJj (tabsG n Γ ins) (qZe _))
def tree : TT (List E) :=
(.loop ⟨1000, [some (0, 4611686018427387904)], [(.c 0)], 1002⟩
 (.br (.b .lt .i64 (.cl 1000 0 4611686018427387904) (.v 0))
 (.br (.b .eq .i64 (.nt (.v 1)) (.nt (.f 13 (.v 2) (.cl 1000 0 4611686018427387904) (.c 0))))
 (.exit 0)
 (.br (.b .le .i64 (.b .padd .i64 (.cl 1000 0 4611686018427387904) (.c 1)) (.c 4611686018427387904))
 (.back [(.b .padd .i64 (.cl 1000 0 4611686018427387904) (.c 1))])
 (.bad 303)))
 (.exit 1))
 (.br (.b .eq .i64 (.v 1002) (.c 0))
 (.leaf [(.c 1)])
 (.leaf [(.c 0)])))
def P (n0 p1 c0 r0 : Int) : Prop :=
 ∃ I1000 : Int → Nat → Prop, (∃ m, I1000 0 m) ∧
 ∀ y1000 : Int, ∀ m1000, ((0 ≤ y1000 ∧ y1000 ≤ 4611686018427387904) ∧ True) → I1000 y1000 m1000 →
  (((qQz (decide (y1000 < n0))) ≠ 0 →
   (((qQz ((qQz (p1 == 0)) == (qQz ((rdZ c0 y1000) == 0)))) ≠ 0 →
    (((qQz ((0 : Int) == 0)) ≠ 0 →
     ((1 : Int) ≠ 0 ↔ ((anyZ c0 n0 p1) : Int) ≠ 0) ∧ True) ∧ ((qQz ((0 : Int) == 0)) = 0 →
     ((0 : Int) ≠ 0 ↔ ((anyZ c0 n0 p1) : Int) ≠ 0) ∧ True))) ∧ ((qQz ((qQz (p1 == 0)) == (qQz ((rdZ c0 y1000) == 0)))) = 0 →
    (((qQz (decide ((y1000 + 1) ≤ 4611686018427387904))) ≠ 0 →
     ∃ m', m' < m1000 ∧ I1000 (y1000 + 1) m') ∧ ((qQz (decide ((y1000 + 1) ≤ 4611686018427387904))) = 0 →
     False))))) ∧ ((qQz (decide (y1000 < n0))) = 0 →
   (((qQz ((1 : Int) == 0)) ≠ 0 →
    ((1 : Int) ≠ 0 ↔ ((anyZ c0 n0 p1) : Int) ≠ 0) ∧ True) ∧ ((qQz ((1 : Int) == 0)) = 0 →
    ((0 : Int) ≠ 0 ↔ ((anyZ c0 n0 p1) : Int) ≠ 0) ∧ True))))
theorem holds (n0 p1 c0 r0 : Int) (l_n0 : 0 ≤ n0) (u_n0 : n0 ≤ 1000000) (l_p1 : 0 ≤ p1) (u_p1 : p1 ≤ 1) (h_n0 : n0 ≤ r0) : P n0 p1 c0 r0 := by
 unfold P
 simp only [nrm, nro, Int.reduceEq, Int.reduceNeg, reduceIte]
 have hz : (anyZ c0 n0 p1 = 0) ↔ ¬ ∃ j : Int, 0 ≤ j ∧ j < n0 ∧ (rdZ c0 j ≠ 0 ↔ p1 ≠ 0) := by
  unfold anyZ
  split
  ·rename_i h; exact ⟨fun k => absurd k (by decide), fun k => absurd h k⟩
  ·rename_i h; exact ⟨fun _ => h, fun _ => rfl⟩
 have hb : ∀ x y : Int, (qQz (y == 0) = qQz (x == 0)) ↔ (x ≠ 0 ↔ y ≠ 0) := fun x y => by
  unfold qQz
  by_cases e : x = 0
  ·by_cases g : y = 0 <;> simp [e, g]
  ·by_cases g : y = 0 <;> simp [e, g]
 simp only [hz, hb]
 refine ⟨fun y m => m = (n0 - y).toNat ∧ ∀ j, 0 ≤ j → j < y → ¬ (rdZ c0 j ≠ 0 ↔ p1 ≠ 0), ⟨_, rfl, fun j j0 j1 => by omega⟩, ?_⟩
 rintro y m ⟨y0, y1⟩ ⟨rfl, hI⟩
 refine ⟨fun hy => ⟨fun h k => k ⟨y, y0, hy, h⟩, fun h => ⟨by omega, _, ?_, rfl, fun j j0 j1 => ?_⟩⟩, fun hy => ?_⟩
 ·omega
 ·by_cases e : j = y
  ·subst e; exact h
  ·exact hI j j0 (by omega)
 ·rintro ⟨j, j0, j1, h⟩
  exact hI j j0 (by omega) h
theorem plain (i v ro p) : statR 2 rc tree ⟨i, fN, v, ro, p⟩ = P (i 0) (i 1) (i 2) (i 3) := by kernel_rfl
theorem ran : ranR us (fun _ _ => .auto) rc 2 tree = true := by kernel_rfl
theorem fineT : fineR 2 rc tree = true := by kernel_rfl
theorem ok : RcOk (cxOf 2) rc := okR us_ok ran fineT okb fun i v ro p hρ hcap hpre => by rw [plain]; have q := hρ.hi; exact holds _ _ _ _ (q 0 _ rfl).1 (q 0 _ rfl).2 (q 1 _ rfl).1 (q 1 _ rfl).2 (hcap _ (mg 0 rfl))
end CSCon
end Go.Proofs.Yteimodjkllldlac
