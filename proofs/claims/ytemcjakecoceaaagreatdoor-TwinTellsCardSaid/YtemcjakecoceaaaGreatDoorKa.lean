/-
  What functions of the program answer, as numbers of what they are handed: their runs by the engine, the plain statements behind them. No condition.
-/
import Derived.Test.YtemcjakecoceaaaGreatDoorGab
import Derived.Test.YtemcjakecoceaaaGreatDoorGib
import Derived.Test.YtemcjakecoceaaaGreatDoorGmT
import Derived.Test.YtemcjakecoceaaaGreatDoorGmH
import Derived.Test.YtemcjakecoceaaaGreatDoorGmC
import Derived.Test.YtemcjakecoceaaaGreatDoorGmE
set_option linter.unusedVariables false
set_option linter.unusedSimpArgs false
set_option maxRecDepth 100000
namespace Go.Proofs.YtemcjakecoceaaaGreatDoor
open Go.Eng Go.RowKit
namespace CICheck
def rc : Rc := ⟨10, [some 5], [.row [.int .u32] 1000000, .row [.int .i32] 1000000, .row [.bool] 1000000, .row [.int .i64] 1000000, .row [.int .i64] 1000000], [], .one, [.int .i64 (.f 84 (.v 0) (.v 1) (listE [(.v 2), (.v 3), (.v 4), (.v 8), (.v 9)]))]⟩
theorem okb : rc.ok = true := by kernel_rfl
noncomputable def us : SMs := fun Γ ins n => smH (cxG n Γ ins) [] (smAnd 36 (libSort Γ ins n) (smAnd 24 (libComp Γ ins n) (smR (cxG n Γ ins) [])))
theorem us_ok : SMsOk us := fun Γ ins n => smH_ok (tabsG n Γ ins) (rhs_nil _) (smAnd_ok (libSort_ok Γ ins n) (smAnd_ok (libComp_ok Γ ins n) (smR_ok (tabsG n Γ ins) (rcs_nil _))))
def Q0 : E := (.cl 1000 0 4611686018427387904)
def Q1 : E := (.cl 1002 0 1000000)
def Q2 : E := (tp Q1 (.c 1))
def Q3 : E := (tl Q2 (.c 1000000))
def Q4 : E := (tp Q0 (.c 1))
def Q5 : E := (.cl 1006 0 4611686018427387904)
def Q6 : E := (tR (.v 8) Q5)
def Q7 : E := (t6 Q6)
def Q8 : E := (tp Q5 (.c 1))
def Q9 : E := (.cl 1010 0 4611686018427387904)
def Q10 : E := (tR (.v 9) Q9)
def Q11 : E := (t6 Q10)
def Q12 : E := (tp Q9 (.c 1))
def Q13 : E := (.f 42 (.v 1001) Q1 (.c 0))
def Q14 : E := (.f 44 Q13 Q1 (.c 0))
def tree : TT (List E) :=
 (.loop ⟨1000, [some (0, 4611686018427387904), none, some (0, 1000000)], [(.c 0), (.c 0), (.c 0)], 1004⟩ (.br (tk Q0 (.v 3)) (.br Q3 (.br (tl Q4 (.c 4611686018427387904)) (.br Q3 (.back [Q4, (.f 14 (.v 1001) Q1 (t6 (tR (.v 8) Q0))), Q2]) (.bad 303)) (.bad 303)) (.bad 200)) (.exit 0)) (.br (tk (.c 16384) (.v 0)) (.leaf [(.c 5)]) (.br (tk (.c 2048) (.v 1)) (.leaf [(.c 5)]) (.br (tk (.c 255) (.v 3)) (.leaf [(.c 5)]) (.br (tk (.c 255) (.v 4)) (.leaf [(.c 5)]) (.br (tn (.v 2) (.v 1)) (.leaf [(.c 2)]) (.loop ⟨1006, [some (0, 4611686018427387904)], [(.c 0)], 1008⟩ (.br (tk Q5 (.v 3)) (.br (tk Q7 (.c 0)) (.exit 0) (.br (tl (.v 1) Q7) (.exit 1) (.br (tl Q8 (.c 4611686018427387904)) (.back [Q8]) (.bad 303)))) (.exit 2)) (.br (te (.v 1008) (.c 0)) (.leaf [(.c 2)]) (.br (te (.v 1008) (.c 1)) (.leaf
 [(.c 2)]) (.loop ⟨1010, [some (0, 4611686018427387904)], [(.c 0)], 1012⟩ (.br (tk Q9 (.v 4)) (.br (tk Q11 (.c 0)) (.exit 0) (.br (tl (.v 1) Q11) (.exit 1) (.br (tl Q12 (.c 4611686018427387904)) (.back [Q12]) (.bad 303)))) (.exit 2)) (.br (te (.v 1012) (.c 0)) (.leaf [(.c 2)]) (.br (te (.v 1012) (.c 1)) (.leaf [(.c 2)]) (.br (tl (.c 0) Q14) (.br (tn Q14 (.v 3)) (.leaf [(.c 9)]) (.leaf [(.c 0)])) (.bad 200))))))))))))))
noncomputable def sq0 (a b c d e i j : Int) : Int := (chkZ a b (kZ c (kZ d (kZ e (kZ i (kZ j 0))))))
def sq1 (e j a b c d i y1 y2 : Int) : Prop := (∃ I1010 : Int → Nat → Prop, (∃ m, I1010 0 m) ∧ ∀ y10 : Int, ∀ m10, ((0 ≤ y10 ∧ y10 ≤ 4611686018427387904) ∧ True) → I1010 y10 m10 → (Pb (Pl y10 e) (Pb (Pl (W6 (rdZ j y10)) 0) (Pb (Pe (0 : Int) 0) ((2 : Int) = (sq0 a b c d e i j) ∧ True) (Pb (Pe (0 : Int) 1) ((2 : Int) = (sq0 a b c d e i j) ∧ True) (Pm (PL 0 (compN (sortC y1 y2) y2)) (Pb (Pd (compN (sortC y1 y2) y2) d) ((9 : Int) = (sq0 a b c d e i j) ∧ True) ((0 : Int) = (sq0 a b c d e i j) ∧ True))))) (Pb (PL b (W6 (rdZ j y10))) (Pb (Pe (1 : Int) 0) ((2 : Int) = (sq0 a b c d e i j) ∧ True) (Pb (Pe (1 : Int) 1) ((2 : Int) = (sq0 a b c d e i j) ∧ True) (Pm (PL 0 (compN (sortC y1 y2) y2)) (Pb (Pd (compN (sortC y1 y2) y2) d) ((9 : Int) = (sq0 a b c d e i j) ∧ True) ((0 : Int) = (sq0 a b c d e i
 j) ∧ True))))) (Pm (PL (y10 + 1) 4611686018427387904) (∃ m', m' < m10 ∧ I1010 (y10 + 1) m')))) (Pb (Pe (2 : Int) 0) ((2 : Int) = (sq0 a b c d e i j) ∧ True) (Pb (Pe (2 : Int) 1) ((2 : Int) = (sq0 a b c d e i j) ∧ True) (Pm (PL 0 (compN (sortC y1 y2) y2)) (Pb (Pd (compN (sortC y1 y2) y2) d) ((9 : Int) = (sq0 a b c d e i j) ∧ True) ((0 : Int) = (sq0 a b c d e i j) ∧ True)))))))
def P (a b c d e f g h i j k l n o p : Int) : Prop :=
 ∃ I1000 : Int → Int → Int → Nat → Prop, (∃ m, I1000 0 0 0 m) ∧ ∀ y0 y1 y2 : Int, ∀ m0, ((0 ≤ y0 ∧ y0 ≤ 4611686018427387904) ∧ True ∧ (0 ≤ y2 ∧ y2 ≤ 1000000) ∧ True) → I1000 y0 y1 y2 m0 → (Pb (Pl y0 d) (Pm (PL (y2 + 1) 1000000) (Pm (PL (y0 + 1) 4611686018427387904) (Pm (PL (y2 + 1) 1000000) (∃ m', m' < m0 ∧ I1000 (y0 + 1) (updZ y1 y2 (W6 (rdZ i y0))) (y2 + 1) m')))) (Pb (Pl 16384 a) ((5 : Int) = (sq0 a b c d e i j) ∧ True) (Pb (Pl 2048 b) ((5 : Int) = (sq0 a b c d e i j) ∧ True) (Pb (Pl 255 d) ((5 : Int) = (sq0 a b c d e i j) ∧ True) (Pb (Pl 255 e) ((5 : Int) = (sq0 a b c d e i j) ∧ True) (Pb (Pd c b) ((2 : Int) = (sq0 a b c d e i j) ∧ True) (∃ I1006 : Int → Nat → Prop, (∃ m, I1006 0 m) ∧ ∀ y6 : Int, ∀ m6, ((0 ≤ y6 ∧ y6 ≤ 4611686018427387904) ∧ True) → I1006 y6 m6 → (Pb (Pl y6 d) (Pb (Pl
 (W6 (rdZ i y6)) 0) (Pb (Pe (0 : Int) 0) ((2 : Int) = (sq0 a b c d e i j) ∧ True) (Pb (Pe (0 : Int) 1) ((2 : Int) = (sq0 a b c d e i j) ∧ True) (sq1 e j a b c d i y1 y2))) (Pb (PL b (W6 (rdZ i y6))) (Pb (Pe (1 : Int) 0) ((2 : Int) = (sq0 a b c d e i j) ∧ True) (Pb (Pe (1 : Int) 1) ((2 : Int) = (sq0 a b c d e i j) ∧ True) (sq1 e j a b c d i y1 y2))) (Pm (PL (y6 + 1) 4611686018427387904) (∃ m', m' < m6 ∧ I1006 (y6 + 1) m')))) (Pb (Pe (2 : Int) 0) ((2 : Int) = (sq0 a b c d e i j) ∧ True) (Pb (Pe (2 : Int) 1) ((2 : Int) = (sq0 a b c d e i j) ∧ True) (sq1 e j a b c d i y1 y2)))))))))))
theorem holds (n0_0 n0_1 n0_2 n0_3 n0_4 c0_0 c0_1 c0_2 c0_3 c0_4 r0_0 r0_1 r0_2 r0_3 r0_4 : Int) (l_n0_0 : 0 ≤ n0_0) (u_n0_0 : n0_0 ≤ 1000000) (l_n0_1 : 0 ≤ n0_1) (u_n0_1 : n0_1 ≤ 1000000) (l_n0_2 : 0 ≤ n0_2) (u_n0_2 : n0_2 ≤ 1000000) (l_n0_3 : 0 ≤ n0_3) (u_n0_3 : n0_3 ≤ 1000000) (l_n0_4 : 0 ≤ n0_4) (u_n0_4 : n0_4 ≤ 1000000) (h_n0_0 : n0_0 ≤ r0_0) (h_n0_1 : n0_1 ≤ r0_1) (h_n0_2 : n0_2 ≤ r0_2) (h_n0_3 : n0_3 ≤ r0_3) (h_n0_4 : n0_4 ≤ r0_4) : P n0_0 n0_1 n0_2 n0_3 n0_4 c0_0 c0_1 c0_2 c0_3 c0_4 r0_0 r0_1 r0_2 r0_3 r0_4 := by
 delta P sq0 sq1 Pb Pm PL Pl Pe Pd W6 kZ
 simp only [nrm, nro, Int.reduceEq, Int.reduceNeg, reduceIte]
 simp only [chk_ev]
 refine ⟨fun i q n m => n = i ∧ i ≤ n0_3 ∧ (∀ k : Nat, (k : Int) < i → IntKind.wrap .i64 (rdZ q k) = IntKind.wrap .i64 (rdZ c0_3 k)) ∧ m = (n0_3 - i).toNat, ⟨_, rfl, l_n0_3, fun k hk => by omega, rfl⟩, fun i q n m hb hI => ?_⟩
 obtain ⟨rfl, hi, hq, rfl⟩ := hI
 refine ⟨fun h => ⟨by omega, by omega, by omega, _, ?_, rfl, by omega, ?_, rfl⟩, fun h => ?_⟩
 ·omega
 ·intro k hk
  rw [rdZ_upd]
  by_cases e : (k : Int) = n
  ·rw [if_pos (by omega), ← e, Go.Eng.wrap_wrap _ _ _ (Nat.le_refl _)]
  ·rw [if_neg (by omega), hq k (by omega)]
 refine ⟨fun h1 => chk_long (.inl h1), fun h1 => ⟨fun h2 => chk_long (.inr (.inl h2)), fun h2 => ⟨fun h3 => chk_long (.inr (.inr (.inl h3))), fun h3 => ⟨fun h4 => chk_long (.inr (.inr (.inr h4))), fun h4 => ?_⟩⟩⟩⟩
 have hl : ¬ (16384 < n0_0 ∨ 2048 < n0_1 ∨ 255 < n0_3 ∨ 255 < n0_4) := by omega
 refine ⟨fun h5 => chk_arg hl (.inl h5), fun h5 => ?_⟩
 refine ⟨fun i m => adP c0_3 i n0_1 ∧ i ≤ n0_3 ∧ m = (n0_3 - i).toNat, ⟨_, ad_nil, l_n0_3, rfl⟩, fun i m hb1 hI => ?_⟩
 obtain ⟨hA, hi1, rfl⟩ := hI
 refine ⟨fun g => ⟨fun g1 => chk_arg hl (.inr (.inl (ad_no hb1.1 g (.inl g1)))), fun g1 => ⟨fun g2 => chk_arg hl (.inr (.inl (ad_no hb1.1 g (.inr g2)))), fun g2 => ⟨by omega, _, ?_, ad_snoc hb1.1 hA g1 g2, by omega, rfl⟩⟩⟩, fun g => ?_⟩
 ·omega
 rw [show i = n0_3 by omega] at hA
 refine ⟨fun i m => adP c0_4 i n0_1 ∧ i ≤ n0_4 ∧ m = (n0_4 - i).toNat, ⟨_, ad_nil, l_n0_4, rfl⟩, fun i m hb2 hI => ?_⟩
 obtain ⟨hB, hi2, rfl⟩ := hI
 refine ⟨fun g => ⟨fun g1 => chk_arg hl (.inr (.inr (ad_no hb2.1 g (.inl g1)))), fun g1 => ⟨fun g2 => chk_arg hl (.inr (.inr (ad_no hb2.1 g (.inr g2)))), fun g2 => ⟨by omega, _, ?_, ad_snoc hb2.1 hB g1 g2, by omega, rfl⟩⟩⟩, fun g => ?_⟩
 ·omega
 rw [show i = n0_4 by omega] at hB
 have hn : n = n0_3 := by omega
 rw [hn] at hq ⊢
 have hT := comp_twice (q := q) (c := c0_3) l_n0_3 (by
  unfold rowL
  exact List.map_congr_left fun k hk => hq k (by have := List.mem_range.1 hk; omega))
 refine ⟨by unfold compN; omega, fun g => chk_twice hl h5 hA hB (Classical.byContradiction fun e => g (hT.2 e)), fun g => chk_ok hl h5 hA hB (hT.1 g)⟩
theorem plain (i v ro p) : statR 2 rc tree ⟨i, fN, v, ro, p⟩ = P (i 0) (i 1) (i 2) (i 3) (i 4) (i 5) (i 6) (i 7) (i 8) (i 9) (i 10) (i 11) (i 12) (i 13) (i 14) := by kernel_rfl
theorem ran : ranR us (fun _ _ => .auto) rc 2 tree = true := by kernel_rfl
theorem fineT : fineR 2 rc tree = true := by kernel_rfl
theorem ok : RcOk (cxOf 2) rc := okR us_ok ran fineT okb fun i v ro p hρ hcap hpre => by rw [plain]; have q := hρ.hi; exact holds (i 0) (i 1) (i 2) (i 3) (i 4) (i 5) (i 6) (i 7) (i 8) (i 9) (i 10) (i 11) (i 12) (i 13) (i 14) (q 0 _ rfl).1 (q 0 _ rfl).2 (q 1 _ rfl).1 (q 1 _ rfl).2 (q 2 _ rfl).1 (q 2 _ rfl).2 (q 3 _ rfl).1 (q 3 _ rfl).2 (q 4 _ rfl).1 (q 4 _ rfl).2 (hcap _ (mg 0 rfl)) (hcap _ (mg 1 rfl)) (hcap _ (mg 2 rfl)) (hcap _ (mg 3 rfl)) (hcap _ (mg 4 rfl))
end CICheck
namespace CCDec
def rc : Rc := ⟨40, [none], [.int .u32], [], .tup [some 5, none], [.int .i64 (.f 67 (.v 0) (.c 0) (.c 0)), .int .i64 (.f 67 (.v 0) (.c 1) (.c 0)), .int .i64 (.f 67 (.v 0) (.c 2) (.c 0)), .int .i64 (.f 67 (.v 0) (.c 3) (.c 0)), .int .i64 (.f 67 (.v 0) (.c 4) (.c 0)), .int .i64 (.f 67 (.v 0) (.c 5) (.c 0))]⟩
theorem okb : rc.ok = true := by kernel_rfl
noncomputable def us : SMs := fun Γ ins n => smH (cxG n Γ ins) [] (smR (cxG n Γ ins) [])
theorem us_ok : SMsOk us := fun Γ ins n => smH_ok (tabsG n Γ ins) (rhs_nil _) (smR_ok (tabsG n Γ ins) (rcs_nil _))
def Q0 : E := (.b .shr .u32 (.v 0) (.c 26))
def Q1 : E := (.b .shr .u32 (.v 0) (.c 21))
def Q2 : E := (.b .and .u32 Q1 (.c 31))
def Q3 : E := (.b .and .u32 Q2 (.c 31))
def Q4 : E := (.b .shl .u32 Q0 (.c 26))
def Q5 : E := (.b .shl .u32 (.cl 1000 0 31) (.c 21))
def Q6 : E := (.b .or .u32 Q4 Q5)
def Q7 : E := (.b .shr .u32 (.v 0) (.c 16))
def Q8 : E := (.b .and .u32 Q7 (.c 31))
def Q9 : E := (.b .and .u32 Q8 (.c 31))
def Q10 : E := (.b .shr .u32 (.v 0) (.c 11))
def Q11 : E := (.b .and .u32 Q10 (.c 31))
def Q12 : E := (.cl 1001 0 4294967295)
def Q13 : E := (.b .shl .u32 (.cl 1002 0 31) (.c 16))
def Q14 : E := (.b .or .u32 Q12 Q13)
def Q15 : E := (.b .or .u32 Q14 (.c 0))
def Q16 : E := (.cl 1003 0 4294967295)
def Q17 : E := (.b .shr .u32 (.v 0) (.c 0))
def Q18 : E := (.b .and .u32 Q17 (.c 65535))
def Q19 : E := (.w .i16 Q18)
def Q20 : E := (.b .and .u32 Q18 (.c 65535))
def Q21 : E := (.b .or .u32 Q12 (.c 0))
def Q22 : E := (.b .or .u32 Q21 (.c 0))
def Q23 : E := (.b .shl .u32 (.cl 1002 0 65535) (.c 0))
def Q24 : E := (.b .or .u32 Q22 Q23)
def Q25 : E := (tn Q16 (.v 0))
def Q26 : E := (.b .or .u32 Q4 (.c 0))
def Q27 : E := (.cl 1000 0 4294967295)
def Q28 : E := (.b .or .u32 Q27 (.c 0))
def Q29 : E := (.b .or .u32 Q28 (.c 0))
def tree : TT (List E) :=
 (.br (tl (.c 1) Q0) (.br (.nt (tl Q0 (.c 43))) (.leaf [(.c 0), (.c 0), (.c 0), (.c 0), (.c 0), (.c 2)]) (.br (tl Q0 (.c 23)) (.new 1000 Q3 (.new 1001 Q6 (.new 1002 Q9 (.new 1003 (.b .and .u32 Q11 (.c 31)) (.new 1004 (.b .or .u32 Q14 (.b .shl .u32 (.cl 1003 0 31) (.c 11))) (.br (tn (.b .or .u32 (.cl 1004 0 4294967295) (.c 0)) (.v 0)) (.leaf [(.c 0), (.c 0), (.c 0), (.c 0), (.c 0), (.c 3)]) (.leaf [Q0, Q2, Q8, Q11, (.c 0), (.c 0)]))))))) (.br (tl Q0 (.c 30)) (.new 1000 Q3 (.new 1001 Q6 (.new 1002 Q9 (.new 1003 Q15 (.br (tn (.b .or .u32 Q16 (.c 0)) (.v 0)) (.leaf [(.c 0), (.c 0), (.c 0), (.c 0), (.c 0), (.c 3)]) (.leaf [Q0, Q2, Q8, (.c 0), (.c 0), (.c 0)])))))) (.br (te Q0 (.c 31)) (.new 1000 Q3 (.new 1001 Q6 (.new 1002 Q9 (.new 1003 Q15 (.new 1004 Q19 (.new 1005 (.b .shl .u32 (.b .and .u32
 (.w .u32 (.cl 1004 (-32768) 32767)) (.c 65535)) (.c 0)) (.br (tn (.b .or .u32 Q16 (.cl 1005 0 65535)) (.v 0)) (.leaf [(.c 0), (.c 0), (.c 0), (.c 0), (.c 0), (.c 3)]) (.leaf [Q0, Q2, Q8, (.c 0), Q19, (.c 0)])))))))) (.br (te Q0 (.c 33)) (.new 1000 Q3 (.new 1001 Q6 (.new 1002 Q20 (.new 1003 Q24 (.br Q25 (.leaf [(.c 0), (.c 0), (.c 0), (.c 0), (.c 0), (.c 3)]) (.leaf [Q0, Q2, (.c 0), (.c 0), Q18, (.c 0)])))))) (.br (te Q0 (.c 40)) (.new 1000 Q3 (.new 1001 Q6 (.new 1002 Q20 (.new 1003 Q24 (.br Q25 (.leaf [(.c 0), (.c 0), (.c 0), (.c 0), (.c 0), (.c 3)]) (.leaf [Q0, Q2, (.c 0), (.c 0), Q18, (.c 0)])))))) (.br (tk Q0 (.c 39)) (.new 1000 Q3 (.new 1001 Q6 (.new 1002 Q9 (.new 1003 Q15 (.new 1004 Q20 (.br (tn (.b .or .u32 Q16 (.b .shl .u32 (.cl 1004 0 65535) (.c 0))) (.v 0)) (.leaf [(.c 0), (.c
 0), (.c 0), (.c 0), (.c 0), (.c 3)]) (.leaf [Q0, Q2, Q8, (.c 0), Q18, (.c 0)]))))))) (.br (te Q0 (.c 39)) (.new 1000 Q26 (.new 1001 Q20 (.new 1002 (.b .or .u32 Q29 (.b .shl .u32 (.cl 1001 0 65535) (.c 0))) (.br (tn (.cl 1002 0 4294967295) (.v 0)) (.leaf [(.c 0), (.c 0), (.c 0), (.c 0), (.c 0), (.c 3)]) (.leaf [Q0, (.c 0), (.c 0), (.c 0), Q18, (.c 0)]))))) (.br (te Q0 (.c 41)) (.new 1000 Q26 (.new 1001 Q9 (.new 1002 (.b .or .u32 (.b .or .u32 Q27 (.b .shl .u32 (.cl 1001 0 31) (.c 16))) (.c 0)) (.br (tn (.b .or .u32 (.cl 1002 0 4294967295) (.c 0)) (.v 0)) (.leaf [(.c 0), (.c 0), (.c 0), (.c 0), (.c 0), (.c 3)]) (.leaf [Q0, (.c 0), Q8, (.c 0), (.c 0), (.c 0)]))))) (.new 1000 Q26 (.new 1001 (.b .or .u32 Q29 (.c 0)) (.br (tn Q12 (.v 0)) (.leaf [(.c 0), (.c 0), (.c 0), (.c 0), (.c 0), (.c 3)])
 (.leaf [Q0, (.c 0), (.c 0), (.c 0), (.c 0), (.c 0)]))))))))))))) (.leaf [(.c 0), (.c 0), (.c 0), (.c 0), (.c 0), (.c 2)]))
noncomputable def sq0 (a y0 : Int) : Int := (bor .u32 (shlZ .u32 (shrZ .u32 a 26) 26) (shlZ .u32 y0 21))
def sL0 (a z0 z2 z4 z6 z8 z10 : Int) : Prop := (z0 : Int) = (decZ a 0) ∧ (z2 : Int) = (decZ a 1) ∧ (z4 : Int) = (decZ a 2) ∧ (z6 : Int) = (decZ a 3) ∧ (z8 : Int) = (decZ a 4) ∧ (z10 : Int) = (decZ a 5) ∧ True
def sq1 (a : Int) : Prop := (Pn (band .u32 (band .u32 (shrZ .u32 a 21) 31) 31) 0 31 fun y0 => Pn (sq0 a y0) 0 4294967295 fun y1 => Pn (band .u32 (band .u32 (shrZ .u32 a 0) 65535) 65535) 0 65535 fun y2 => Pn (bor .u32 (bor .u32 (bor .u32 y1 0) 0) (shlZ .u32 y2 0)) 0 4294967295 fun y3 => (Pb (Pd y3 a) (sL0 a 0 0 0 0 0 3) (sL0 a (shrZ .u32 a 26) (band .u32 (shrZ .u32 a 21) 31) 0 0 (band .u32 (shrZ .u32 a 0) 65535) 0)))
def P (a : Int) : Prop :=
 (Pb (PL 1 (shrZ .u32 a 26)) (Pb (Pe (PL (shrZ .u32 a 26) 43) 0) (sL0 a 0 0 0 0 0 2) (Pb (PL (shrZ .u32 a 26) 23) (Pn (band .u32 (band .u32 (shrZ .u32 a 21) 31) 31) 0 31 fun y0 => Pn (sq0 a y0) 0 4294967295 fun y1 => Pn (band .u32 (band .u32 (shrZ .u32 a 16) 31) 31) 0 31 fun y2 => Pn (band .u32 (band .u32 (shrZ .u32 a 11) 31) 31) 0 31 fun y3 => Pn (bor .u32 (bor .u32 y1 (shlZ .u32 y2 16)) (shlZ .u32 y3 11)) 0 4294967295 fun y4 => (Pb (Pd (bor .u32 y4 0) a) (sL0 a 0 0 0 0 0 3) (sL0 a (shrZ .u32 a 26) (band .u32 (shrZ .u32 a 21) 31) (band .u32 (shrZ .u32 a 16) 31) (band .u32 (shrZ .u32 a 11) 31) 0 0))) (Pb (PL (shrZ .u32 a 26) 30) (Pn (band .u32 (band .u32 (shrZ .u32 a 21) 31) 31) 0 31 fun y0 => Pn (sq0 a y0) 0 4294967295 fun y1 => Pn (band .u32 (band .u32 (shrZ .u32 a 16) 31) 31) 0 31 fun
 y2 => Pn (bor .u32 (bor .u32 y1 (shlZ .u32 y2 16)) 0) 0 4294967295 fun y3 => (Pb (Pd (bor .u32 y3 0) a) (sL0 a 0 0 0 0 0 3) (sL0 a (shrZ .u32 a 26) (band .u32 (shrZ .u32 a 21) 31) (band .u32 (shrZ .u32 a 16) 31) 0 0 0))) (Pb (Pe (shrZ .u32 a 26) 31) (Pn (band .u32 (band .u32 (shrZ .u32 a 21) 31) 31) 0 31 fun y0 => Pn (sq0 a y0) 0 4294967295 fun y1 => Pn (band .u32 (band .u32 (shrZ .u32 a 16) 31) 31) 0 31 fun y2 => Pn (bor .u32 (bor .u32 y1 (shlZ .u32 y2 16)) 0) 0 4294967295 fun y3 => Pn (IntKind.wrap .i16 (band .u32 (shrZ .u32 a 0) 65535)) (-32768) 32767 fun y4 => Pn (shlZ .u32 (band .u32 (U3 y4) 65535) 0) 0 65535 fun y5 => (Pb (Pd (bor .u32 y3 y5) a) (sL0 a 0 0 0 0 0 3) (sL0 a (shrZ .u32 a 26) (band .u32 (shrZ .u32 a 21) 31) (band .u32 (shrZ .u32 a 16) 31) 0 (IntKind.wrap .i16 (band
 .u32 (shrZ .u32 a 0) 65535)) 0))) (Pb (Pe (shrZ .u32 a 26) 33) (sq1 a) (Pb (Pe (shrZ .u32 a 26) 40) (sq1 a) (Pb (Pl (shrZ .u32 a 26) 39) (Pn (band .u32 (band .u32 (shrZ .u32 a 21) 31) 31) 0 31 fun y0 => Pn (sq0 a y0) 0 4294967295 fun y1 => Pn (band .u32 (band .u32 (shrZ .u32 a 16) 31) 31) 0 31 fun y2 => Pn (bor .u32 (bor .u32 y1 (shlZ .u32 y2 16)) 0) 0 4294967295 fun y3 => Pn (band .u32 (band .u32 (shrZ .u32 a 0) 65535) 65535) 0 65535 fun y4 => (Pb (Pd (bor .u32 y3 (shlZ .u32 y4 0)) a) (sL0 a 0 0 0 0 0 3) (sL0 a (shrZ .u32 a 26) (band .u32 (shrZ .u32 a 21) 31) (band .u32 (shrZ .u32 a 16) 31) 0 (band .u32 (shrZ .u32 a 0) 65535) 0))) (Pb (Pe (shrZ .u32 a 26) 39) (Pn (bor .u32 (shlZ .u32 (shrZ .u32 a 26) 26) 0) 0 4294967295 fun y0 => Pn (band .u32 (band .u32 (shrZ .u32 a 0) 65535) 65535) 0
 65535 fun y1 => Pn (bor .u32 (bor .u32 (bor .u32 y0 0) 0) (shlZ .u32 y1 0)) 0 4294967295 fun y2 => (Pb (Pd y2 a) (sL0 a 0 0 0 0 0 3) (sL0 a (shrZ .u32 a 26) 0 0 0 (band .u32 (shrZ .u32 a 0) 65535) 0))) (Pb (Pe (shrZ .u32 a 26) 41) (Pn (bor .u32 (shlZ .u32 (shrZ .u32 a 26) 26) 0) 0 4294967295 fun y0 => Pn (band .u32 (band .u32 (shrZ .u32 a 16) 31) 31) 0 31 fun y1 => Pn (bor .u32 (bor .u32 y0 (shlZ .u32 y1 16)) 0) 0 4294967295 fun y2 => (Pb (Pd (bor .u32 y2 0) a) (sL0 a 0 0 0 0 0 3) (sL0 a (shrZ .u32 a 26) 0 (band .u32 (shrZ .u32 a 16) 31) 0 0 0))) (Pn (bor .u32 (shlZ .u32 (shrZ .u32 a 26) 26) 0) 0 4294967295 fun y0 => Pn (bor .u32 (bor .u32 (bor .u32 y0 0) 0) 0) 0 4294967295 fun y1 => (Pb (Pd y1 a) (sL0 a 0 0 0 0 0 3) (sL0 a (shrZ .u32 a 26) 0 0 0 0 0)))))))))))) (sL0 a 0 0 0 0 0 2))
theorem wi16 (x : Int) : IntKind.wrap .i16 x = (x + 32768) % 65536 - 32768 := by
 simp [IntKind.wrap, IntKind.bits, IntKind.signed] <;> (try split) <;> omega
set_option maxHeartbeats 4000000 in
theorem holds (p0 : Int) (l_p0 : 0 ≤ p0) (u_p0 : p0 ≤ 4294967295) : P p0 := by
 delta P sq0 sq1 sL0 Pb Pn PL Pl Pe Pd U3
 simp only [sh26, sh21, sh16, sh11, sh0, sl26, sl21, sl16, sl11, sl0, ba31, ba16, wi16, wu32]
 simp only [nrm, Int.reduceEq, Int.reduceNeg, reduceIte]
 refine ⟨fun c1 => ⟨fun c2 => dec_no2 l_p0 u_p0 (by omega), fun c2 => ?_⟩, fun c1 => dec_no2 l_p0 u_p0 (by omega)⟩
 refine ⟨fun d0 => ?_, fun d0 => ?_⟩
 ·skip
  intro y0 hy0 by0 y1 hy1 by1 y2 hy2 by2 y3 hy3 by3 y4 hy4 by4
  have ey1 : y1 = p0 / 67108864 * 67108864 + y0 * 2097152 := by rw [hy1, or21 (h := p0 / 67108864 * 67108864 % 4294967296) (by omega) (by omega) (by omega) (by omega) (by omega)] <;> omega
  have ey4 : y4 = y1 + y2 * 65536 + y3 * 2048 := by rw [hy4, or16 (h := y1) (by omega) (by omega) (by omega) (by omega) (by omega), or11 (h := y1 + y2 * 65536 % 4294967296) (by omega) (by omega) (by omega) (by omega) (by omega)] <;> omega
  rw [or_0 (h := y4) (by omega) (by omega)]
  refine ⟨fun hne => dec_no3 l_p0 u_p0 (by omega) (by unfold decP; simp only; omega), fun heq => dec_fit l_p0 u_p0 (by unfold decP; simp only; omega) (by omega) (by omega) (by omega) (by split <;> omega) (by unfold decN; simp only; split <;> (try split) <;> omega)⟩
 refine ⟨fun d1 => ?_, fun d1 => ?_⟩
 ·skip
  intro y0 hy0 by0 y1 hy1 by1 y2 hy2 by2 y3 hy3 by3
  have ey1 : y1 = p0 / 67108864 * 67108864 + y0 * 2097152 := by rw [hy1, or21 (h := p0 / 67108864 * 67108864 % 4294967296) (by omega) (by omega) (by omega) (by omega) (by omega)] <;> omega
  have ey3 : y3 = y1 + y2 * 65536 := by rw [hy3, or16 (h := y1) (by omega) (by omega) (by omega) (by omega) (by omega), or_0 (h := y1 + y2 * 65536 % 4294967296) (by omega) (by omega)] <;> omega
  rw [or_0 (h := y3) (by omega) (by omega)]
  refine ⟨fun hne => dec_no3 l_p0 u_p0 (by omega) (by unfold decP; simp only; omega), fun heq => dec_fit l_p0 u_p0 (by unfold decP; simp only; omega) (by omega) (by omega) (by omega) (by split <;> omega) (by unfold decN; simp only; split <;> (try split) <;> omega)⟩
 refine ⟨fun d2 => ?_, fun d2 => ?_⟩
 ·skip
  intro y0 hy0 by0 y1 hy1 by1 y2 hy2 by2 y3 hy3 by3 y4 hy4 by4 y5 hy5 by5
  have ey1 : y1 = p0 / 67108864 * 67108864 + y0 * 2097152 := by rw [hy1, or21 (h := p0 / 67108864 * 67108864 % 4294967296) (by omega) (by omega) (by omega) (by omega) (by omega)] <;> omega
  have ey3 : y3 = y1 + y2 * 65536 := by rw [hy3, or16 (h := y1) (by omega) (by omega) (by omega) (by omega) (by omega), or_0 (h := y1 + y2 * 65536 % 4294967296) (by omega) (by omega)] <;> omega
  rw [or11 (h := y3) (by omega) (by omega) (by omega) (by omega) (by omega)]
  refine ⟨fun hne => dec_no3 l_p0 u_p0 (by omega) (by unfold decP; simp only; omega), fun heq => dec_fit l_p0 u_p0 (by unfold decP; simp only; omega) (by omega) (by omega) (by omega) (by split <;> omega) (by unfold decN; simp only; split <;> (try split) <;> omega)⟩
 refine ⟨fun d3 => ?_, fun d3 => ?_⟩
 ·skip
  intro y0 hy0 by0 y1 hy1 by1 y2 hy2 by2 y3 hy3 by3
  have ey1 : y1 = p0 / 67108864 * 67108864 + y0 * 2097152 := by rw [hy1, or21 (h := p0 / 67108864 * 67108864 % 4294967296) (by omega) (by omega) (by omega) (by omega) (by omega)] <;> omega
  have ey3 : y3 = y1 + y2 := by rw [hy3, or_0 (h := y1) (by omega) (by omega), or_0 (h := y1) (by omega) (by omega), or11 (h := y1) (by omega) (by omega) (by omega) (by omega) (by omega)] <;> omega
  refine ⟨fun hne => dec_no3 l_p0 u_p0 (by omega) (by unfold decP; simp only; omega), fun heq => dec_fit l_p0 u_p0 (by unfold decP; simp only; omega) (by omega) (by omega) (by omega) (by split <;> omega) (by unfold decN; simp only; split <;> (try split) <;> omega)⟩
 refine ⟨fun d4 => ?_, fun d4 => ?_⟩
 ·skip
  intro y0 hy0 by0 y1 hy1 by1 y2 hy2 by2 y3 hy3 by3
  have ey1 : y1 = p0 / 67108864 * 67108864 + y0 * 2097152 := by rw [hy1, or21 (h := p0 / 67108864 * 67108864 % 4294967296) (by omega) (by omega) (by omega) (by omega) (by omega)] <;> omega
  have ey3 : y3 = y1 + y2 := by rw [hy3, or_0 (h := y1) (by omega) (by omega), or_0 (h := y1) (by omega) (by omega), or11 (h := y1) (by omega) (by omega) (by omega) (by omega) (by omega)] <;> omega
  refine ⟨fun hne => dec_no3 l_p0 u_p0 (by omega) (by unfold decP; simp only; omega), fun heq => dec_fit l_p0 u_p0 (by unfold decP; simp only; omega) (by omega) (by omega) (by omega) (by split <;> omega) (by unfold decN; simp only; split <;> (try split) <;> omega)⟩
 refine ⟨fun d5 => ?_, fun d5 => ?_⟩
 ·skip
  intro y0 hy0 by0 y1 hy1 by1 y2 hy2 by2 y3 hy3 by3 y4 hy4 by4
  have ey1 : y1 = p0 / 67108864 * 67108864 + y0 * 2097152 := by rw [hy1, or21 (h := p0 / 67108864 * 67108864 % 4294967296) (by omega) (by omega) (by omega) (by omega) (by omega)] <;> omega
  have ey3 : y3 = y1 + y2 * 65536 := by rw [hy3, or16 (h := y1) (by omega) (by omega) (by omega) (by omega) (by omega), or_0 (h := y1 + y2 * 65536 % 4294967296) (by omega) (by omega)] <;> omega
  rw [or11 (h := y3) (by omega) (by omega) (by omega) (by omega) (by omega)]
  refine ⟨fun hne => dec_no3 l_p0 u_p0 (by omega) (by unfold decP; simp only; omega), fun heq => dec_fit l_p0 u_p0 (by unfold decP; simp only; omega) (by omega) (by omega) (by omega) (by split <;> omega) (by unfold decN; simp only; split <;> (try split) <;> omega)⟩
 refine ⟨fun d6 => ?_, fun d6 => ?_⟩
 ·skip
  intro y0 hy0 by0 y1 hy1 by1 y2 hy2 by2
  have ey0 : y0 = p0 / 67108864 * 67108864 := by rw [hy0, or_0 (h := p0 / 67108864 * 67108864 % 4294967296) (by omega) (by omega)] <;> omega
  have ey2 : y2 = y0 + y1 := by rw [hy2, or_0 (h := y0) (by omega) (by omega), or_0 (h := y0) (by omega) (by omega), or11 (h := y0) (by omega) (by omega) (by omega) (by omega) (by omega)] <;> omega
  refine ⟨fun hne => dec_no3 l_p0 u_p0 (by omega) (by unfold decP; simp only; omega), fun heq => dec_fit l_p0 u_p0 (by unfold decP; simp only; omega) (by omega) (by omega) (by omega) (by split <;> omega) (by unfold decN; simp only; split <;> (try split) <;> omega)⟩
 refine ⟨fun d7 => ?_, fun d7 => ?_⟩
 ·skip
  intro y0 hy0 by0 y1 hy1 by1 y2 hy2 by2
  have ey0 : y0 = p0 / 67108864 * 67108864 := by rw [hy0, or_0 (h := p0 / 67108864 * 67108864 % 4294967296) (by omega) (by omega)] <;> omega
  have ey2 : y2 = y0 + y1 * 65536 := by rw [hy2, or16 (h := y0) (by omega) (by omega) (by omega) (by omega) (by omega), or_0 (h := y0 + y1 * 65536 % 4294967296) (by omega) (by omega)] <;> omega
  rw [or_0 (h := y2) (by omega) (by omega)]
  refine ⟨fun hne => dec_no3 l_p0 u_p0 (by omega) (by unfold decP; simp only; omega), fun heq => dec_fit l_p0 u_p0 (by unfold decP; simp only; omega) (by omega) (by omega) (by omega) (by split <;> omega) (by unfold decN; simp only; split <;> (try split) <;> omega)⟩
 intro y0 hy0 by0 y1 hy1 by1
 have ey0 : y0 = p0 / 67108864 * 67108864 := by rw [hy0, or_0 (h := p0 / 67108864 * 67108864 % 4294967296) (by omega) (by omega)] <;> omega
 have ey1 : y1 = y0 := by rw [hy1, or_0 (h := y0) (by omega) (by omega), or_0 (h := y0) (by omega) (by omega), or_0 (h := y0) (by omega) (by omega)] <;> omega
 refine ⟨fun hne => dec_no3 l_p0 u_p0 (by omega) (by unfold decP; simp only; omega), fun heq => dec_fit l_p0 u_p0 (by unfold decP; simp only; omega) (by omega) (by omega) (by omega) (by split <;> omega) (by unfold decN; simp only; split <;> (try split) <;> omega)⟩
theorem plain (i v ro p) : statR 2 rc tree ⟨i, fN, v, ro, p⟩ = P (i 0) := by kernel_rfl
theorem ran : ranR us (fun f _ => if [61].contains f then .unroll 400 else .auto) rc 2 tree = true := by kernel_rfl
theorem fineT : fineR 2 rc tree = true := by kernel_rfl
theorem ok : RcOk (cxOf 2) rc := okR us_ok ran fineT okb fun i v ro p hρ hcap hpre => by rw [plain]; have q := hρ.hi; exact holds (i 0) (q 0 _ rfl).1 (q 0 _ rfl).2
end CCDec
namespace CCNew
def rk : Rk := ⟨26, [(0, 16384), (0, 2048)], 6, [.sl (.inp 0) 1 (.c 0) (.v 0) (some (.v 4)), .sl (.inp 1) 1 (.c 0) (.v 1) (some (.v 5))], [], [], .tup [.ptr 0 0, .int .i64 (.c 0)], [.cells [.ptr 1 0, .sl (.own 2) 6 (.c 0) (.v 1000000) none, .int .i32 (.c 0), .int .i32 (.c 0), .int .i32 (.c 0), .int .i32 (.c 0), .int .i32 (.c 0), .int .i32 (.c 0), .int .i32 (.c 0), .int .i32 (.c 0), .int .i32 (.c 0), .int .i32 (.c 0), .int .i32 (.c 0), .int .i32 (.c 0), .int .i32 (.c 0), .int .i32 (.c 0), .int .i32 (.c 0), .int .i32 (.c 0), .int .i32 (.c 0), .int .i32 (.c 0), .int .i32 (.c 0), .int .i32 (.c 0), .int .i32 (.c 0), .int .i32 (.c 0), .int .i32 (.c 0), .int .i32 (.c 0), .int .i32 (.c 0), .int .i32 (.c 0), .int .i32 (.c 0), .int .i32 (.c 0), .int .i32 (.c 0), .int .i32 (.c 0), .int .i32 (.c 0), .int .i32 (.c 0), .int .i64 (.c 0), .int .i64 (.c 0), .int .i64 (.c 0), .lit (.slice none 0 0)] 80 none, .cells [.sl (.own 3) 1 (.c 0) (.v 1) none, .bool (.c 1)] 102 none, .arr [.int .i64, .int .i64, .int .i64, .int .i64, .int .i64, .bool] 86 (.v 1000001) (.v 1000000), .arr [.int .i32] 21 (.v 1000002) (.v 1)], [.num (.v 0), .code [.int .i64, .int .i64, .int .i64, .int .i64, .int .i64, .bool] (.f 88 (.v 2) (.v 0) (.c 0)) (.v 0), .code [.int .i32] (.v 3) (.v 1)], [⟨[.int .u32], (.v 2), (.v 0), (.v 4), none⟩, ⟨[.int .i32], (.v 3), (.v 1), (.v 5), none⟩]⟩
theorem okk : rk.ok = true := by kernel_rfl
theorem okh : rk.rh.ok = true := by kernel_rfl
noncomputable def us : SMs := fun Γ ins n => smH (cxG n Γ ins) [] (smR (cxG n Γ ins) [CCDec.rc])
theorem us_ok : SMsOk us := fun Γ ins n => smH_ok (tabsG n Γ ins) (rhs_nil _) (smR_ok (tabsG n Γ ins) (rcs_cons CCDec.okb (rc_n CCDec.ok) (rcs_nil _)))
def tree : TT (List E) :=
(.loop ⟨1000, [some (0, 4611686018427387904), none, some (0, 1000000)], [(.c 0), (.c 0), (.c 0)], 1010⟩
 (.br (.b .lt .i64 (.cl 1000 0 4611686018427387904) (.v 0))
 (.new 1004 (.f 67 (.w .u32 (.f 13 (.v 2) (.cl 1000 0 4611686018427387904) (.c 0))) (.c 0) (.c 0))
 (.new 1005 (.f 67 (.w .u32 (.f 13 (.v 2) (.cl 1000 0 4611686018427387904) (.c 0))) (.c 1) (.c 0))
 (.new 1006 (.f 67 (.w .u32 (.f 13 (.v 2) (.cl 1000 0 4611686018427387904) (.c 0))) (.c 2) (.c 0))
 (.new 1007 (.f 67 (.w .u32 (.f 13 (.v 2) (.cl 1000 0 4611686018427387904) (.c 0))) (.c 3) (.c 0))
 (.new 1008 (.f 67 (.w .u32 (.f 13 (.v 2) (.cl 1000 0 4611686018427387904) (.c 0))) (.c 4) (.c 0))
 (.new 1009 (.f 67 (.w .u32 (.f 13 (.v 2) (.cl 1000 0 4611686018427387904) (.c 0))) (.c 5) (.c 0))
 (.br (.b .le .i64 (.b .padd .i64 (.cl 1002 0 1000000) (.c 1)) (.c 1000000))
 (.br (.b .le .i64 (.b .padd .i64 (.cl 1000 0 4611686018427387904) (.c 1)) (.c 4611686018427387904))
 (.br (.b .le .i64 (.b .padd .i64 (.cl 1002 0 1000000) (.c 1)) (.c 1000000))
 (.back [(.b .padd .i64 (.cl 1000 0 4611686018427387904) (.c 1)), (.f 14 (.v 1001) (.cl 1002 0 1000000) (.f 11 (.cl 1004 (-32768) 65535) (.f 11 (.cl 1005 (-32768) 65535) (.f 11 (.cl 1006 (-32768) 65535) (.f 11 (.cl 1007 (-32768) 65535) (.f 11 (.cl 1008 (-32768) 65535) (.f 11 (.b .eq .i64 (.cl 1009 (-32768) 65535) (.c 0)) (.c 0) (.c 0)) (.c 0)) (.c 0)) (.c 0)) (.c 0)) (.c 0))), (.b .padd .i64 (.cl 1002 0 1000000) (.c 1))])
 (.bad 303))
 (.bad 303))
 (.bad 200))))))))
 (.exit 0))
 (.leaf [(.cl 1002 0 1000000), (.v 1001), (.v 3)]))
def P (nc nr wq rm rW rD : Int) : Prop :=
 ∃ I1000 : Int → Int → Int → Nat → Prop, (∃ m, I1000 0 0 0 m) ∧
 ∀ y1000 y1001 y1002 : Int, ∀ m1000, ((0 ≤ y1000 ∧ y1000 ≤ 4611686018427387904) ∧ True ∧ (0 ≤ y1002 ∧ y1002 ≤ 1000000) ∧ True) → I1000 y1000 y1001 y1002 m1000 →
  (((bool01 (decide (y1000 < nc))) ≠ 0 →
   ∀ y1004 : Int, y1004 = (decZ (IntKind.wrap .u32 (rdZ wq y1000)) 0) → ((-32768) ≤ y1004 ∧ y1004 ≤ 65535) →
   ∀ y1005 : Int, y1005 = (decZ (IntKind.wrap .u32 (rdZ wq y1000)) 1) → ((-32768) ≤ y1005 ∧ y1005 ≤ 65535) →
   ∀ y1006 : Int, y1006 = (decZ (IntKind.wrap .u32 (rdZ wq y1000)) 2) → ((-32768) ≤ y1006 ∧ y1006 ≤ 65535) →
   ∀ y1007 : Int, y1007 = (decZ (IntKind.wrap .u32 (rdZ wq y1000)) 3) → ((-32768) ≤ y1007 ∧ y1007 ≤ 65535) →
   ∀ y1008 : Int, y1008 = (decZ (IntKind.wrap .u32 (rdZ wq y1000)) 4) → ((-32768) ≤ y1008 ∧ y1008 ≤ 65535) →
   ∀ y1009 : Int, y1009 = (decZ (IntKind.wrap .u32 (rdZ wq y1000)) 5) → ((-32768) ≤ y1009 ∧ y1009 ≤ 65535) →
   (((bool01 (decide ((y1002 + 1) ≤ 1000000))) ≠ 0 →
    (((bool01 (decide ((y1000 + 1) ≤ 4611686018427387904))) ≠ 0 →
     (((bool01 (decide ((y1002 + 1) ≤ 1000000))) ≠ 0 →
      ∃ m', m' < m1000 ∧ I1000 (y1000 + 1) (updZ y1001 y1002 (consZ y1004 (consZ y1005 (consZ y1006 (consZ y1007 (consZ y1008 (consZ (bool01 (y1009 == 0)) 0))))))) (y1002 + 1) m') ∧ ((bool01 (decide ((y1002 + 1) ≤ 1000000))) = 0 →
      False))) ∧ ((bool01 (decide ((y1000 + 1) ≤ 4611686018427387904))) = 0 →
     False))) ∧ ((bool01 (decide ((y1002 + 1) ≤ 1000000))) = 0 →
    False))) ∧ ((bool01 (decide (y1000 < nc))) = 0 →
   (y1002 : Int) = nc ∧ rowEq [.int .i64, .int .i64, .int .i64, .int .i64, .int .i64, .bool] y1001 (decW wq nc) nc ∧ rowEq [.int .i32] rm rm nr ∧ True))
theorem holds (nc nr wq rm rW rD : Int) (l_nc : 0 ≤ nc) (u_nc : nc ≤ 16384) (l_nr : 0 ≤ nr) (u_nr : nr ≤ 2048) : P nc nr wq rm rW rD := by
 unfold P
 simp only [nrm, nro, Int.reduceEq, Int.reduceNeg, reduceIte]
 refine ⟨fun i q n m => n = i ∧ i ≤ nc ∧ q = decC wq i.toNat ∧ m = (nc - i).toNat, ⟨_, rfl, l_nc, rfl, rfl⟩, fun i q n m hb hI => ?_⟩
 obtain ⟨rfl, hi, rfl, rfl⟩ := hI
 refine ⟨fun h => ?_, fun h => ?_⟩
 ·rintro _ rfl _ _ rfl _ _ rfl _ _ rfl _ _ rfl _ _ rfl _
  refine ⟨by omega, by omega, by omega, _, ?_, rfl, by omega, ?_, rfl⟩
  ·omega
  ·rw [show (n + 1).toNat = n.toNat + 1 by omega, decC, show ((n.toNat : Nat) : Int) = n by omega]
   rfl
 ·rw [show n = nc by omega]
  exact ⟨rfl, rowEq_refl _ _ _, rowEq_refl _ _ _⟩
theorem plain (i v ro p) : statH 2 rk tree ⟨i, fN, v, ro, p⟩ = P (i 0) (i 1) (i 2) (i 3) (i 4) (i 5) := by kernel_rfl
theorem ran : ranH us (fun _ _ => .auto) rk 2 tree = true := by kernel_rfl
theorem fineT : fineH 2 rk tree = true := by kernel_rfl
theorem fineB : blVb 1000 rk.inb = true := by kernel_rfl
theorem ok : RhOk (cxOf 2) rk.rh := okH us_ok ran fineT fineB okk fun i v ro p hρ hpre => by rw [plain]; have q := hρ.hi; exact holds (i 0) (i 1) (i 2) (i 3) (i 4) (i 5) (q 0 _ rfl).1 (q 0 _ rfl).2 (q 1 _ rfl).1 (q 1 _ rfl).2
end CCNew
namespace CADo
def rc : Rc := ⟨93, [none, none, none], [.int .i64, .int .i32, .int .i32], [], .tup [none, none], [.int .i32 (.f 63 (.v 0) (.v 1) (.v 2)), .bool (.f 64 (.v 0) (.v 1) (.v 2))]⟩
theorem okb : rc.ok = true := by kernel_rfl
noncomputable def us : SMs := fun Γ ins n => smH (cxG n Γ ins) [] (smAnd 84 (libLen32 Γ ins n) (smR (cxG n Γ ins) []))
theorem us_ok : SMsOk us := fun Γ ins n => smH_ok (tabsG n Γ ins) (rhs_nil _) (smAnd_ok (libLen32_ok Γ ins n) (smR_ok (tabsG n Γ ins) (rcs_nil _)))
def Q0 : E := (tp (.v 1) (.v 2))
def Q1 : E := (.b .psub .i64 (.v 1) (.v 2))
def Q2 : E := (.b .and .i32 (.v 2) (.c 31))
def Q3 : E := (.b .and .u64 Q2 (.c 31))
def Q4 : E := (.b .pmul .i64 (.v 1) (.v 2))
def Q5 : E := (.b .psub .i64 (.c 0) (.v 1))
def Q6 : E := (.b .min .i64 Q5 (.c 2147483647))
def tree : TT (List E) :=
 (.br (te (.v 0) (.c 1)) (.leaf [(t3 Q0), (.c 1)]) (.br (te (.v 0) (.c 2)) (.leaf [(t3 Q1), (.c 1)]) (.br (te (.v 0) (.c 3)) (.leaf [(.b .min .i64 (.b .max .i64 Q0 (.c (-2147483648))) (.c 2147483647)), (.c 1)]) (.br (te (.v 0) (.c 4)) (.leaf [(.b .min .i64 (.b .max .i64 Q1 (.c (-2147483648))) (.c 2147483647)), (.c 1)]) (.br (te (.v 0) (.c 5)) (.leaf [(.b .and .i32 (.v 1) (.v 2)), (.c 1)]) (.br (te (.v 0) (.c 6)) (.leaf [(.b .or .i32 (.v 1) (.v 2)), (.c 1)]) (.br (te (.v 0) (.c 7)) (.leaf [(.b .xor .i32 (.v 1) (.v 2)), (.c 1)]) (.br (te (.v 0) (.c 8)) (.leaf [(.b .andNot .i32 (.v 1) (.v 2)), (.c 1)]) (.br (te (.v 0) (.c 9)) (.leaf [(t3 (.b .shl .u32 (.w .u32 (.v 1)) Q2)), (.c 1)]) (.br (te (.v 0) (.c 10)) (.leaf [(t3 (.b .shr .u32 (.w .u32 (.v 1)) Q2)), (.c 1)]) (.br (te (.v 0) (.c 11))
 (.leaf [(.b .shr .i32 (.v 1) Q2), (.c 1)]) (.br (te (.v 0) (.c 12)) (.leaf [(t3 (.b .or .u32 (.b .shl .u32 (.w .u32 (.v 1)) Q3) (.b .shr .u32 (.w .u32 (.v 1)) (.b .psub .i64 (.c 32) Q3)))), (.c 1)]) (.br (te (.v 0) (.c 13)) (.br (tk (.v 1) (.v 2)) (.leaf [(.c 1), (.c 1)]) (.leaf [(.c 0), (.c 1)])) (.br (te (.v 0) (.c 14)) (.br (tk (.w .u32 (.v 1)) (.w .u32 (.v 2))) (.leaf [(.c 1), (.c 1)]) (.leaf [(.c 0), (.c 1)])) (.br (te (.v 0) (.c 15)) (.br (te (.v 1) (.v 2)) (.leaf [(.c 1), (.c 1)]) (.leaf [(.c 0), (.c 1)])) (.br (te (.v 0) (.c 16)) (.leaf [(.b .min .i64 (.v 1) (.v 2)), (.c 1)]) (.br (te (.v 0) (.c 17)) (.leaf [(.b .max .i64 (.v 1) (.v 2)), (.c 1)]) (.br (te (.v 0) (.c 18)) (.leaf [(t3 Q4), (.c 1)]) (.br (te (.v 0) (.c 19)) (.leaf [(.b .shr .i64 Q4 (.c 32)), (.c 1)]) (.br (te (.v 0)
 (.c 20)) (.leaf [(.b .min .i64 (.b .max .i64 (tp (.b .shr .i64 Q4 (.c 30)) (.b .and .i64 (.b .shr .i64 Q4 (.c 29)) (.c 1))) (.c (-2147483648))) (.c 2147483647)), (.c 1)]) (.br (te (.v 0) (.c 21)) (.leaf [(.b .min .i64 (.b .max .i64 (tp (.b .shr .i64 Q4 (.c 16)) (.b .and .i64 (.b .shr .i64 Q4 (.c 15)) (.c 1))) (.c (-2147483648))) (.c 2147483647)), (.c 1)]) (.br (te (.v 0) (.c 22)) (.br (te (.v 2) (.c 0)) (.leaf [(.c 0), (.c 0)]) (.leaf [(t3 (.b .quo .i64 (.v 1) (.v 2))), (.c 1)])) (.br (te (.v 0) (.c 23)) (.br (te (.v 2) (.c 0)) (.leaf [(.c 0), (.c 0)]) (.leaf [(t3 (.b .psub .i64 (.v 1) (t6 (.b .pmul .i64 (.b .quo .i64 (.v 1) (.v 2)) (.v 2))))), (.c 1)])) (.br (te (.v 0) (.c 24)) (.leaf [(.b .psub .i64 (.c 32) (.f 0 (.w .u32 (.v 1)) (.c 0) (.c 0))), (.c 1)]) (.br (te (.v 0) (.c 25))
 (.leaf [Q6, (.c 1)]) (.br (te (.v 0) (.c 26)) (.leaf [(.b .max .i64 (.v 1) Q6), (.c 1)]) (.br (te (.v 0) (.c 27)) (.br (tn (.v 1) (.c 0)) (.leaf [(.c (-1)), (.c 1)]) (.leaf [(.c 0), (.c 1)])) (.br (te (.v 0) (.c 28)) (.leaf [(.b .shr .i32 (.v 1) (.c 31)), (.c 1)]) (.br (te (.v 0) (.c 29)) (.leaf [(.w .i16 (.v 1)), (.c 1)]) (.br (te (.v 0) (.c 30)) (.leaf [(.b .shr .i32 (.v 1) (.c 16)), (.c 1)]) (.leaf [(.c 0), (.c 0)])))))))))))))))))))))))))))))))
def sL0 (a b c z0 : Int) : Prop := (z0 : Int) = (aluV a b c) ∧ ((1 : Int) ≠ 0 ↔ ((aluK a b c) : Int) ≠ 0) ∧ True
def P (a b c : Int) : Prop :=
 (Pb (Pe a 1) (((W3 (b + c)) : Int) = (aluV a b c) ∧ ((1 : Int) ≠ 0 ↔ ((aluK a b c) : Int) ≠ 0) ∧ True) (Pb (Pe a 2) (((W3 (b - c)) : Int) = (aluV a b c) ∧ ((1 : Int) ≠ 0 ↔ ((aluK a b c) : Int) ≠ 0) ∧ True) (Pb (Pe a 3) (((sat32 (b + c)) : Int) = (aluV a b c) ∧ ((1 : Int) ≠ 0 ↔ ((aluK a b c) : Int) ≠ 0) ∧ True) (Pb (Pe a 4) (((sat32 (b - c)) : Int) = (aluV a b c) ∧ ((1 : Int) ≠ 0 ↔ ((aluK a b c) : Int) ≠ 0) ∧ True) (Pb (Pe a 5) (((band .i32 b c) : Int) = (aluV a b c) ∧ ((1 : Int) ≠ 0 ↔ ((aluK a b c) : Int) ≠ 0) ∧ True) (Pb (Pe a 6) (((bor .i32 b c) : Int) = (aluV a b c) ∧ ((1 : Int) ≠ 0 ↔ ((aluK a b c) : Int) ≠ 0) ∧ True) (Pb (Pe a 7) (((bxor .i32 b c) : Int) = (aluV a b c) ∧ ((1 : Int) ≠ 0 ↔ ((aluK a b c) : Int) ≠ 0) ∧ True) (Pb (Pe a 8) (((bandn .i32 b c) : Int) = (aluV a b c) ∧ ((1 :
 Int) ≠ 0 ↔ ((aluK a b c) : Int) ≠ 0) ∧ True) (Pb (Pe a 9) (sL0 a b c (W3 (shlZ .u32 (U3 b) (band .i32 c 31)))) (Pb (Pe a 10) (sL0 a b c (W3 (shrZ .u32 (U3 b) (band .i32 c 31)))) (Pb (Pe a 11) (((shrZ .i32 b (band .i32 c 31)) : Int) = (aluV a b c) ∧ ((1 : Int) ≠ 0 ↔ ((aluK a b c) : Int) ≠ 0) ∧ True) (Pb (Pe a 12) (sL0 a b c (W3 (bor .u32 (shlZ .u32 (U3 b) (band .u64 (band .i32 c 31) 31)) (shrZ .u32 (U3 b) (32 - (band .u64 (band .i32 c 31) 31)))))) (Pb (Pe a 13) (Pb (Pl b c) ((1 : Int) = (aluV a b c) ∧ ((1 : Int) ≠ 0 ↔ ((aluK a b c) : Int) ≠ 0) ∧ True) ((0 : Int) = (aluV a b c) ∧ ((1 : Int) ≠ 0 ↔ ((aluK a b c) : Int) ≠ 0) ∧ True)) (Pb (Pe a 14) (Pb (Pl (U3 b) (U3 c)) ((1 : Int) = (aluV a b c) ∧ ((1 : Int) ≠ 0 ↔ ((aluK a b c) : Int) ≠ 0) ∧ True) ((0 : Int) = (aluV a b c) ∧ ((1 : Int) ≠ 0 ↔
 ((aluK a b c) : Int) ≠ 0) ∧ True)) (Pb (Pe a 15) (Pb (Pe b c) ((1 : Int) = (aluV a b c) ∧ ((1 : Int) ≠ 0 ↔ ((aluK a b c) : Int) ≠ 0) ∧ True) ((0 : Int) = (aluV a b c) ∧ ((1 : Int) ≠ 0 ↔ ((aluK a b c) : Int) ≠ 0) ∧ True)) (Pb (Pe a 16) (((minZ b c) : Int) = (aluV a b c) ∧ ((1 : Int) ≠ 0 ↔ ((aluK a b c) : Int) ≠ 0) ∧ True) (Pb (Pe a 17) (((maxZ b c) : Int) = (aluV a b c) ∧ ((1 : Int) ≠ 0 ↔ ((aluK a b c) : Int) ≠ 0) ∧ True) (Pb (Pe a 18) (((W3 (b * c)) : Int) = (aluV a b c) ∧ ((1 : Int) ≠ 0 ↔ ((aluK a b c) : Int) ≠ 0) ∧ True) (Pb (Pe a 19) (((shrZ .i64 (b * c) 32) : Int) = (aluV a b c) ∧ ((1 : Int) ≠ 0 ↔ ((aluK a b c) : Int) ≠ 0) ∧ True) (Pb (Pe a 20) (sL0 a b c (sat32 ((shrZ .i64 (b * c) 30) + (band .i64 (shrZ .i64 (b * c) 29) 1)))) (Pb (Pe a 21) (sL0 a b c (sat32 ((shrZ .i64 (b * c) 16) +
 (band .i64 (shrZ .i64 (b * c) 15) 1)))) (Pb (Pe a 22) (Pb (Pe c 0) ((0 : Int) = (aluV a b c) ∧ ((0 : Int) ≠ 0 ↔ ((aluK a b c) : Int) ≠ 0) ∧ True) (((W3 (BO.ev .quo .i64 b c)) : Int) = (aluV a b c) ∧ ((1 : Int) ≠ 0 ↔ ((aluK a b c) : Int) ≠ 0) ∧ True)) (Pb (Pe a 23) (Pb (Pe c 0) ((0 : Int) = (aluV a b c) ∧ ((0 : Int) ≠ 0 ↔ ((aluK a b c) : Int) ≠ 0) ∧ True) (sL0 a b c (W3 (b - (W6 ((BO.ev .quo .i64 b c) * c)))))) (Pb (Pe a 24) (((32 - (blen (U3 b))) : Int) = (aluV a b c) ∧ ((1 : Int) ≠ 0 ↔ ((aluK a b c) : Int) ≠ 0) ∧ True) (Pb (Pe a 25) (((minZ (0 - b) 2147483647) : Int) = (aluV a b c) ∧ ((1 : Int) ≠ 0 ↔ ((aluK a b c) : Int) ≠ 0) ∧ True) (Pb (Pe a 26) (((maxZ b (minZ (0 - b) 2147483647)) : Int) = (aluV a b c) ∧ ((1 : Int) ≠ 0 ↔ ((aluK a b c) : Int) ≠ 0) ∧ True) (Pb (Pe a 27) (Pb (Pd b 0)
 (((-1) : Int) = (aluV a b c) ∧ ((1 : Int) ≠ 0 ↔ ((aluK a b c) : Int) ≠ 0) ∧ True) ((0 : Int) = (aluV a b c) ∧ ((1 : Int) ≠ 0 ↔ ((aluK a b c) : Int) ≠ 0) ∧ True)) (Pb (Pe a 28) (((shrZ .i32 b 31) : Int) = (aluV a b c) ∧ ((1 : Int) ≠ 0 ↔ ((aluK a b c) : Int) ≠ 0) ∧ True) (Pb (Pe a 29) (((IntKind.wrap .i16 b) : Int) = (aluV a b c) ∧ ((1 : Int) ≠ 0 ↔ ((aluK a b c) : Int) ≠ 0) ∧ True) (Pb (Pe a 30) (((shrZ .i32 b 16) : Int) = (aluV a b c) ∧ ((1 : Int) ≠ 0 ↔ ((aluK a b c) : Int) ≠ 0) ∧ True) ((0 : Int) = (aluV a b c) ∧ ((0 : Int) ≠ 0 ↔ ((aluK a b c) : Int) ≠ 0) ∧ True)))))))))))))))))))))))))))))))
theorem holds (p0 p1 p2 : Int) (l_p0 : -9223372036854775808 ≤ p0) (u_p0 : p0 ≤ 9223372036854775807) (l_p1 : -2147483648 ≤ p1) (u_p1 : p1 ≤ 2147483647) (l_p2 : -2147483648 ≤ p2) (u_p2 : p2 ≤ 2147483647) : P p0 p1 p2 := by
 delta P sL0 Pb Pl Pe Pd W6 W3 U3
 simp only [nrm, Int.reduceEq, Int.reduceNeg, reduceIte]
 have hv : ∀ x op, aluP op p2 → x = aluX op p1 p2 → (x = aluV op p1 p2 ∧ ¬ aluK op p1 p2 = 0) := fun x op h e =>
  ⟨by rw [aluV_of h l_p1 u_p1 l_p2 u_p2, e], aluK_ne.2 h⟩
 have hn : ∀ op, ¬ aluP op p2 → ((0 : Int) = aluV op p1 p2 ∧ aluK op p1 p2 = 0) := fun op h => ⟨(aluV_no h).symm, by unfold aluK; rw [if_neg h]⟩
 refine ⟨fun h => ?_, fun h1 => ?_⟩
 ·subst h; exact hv _ _ (by unfold aluP; omega) (by unfold aluX; simp only [Int.reduceEq, if_false, if_true]; all_goals rfl)
 refine ⟨fun h => ?_, fun h2 => ?_⟩
 ·subst h; exact hv _ _ (by unfold aluP; omega) (by unfold aluX; simp only [Int.reduceEq, if_false, if_true]; all_goals rfl)
 refine ⟨fun h => ?_, fun h3 => ?_⟩
 ·subst h; exact hv _ _ (by unfold aluP; omega) (by unfold aluX; simp only [Int.reduceEq, if_false, if_true]; all_goals rfl)
 refine ⟨fun h => ?_, fun h4 => ?_⟩
 ·subst h; exact hv _ _ (by unfold aluP; omega) (by unfold aluX; simp only [Int.reduceEq, if_false, if_true]; all_goals rfl)
 refine ⟨fun h => ?_, fun h5 => ?_⟩
 ·subst h; exact hv _ _ (by unfold aluP; omega) (by unfold aluX; simp only [Int.reduceEq, if_false, if_true]; all_goals rfl)
 refine ⟨fun h => ?_, fun h6 => ?_⟩
 ·subst h; exact hv _ _ (by unfold aluP; omega) (by unfold aluX; simp only [Int.reduceEq, if_false, if_true]; all_goals rfl)
 refine ⟨fun h => ?_, fun h7 => ?_⟩
 ·subst h; exact hv _ _ (by unfold aluP; omega) (by unfold aluX; simp only [Int.reduceEq, if_false, if_true]; all_goals rfl)
 refine ⟨fun h => ?_, fun h8 => ?_⟩
 ·subst h; exact hv _ _ (by unfold aluP; omega) (by unfold aluX; simp only [Int.reduceEq, if_false, if_true]; all_goals rfl)
 refine ⟨fun h => ?_, fun h9 => ?_⟩
 ·subst h; exact hv _ _ (by unfold aluP; omega) (by unfold aluX; simp only [Int.reduceEq, if_false, if_true]; all_goals rfl)
 refine ⟨fun h => ?_, fun h10 => ?_⟩
 ·subst h; exact hv _ _ (by unfold aluP; omega) (by unfold aluX; simp only [Int.reduceEq, if_false, if_true]; all_goals rfl)
 refine ⟨fun h => ?_, fun h11 => ?_⟩
 ·subst h; exact hv _ _ (by unfold aluP; omega) (by unfold aluX; simp only [Int.reduceEq, if_false, if_true]; all_goals rfl)
 refine ⟨fun h => ?_, fun h12 => ?_⟩
 ·subst h; exact hv _ _ (by unfold aluP; omega) (by unfold aluX; simp only [Int.reduceEq, if_false, if_true]; all_goals rfl)
 refine ⟨fun h => ?_, fun h13 => ?_⟩
 ·subst h; exact ⟨fun g => hv _ _ (by unfold aluP; omega) (by unfold aluX; simp only [Int.reduceEq, if_false, if_true]; rw [if_pos g]), fun g => hv _ _ (by unfold aluP; omega) (by unfold aluX; simp only [Int.reduceEq, if_false, if_true]; rw [if_neg (by omega)])⟩
 refine ⟨fun h => ?_, fun h14 => ?_⟩
 ·subst h; exact ⟨fun g => hv _ _ (by unfold aluP; omega) (by unfold aluX; simp only [Int.reduceEq, if_false, if_true]; rw [if_pos g]), fun g => hv _ _ (by unfold aluP; omega) (by unfold aluX; simp only [Int.reduceEq, if_false, if_true]; rw [if_neg (by omega)])⟩
 refine ⟨fun h => ?_, fun h15 => ?_⟩
 ·subst h; exact ⟨fun g => hv _ _ (by unfold aluP; omega) (by unfold aluX; simp only [Int.reduceEq, if_false, if_true]; rw [if_pos g]), fun g => hv _ _ (by unfold aluP; omega) (by unfold aluX; simp only [Int.reduceEq, if_false, if_true]; rw [if_neg (by omega)])⟩
 refine ⟨fun h => ?_, fun h16 => ?_⟩
 ·subst h; exact hv _ _ (by unfold aluP; omega) (by unfold aluX; simp only [Int.reduceEq, if_false, if_true]; all_goals rfl)
 refine ⟨fun h => ?_, fun h17 => ?_⟩
 ·subst h; exact hv _ _ (by unfold aluP; omega) (by unfold aluX; simp only [Int.reduceEq, if_false, if_true]; all_goals rfl)
 refine ⟨fun h => ?_, fun h18 => ?_⟩
 ·subst h; exact hv _ _ (by unfold aluP; omega) (by unfold aluX; simp only [Int.reduceEq, if_false, if_true]; all_goals rfl)
 refine ⟨fun h => ?_, fun h19 => ?_⟩
 ·subst h; exact hv _ _ (by unfold aluP; omega) (by unfold aluX; simp only [Int.reduceEq, if_false, if_true]; all_goals rfl)
 refine ⟨fun h => ?_, fun h20 => ?_⟩
 ·subst h; exact hv _ _ (by unfold aluP; omega) (by unfold aluX; simp only [Int.reduceEq, if_false, if_true]; all_goals rfl)
 refine ⟨fun h => ?_, fun h21 => ?_⟩
 ·subst h; exact hv _ _ (by unfold aluP; omega) (by unfold aluX; simp only [Int.reduceEq, if_false, if_true]; all_goals rfl)
 refine ⟨fun h => ?_, fun h22 => ?_⟩
 ·subst h; exact ⟨fun g => hn _ (by unfold aluP; omega), fun g => hv _ _ (by unfold aluP; omega) (by unfold aluX; simp only [Int.reduceEq, if_false, if_true])⟩
 refine ⟨fun h => ?_, fun h23 => ?_⟩
 ·subst h; exact ⟨fun g => hn _ (by unfold aluP; omega), fun g => hv _ _ (by unfold aluP; omega) (by unfold aluX; simp only [Int.reduceEq, if_false, if_true])⟩
 refine ⟨fun h => ?_, fun h24 => ?_⟩
 ·subst h; exact hv _ _ (by unfold aluP; omega) (by unfold aluX; simp only [Int.reduceEq, if_false, if_true]; all_goals rfl)
 refine ⟨fun h => ?_, fun h25 => ?_⟩
 ·subst h; exact hv _ _ (by unfold aluP; omega) (by unfold aluX; simp only [Int.reduceEq, if_false, if_true]; all_goals rfl)
 refine ⟨fun h => ?_, fun h26 => ?_⟩
 ·subst h; exact hv _ _ (by unfold aluP; omega) (by unfold aluX; simp only [Int.reduceEq, if_false, if_true]; all_goals rfl)
 refine ⟨fun h => ?_, fun h27 => ?_⟩
 ·subst h; exact ⟨fun g => hv _ _ (by unfold aluP; omega) (by unfold aluX; simp only [Int.reduceEq, if_false, if_true]; rw [if_neg g]), fun g => hv _ _ (by unfold aluP; omega) (by unfold aluX; simp only [Int.reduceEq, if_false, if_true]; rw [if_pos g])⟩
 refine ⟨fun h => ?_, fun h28 => ?_⟩
 ·subst h; exact hv _ _ (by unfold aluP; omega) (by unfold aluX; simp only [Int.reduceEq, if_false, if_true]; all_goals rfl)
 refine ⟨fun h => ?_, fun h29 => ?_⟩
 ·subst h; exact hv _ _ (by unfold aluP; omega) (by unfold aluX; simp only [Int.reduceEq, if_false, if_true]; all_goals rfl)
 refine ⟨fun h => ?_, fun h30 => ?_⟩
 ·subst h; exact hv _ _ (by unfold aluP; omega) (by unfold aluX; simp only [Int.reduceEq, if_false, if_true]; all_goals rfl)
 exact hn _ (by unfold aluP; omega)
theorem plain (i v ro p) : statR 2 rc tree ⟨i, fN, v, ro, p⟩ = P (i 0) (i 1) (i 2) := by kernel_rfl
theorem ran : ranR us (fun _ _ => .auto) rc 2 tree = true := by kernel_rfl
theorem fineT : fineR 2 rc tree = true := by kernel_rfl
theorem ok : RcOk (cxOf 2) rc := okR us_ok ran fineT okb fun i v ro p hρ hcap hpre => by rw [plain]; have q := hρ.hi; exact holds (i 0) (i 1) (i 2) (q 0 _ rfl).1 (q 0 _ rfl).2 (q 1 _ rfl).1 (q 1 _ rfl).2 (q 2 _ rfl).1 (q 2 _ rfl).2
end CADo
namespace COCost
def rc : Rc := ⟨143, [none], [.int .i64], [], .one, [.int .i64 (.f 66 (.v 0) (.c 0) (.c 0))]⟩
theorem okb : rc.ok = true := by kernel_rfl
noncomputable def us : SMs := fun Γ ins n => smH (cxG n Γ ins) [] (smR (cxG n Γ ins) [])
theorem us_ok : SMsOk us := fun Γ ins n => smH_ok (tabsG n Γ ins) (rhs_nil _) (smR_ok (tabsG n Γ ins) (rcs_nil _))
def tree : TT (List E) :=
(.br (.b .le .i64 (.c 1) (.v 0))
 (.br (.nt (.b .le .i64 (.v 0) (.c 43)))
 (.leaf [(.c 0)])
 (.br (.b .le .i64 (.c 0) (.w .i64 (.b .psub .i64 (.v 0) (.c 1))))
 (.br (.b .lt .i64 (.w .i64 (.b .psub .i64 (.v 0) (.c 1))) (.c 43))
 (.leaf [(.w .i64 (.f 13 (.f 11 (.c 1) (.f 11 (.c 1) (.f 11 (.c 1) (.f 11 (.c 1) (.f 11 (.c 1) (.f 11 (.c 1) (.f 11 (.c 1) (.f 11 (.c 1) (.f 11 (.c 1) (.f 11 (.c 1) (.f 11 (.c 1) (.f 11 (.c 1) (.f 11 (.c 1) (.f 11 (.c 1) (.f 11 (.c 1) (.f 11 (.c 1) (.f 11 (.c 1) (.f 11 (.c 3) (.f 11 (.c 3) (.f 11 (.c 3) (.f 11 (.c 3) (.f 11 (.c 2) (.f 11 (.c 2) (.f 11 (.c 1) (.f 11 (.c 1) (.f 11 (.c 1) (.f 11 (.c 1) (.f 11 (.c 1) (.f 11 (.c 1) (.f 11 (.c 1) (.f 11 (.c 1) (.f 11 (.c 1) (.f 11 (.c 1) (.f 11 (.c 2) (.f 11 (.c 2) (.f 11 (.c 1) (.f 11 (.c 1) (.f 11 (.c 1) (.f 11 (.c 3) (.f 11 (.c 3) (.f 11 (.c 3) (.f 11 (.c 1) (.f 11 (.c 1) (.c 0) (.c 0)) (.c 0)) (.c 0)) (.c 0)) (.c 0)) (.c 0)) (.c 0)) (.c 0)) (.c 0)) (.c 0)) (.c 0)) (.c 0)) (.c 0)) (.c 0)) (.c 0)) (.c 0)) (.c 0)) (.c 0)) (.c 0)) (.c 0)) (.c 0)) (.c 0)) (.c 0)) (.c 0)) (.c 0)) (.c 0)) (.c 0)) (.c 0)) (.c 0)) (.c 0)) (.c 0)) (.c 0)) (.c 0)) (.c 0)) (.c 0)) (.c 0)) (.c 0)) (.c 0)) (.c 0)) (.c 0)) (.c 0)) (.c 0)) (.c 0)) (.w .i64 (.b .psub .i64 (.v 0) (.c 1))) (.c 0)))])
 (.bad 200))
 (.bad 200)))
 (.leaf [(.c 0)]))
def P (p0 : Int) : Prop :=
 (((bool01 (decide (1 ≤ p0))) ≠ 0 →
  (((bool01 ((bool01 (decide (p0 ≤ 43))) == 0)) ≠ 0 →
   (0 : Int) = (opCo p0) ∧ True) ∧ ((bool01 ((bool01 (decide (p0 ≤ 43))) == 0)) = 0 →
   (((bool01 (decide (0 ≤ (IntKind.wrap .i64 (p0 - 1))))) ≠ 0 →
    (((bool01 (decide ((IntKind.wrap .i64 (p0 - 1)) < 43))) ≠ 0 →
     ((IntKind.wrap .i64 (rdZ (consZ 1 (consZ 1 (consZ 1 (consZ 1 (consZ 1 (consZ 1 (consZ 1 (consZ 1 (consZ 1 (consZ 1 (consZ 1 (consZ 1 (consZ 1 (consZ 1 (consZ 1 (consZ 1 (consZ 1 (consZ 3 (consZ 3 (consZ 3 (consZ 3 (consZ 2 (consZ 2 (consZ 1 (consZ 1 (consZ 1 (consZ 1 (consZ 1 (consZ 1 (consZ 1 (consZ 1 (consZ 1 (consZ 1 (consZ 2 (consZ 2 (consZ 1 (consZ 1 (consZ 1 (consZ 3 (consZ 3 (consZ 3 (consZ 1 (consZ 1 0))))))))))))))))))))))))))))))))))))))))))) (IntKind.wrap .i64 (p0 - 1)))) : Int) = (opCo p0) ∧ True) ∧ ((bool01 (decide ((IntKind.wrap .i64 (p0 - 1)) < 43))) = 0 →
     False))) ∧ ((bool01 (decide (0 ≤ (IntKind.wrap .i64 (p0 - 1))))) = 0 →
    False))))) ∧ ((bool01 (decide (1 ≤ p0))) = 0 →
  (0 : Int) = (opCo p0) ∧ True))
def costL : List Int := [1, 1, 1, 1, 1, 1, 1, 1, 1, 1, 1, 1, 1, 1, 1, 1, 1, 3, 3, 3, 3, 2, 2, 1, 1, 1, 1, 1, 1, 1, 1, 1, 1, 2, 2, 1, 1, 1, 3, 3, 3, 1, 1]
theorem cost_all : ∀ k : Fin 43, costL.getD k 0 = opCo ((k.val : Int) + 1) := by decide
theorem cost_rd {p : Int} (h1 : 1 ≤ p) (h2 : p ≤ 43) : IntKind.wrap .i64 (rdZ (chn costL) (IntKind.wrap .i64 (p - 1))) = opCo p := by
 rw [w64 (x := p - 1) (by omega) (by omega)]
 have e : p - 1 = ((p - 1).toNat : Nat) := by omega
 rw [e, rd_chn, cost_all ⟨(p - 1).toNat, by omega⟩]
 have := opCo_bd (((⟨(p - 1).toNat, by omega⟩ : Fin 43).val : Int) + 1)
 rw [w64 (by omega) (by omega)]
 congr 1
 show ((p - 1).toNat : Int) + 1 = p
 omega
theorem holds (p0 : Int) (l_p0 : -9223372036854775808 ≤ p0) (u_p0 : p0 ≤ 9223372036854775807) : P p0 := by
 unfold P
 simp only [nrm, Int.reduceEq, Int.reduceNeg, reduceIte]
 have e : ∀ p, p < 1 ∨ 43 < p → (0 : Int) = opCo p := fun p h => by unfold opCo; rw [if_pos h]
 refine ⟨fun h1 => ⟨fun h2 => e _ (by omega), fun h2 => ?_⟩, fun h1 => e _ (by omega)⟩
 have hw : IntKind.wrap .i64 (p0 - 1) = p0 - 1 := w64 (by omega) (by omega)
 exact ⟨fun h3 => ⟨fun h4 => cost_rd h1 (by omega), fun h4 => by omega⟩, fun h3 => by omega⟩
theorem plain (i v ro p) : statR 2 rc tree ⟨i, fN, v, ro, p⟩ = P (i 0) := by kernel_rfl
theorem ran : ranR us (fun _ _ => .auto) rc 2 tree = true := by kernel_rfl
theorem fineT : fineR 2 rc tree = true := by kernel_rfl
theorem ok : RcOk (cxOf 2) rc := okR us_ok ran fineT okb fun i v ro p hρ hcap hpre => by rw [plain]; have q := hρ.hi; exact holds (i 0) (q 0 _ rfl).1 (q 0 _ rfl).2
end COCost
namespace CACost
def rc : Rc := ⟨96, [none, none], [.int .i64, .int .i32], [], .one, [.int .i64 (.f 65 (.v 0) (.v 1) (.c 0))]⟩
theorem okb : rc.ok = true := by kernel_rfl
noncomputable def us : SMs := fun Γ ins n => smH (cxG n Γ ins) [] (smAnd 85 (libLen64 Γ ins n) (smR (cxG n Γ ins) [COCost.rc]))
theorem us_ok : SMsOk us := fun Γ ins n => smH_ok (tabsG n Γ ins) (rhs_nil _) (smAnd_ok (libLen64_ok Γ ins n) (smR_ok (tabsG n Γ ins) (rcs_cons COCost.okb (rc_n COCost.ok) (rcs_nil _))))
def tree : TT (List E) :=
(.br (.b .eq .i64 (.v 0) (.c 22))
 (.leaf [(.b .padd .i64 (.f 66 (.v 0) (.c 0) (.c 0)) (.f 3 (.w .u64 (.b .max .i64 (.v 1) (.b .psub .i64 (.c 0) (.v 1)))) (.c 0) (.c 0)))])
 (.br (.b .eq .i64 (.v 0) (.c 23))
 (.leaf [(.b .padd .i64 (.f 66 (.v 0) (.c 0) (.c 0)) (.f 3 (.w .u64 (.b .max .i64 (.v 1) (.b .psub .i64 (.c 0) (.v 1)))) (.c 0) (.c 0)))])
 (.leaf [(.f 66 (.v 0) (.c 0) (.c 0))])))
def P (p0 p1 : Int) : Prop :=
 (((bool01 (p0 == 22)) ≠ 0 →
  (((opCo p0) + (blen64 (IntKind.wrap .u64 (maxZ p1 (0 - p1))))) : Int) = (aluC p0 p1) ∧ True) ∧ ((bool01 (p0 == 22)) = 0 →
  (((bool01 (p0 == 23)) ≠ 0 →
   (((opCo p0) + (blen64 (IntKind.wrap .u64 (maxZ p1 (0 - p1))))) : Int) = (aluC p0 p1) ∧ True) ∧ ((bool01 (p0 == 23)) = 0 →
   ((opCo p0) : Int) = (aluC p0 p1) ∧ True))))
theorem holds (p0 p1 : Int) (l_p0 : -9223372036854775808 ≤ p0) (u_p0 : p0 ≤ 9223372036854775807) (l_p1 : -2147483648 ≤ p1) (u_p1 : p1 ≤ 2147483647) : P p0 p1 := by
 unfold P
 simp only [nrm, Int.reduceEq, Int.reduceNeg, reduceIte]
 have e : ∀ p, p = 22 ∨ p = 23 → opCo p + blen64 (IntKind.wrap .u64 (maxZ p1 (0 - p1))) = aluC p p1 := fun p h => by unfold aluC; rw [if_pos h]; rfl
 refine ⟨fun h => e _ (.inl h), fun h => ⟨fun h => e _ (.inr h), fun h => ?_⟩⟩
 unfold aluC; rw [if_neg (by omega)]; omega
theorem plain (i v ro p) : statR 2 rc tree ⟨i, fN, v, ro, p⟩ = P (i 0) (i 1) := by kernel_rfl
theorem ran : ranR us (fun _ _ => .auto) rc 2 tree = true := by kernel_rfl
theorem fineT : fineR 2 rc tree = true := by kernel_rfl
theorem ok : RcOk (cxOf 2) rc := okR us_ok ran fineT okb fun i v ro p hρ hcap hpre => by rw [plain]; have q := hρ.hi; exact holds (i 0) (i 1) (q 0 _ rfl).1 (q 0 _ rfl).2 (q 1 _ rfl).1 (q 1 _ rfl).2
end CACost
namespace CCStep
def rk : Rk := ⟨44, [(-9223372036854775808, 9223372036854775807), (-9223372036854775808, 9223372036854775807), (-9223372036854775808, 9223372036854775807), (0, 16384), (0, 999999), (0, 2048)], 10, [.ptr 0 0], [.cells ([.ptr 1 0, .sl (.own 2) 6 (.c 0) (.v 3) none] ++ bk32 (.v 7) ++ [.int .i64 (.v 0), .int .i64 (.v 1), .int .i64 (.v 2), .sl (.own 4) 3 (.c 0) (.v 4) none]) 80 none, .cells [.sl (.own 3) 1 (.c 0) (.v 5) none, .bool (.c 1)] 102 none, .arr [.int .i64, .int .i64, .int .i64, .int .i64, .int .i64, .bool] 86 (.v 6) (.v 3), .arr [.int .i32] 21 (.v 8) (.v 5), .arr [.int .i64, .int .i64, .int .i64] 70 (.v 9) (.v 4)], [(.f 68 (.v 6) (.v 3) (.c 0))], .bool (.v 1000007), [.cells ([.ptr 1 0, .sl (.own 2) 6 (.c 0) (.v 3) none] ++ bk32 (.v 1000000) ++ [.int .i64 (.v 1000002), .int .i64 (.v 1000003), .int .i64 (.v 1000004), .sl (.own 5) 3 (.c 0) (.v 1000005) none]) 80 none, .cells [.sl (.own 3) 1 (.c 0) (.v 5) none, .bool (.c 1)] 102 none, .arr [.int .i64, .int .i64, .int .i64, .int .i64, .int .i64, .bool] 86 (.v 6) (.v 3), .arr [.int .i32] 21 (.v 1000001) (.v 5), .gone, .arr [.int .i64, .int .i64, .int .i64] 70 (.v 1000006) (.v 1000005)], [.code [.int .i32] (.f 13 (.f 69 (.v 6) (.v 3) (listE [(.v 7), (.v 8), (.v 5), (.v 0), (.v 1), (.v 2), (.v 9), (.v 4)])) (.c 0) (.c 0)) (.c 32), .code [.int .i32] (.f 13 (.f 69 (.v 6) (.v 3) (listE [(.v 7), (.v 8), (.v 5), (.v 0), (.v 1), (.v 2), (.v 9), (.v 4)])) (.c 1) (.c 0)) (.v 5), .num (.w .i64 (.f 13 (.f 69 (.v 6) (.v 3) (listE [(.v 7), (.v 8), (.v 5), (.v 0), (.v 1), (.v 2), (.v 9), (.v 4)])) (.c 2) (.c 0))), .num (.w .i64 (.f 13 (.f 69 (.v 6) (.v 3) (listE [(.v 7), (.v 8), (.v 5), (.v 0), (.v 1), (.v 2), (.v 9), (.v 4)])) (.c 3) (.c 0))), .num (.w .i64 (.f 13 (.f 69 (.v 6) (.v 3) (listE [(.v 7), (.v 8), (.v 5), (.v 0), (.v 1), (.v 2), (.v 9), (.v 4)])) (.c 4) (.c 0))), .num (.w .i64 (.f 13 (.f 69 (.v 6) (.v 3) (listE [(.v 7), (.v 8), (.v 5), (.v 0), (.v 1), (.v 2), (.v 9), (.v 4)])) (.c 6) (.c 0))), .code [.int .i64, .int .i64, .int .i64] (.f 13 (.f 69 (.v 6) (.v 3) (listE [(.v 7), (.v 8), (.v 5), (.v 0), (.v 1), (.v 2), (.v 9), (.v 4)])) (.c 5) (.c 0)) (.w .i64 (.f 13 (.f 69 (.v 6) (.v 3) (listE [(.v 7), (.v 8), (.v 5), (.v 0), (.v 1), (.v 2), (.v 9), (.v 4)])) (.c 6) (.c 0))), .bool (.b .eq .i64 (.v 1) (.c 0))], []⟩
theorem okk : rk.ok = true := by kernel_rfl
theorem okh : rk.rh.ok = true := by kernel_rfl
noncomputable def us : SMs := fun Γ ins n => smH (cxG n Γ ins) [] (smR (cxG n Γ ins) [CADo.rc, COCost.rc, CACost.rc])
theorem us_ok : SMsOk us := fun Γ ins n => smH_ok (tabsG n Γ ins) (rhs_nil _) (smR_ok (tabsG n Γ ins) (rcs_cons CADo.okb (rc_n CADo.ok) (rcs_cons COCost.okb (rc_n COCost.ok) (rcs_cons CACost.okb (rc_n CACost.ok) (rcs_nil _)))))
def Q0 : E := (tR (.v 6) (.v 0))
def Q1 : E := (.cl 1002 (-9223372036854775808) 9223372036854775807)
def Q2 : E := (.cl 1000 (-9223372036854775808) 9223372036854775807)
def Q3 : E := (.cl 1003 (-9223372036854775808) 9223372036854775807)
def Q4 : E := (tR (.v 7) Q1)
def Q5 : E := (t3 Q4)
def Q6 : E := (tR (.v 7) Q3)
def Q7 : E := (t3 Q6)
def Q8 : E := (.cl 1001 (-9223372036854775808) 9223372036854775807)
def Q9 : E := (tn Q8 (.c 0))
def Q10 : E := (tl (.c 0) Q8)
def Q11 : E := (tk Q8 (.c 32))
def Q12 : E := (.f 65 Q2 Q5 (.c 0))
def Q13 : E := (.cl 1005 (-2147483648) 2147483647)
def Q14 : E := (tp (.v 0) (.c 1))
def Q15 : E := (t6 Q14)
def Q16 : E := (tp (.v 2) (.cl 1007 0 67))
def Q17 : E := (t6 Q16)
def Q18 : E := (tp (.v 4) (.c 1))
def Q19 : E := (tC (.cl 1007 0 67) (.c 0))
def Q20 : E := (tC (.c (-1)) Q19)
def Q21 : E := (tC (.v 0) Q20)
def Q22 : E := (.f 14 (.v 9) (.v 4) Q21)
def Q23 : E := (.cl 1004 (-9223372036854775808) 9223372036854775807)
def Q24 : E := (t3 Q23)
def Q25 : E := (tp Q5 Q24)
def Q26 : E := (t3 Q25)
def Q27 : E := (tp (.v 2) (.c 1))
def Q28 : E := (t6 Q27)
def Q29 : E := (tC (.c 1) (.c 0))
def Q30 : E := (tC (.c (-1)) Q29)
def Q31 : E := (tC (.v 0) Q30)
def Q32 : E := (.f 14 (.v 9) (.v 4) Q31)
def Q33 : E := (tk Q13 (.c 0))
def Q34 : E := (tl (.v 5) Q13)
def Q35 : E := (tl (.c 0) Q13)
def Q36 : E := (tk Q13 (.v 5))
def Q37 : E := (tl (.c 1024) Q13)
def Q38 : E := (te Q2 (.c 35))
def Q39 : E := (tR (.v 7) Q8)
def Q40 : E := (t3 Q39)
def Q41 : E := (.f 14 (.v 8) Q13 Q40)
def Q42 : E := (.f 66 Q2 (.c 0) (.c 0))
def Q43 : E := (tp Q42 (.c 1))
def Q44 : E := (tp (.v 2) Q43)
def Q45 : E := (t6 Q44)
def Q46 : E := (tC Q43 (.c 0))
def Q47 : E := (tC Q13 Q46)
def Q48 : E := (tC (.v 0) Q47)
def Q49 : E := (.f 14 (.v 9) (.v 4) Q48)
def Q50 : E := (tR (.v 8) Q13)
def Q51 : E := (t3 Q50)
def Q52 : E := (.f 14 (.v 7) Q8 Q51)
def Q53 : E := (tp (.v 2) Q42)
def Q54 : E := (t6 Q53)
def Q55 : E := (tC Q42 (.c 0))
def Q56 : E := (tC Q13 Q55)
def Q57 : E := (tC (.v 0) Q56)
def Q58 : E := (.f 14 (.v 9) (.v 4) Q57)
def Q59 : E := (tp (.v 2) (.c 3))
def Q60 : E := (t6 Q59)
def Q61 : E := (tC (.c 3) (.c 0))
def Q62 : E := (tC (.c (-1)) Q61)
def Q63 : E := (tC (.v 0) Q62)
def Q64 : E := (.f 14 (.v 9) (.v 4) Q63)
def Q65 : E := (.cl 1005 (-9223372036854775808) 9223372036854775807)
def Q66 : E := (tC (.c (-1)) Q55)
def Q67 : E := (tC (.v 0) Q66)
def Q68 : E := (.f 14 (.v 9) (.v 4) Q67)
def tree : TT (List E) :=
 (.br (tn (.v 1) (.c 0)) (.leaf [(.v 7), (.v 8), (.v 0), (.v 1), (.v 2), (.v 4), (.v 9), (.c 0)]) (.br (tk (.v 0) (.c 0)) (.leaf [(.v 7), (.v 8), (.v 0), (.c 2), (.v 2), (.v 4), (.v 9), (.c 1)]) (.br (tl (.v 3) (.v 0)) (.leaf [(.v 7), (.v 8), (.v 0), (.c 2), (.v 2), (.v 4), (.v 9), (.c 1)]) (.br (tl (.c 0) (.v 0)) (.br (tk (.v 0) (.v 3)) (.new 1000 (t6 (tR Q0 (.c 0))) (.new 1001 (t6 (tR Q0 (.c 1))) (.new 1002 (t6 (tR Q0 (.c 2))) (.new 1003 (t6 (tR Q0 (.c 3))) (.new 1004 (t6 (tR Q0 (.c 4))) (.br (.nt (tR Q0 (.c 5))) (.leaf [(.v 7), (.v 8), (.v 0), (.c 3), (.v 2), (.v 4), (.v 9), (.c 1)]) (.br (tl (.c 0) Q1) (.br (tk Q1 (.c 32)) (.br (tl Q2 (.c 30)) (.br (tl (.c 0) Q3) (.br (tk Q3 (.c 32)) (.new 1005 (.f 63 Q2 Q5 Q7) (.new 1006 (.f 64 Q2 Q5 Q7) (.br (.nt (.cl 1006 0 1)) (.leaf [(.v 7), (.v
 8), (.v 0), (.c 5), (.v 2), (.v 4), (.v 9), (.c 1)]) (.br Q9 (.br Q10 (.br Q11 (.new 1007 Q12 (.leaf [(.f 14 (.v 7) Q8 Q13), (.v 8), Q15, (.v 1), Q17, Q18, Q22, (.c 1)])) (.bad 200)) (.bad 200)) (.new 1007 Q12 (.leaf [(.v 7), (.v 8), Q15, (.v 1), Q17, Q18, Q22, (.c 1)])))))) (.bad 200)) (.bad 200)) (.br (te Q2 (.c 31)) (.br Q9 (.br Q10 (.br Q11 (.leaf [(.f 14 (.v 7) Q8 Q26), (.v 8), Q15, (.v 1), Q28, Q18, Q32, (.c 1)]) (.bad 200)) (.bad 200)) (.leaf [(.v 7), (.v 8), Q15, (.v 1), Q28, Q18, Q32, (.c 1)])) (.br (te Q2 (.c 32)) (.br Q9 (.br Q10 (.br Q11 (.leaf [(.f 14 (.v 7) Q8 (.b .or .i32 Q5 Q24)), (.v 8), Q15, (.v 1), Q28, Q18, Q32, (.c 1)]) (.bad 200)) (.bad 200)) (.leaf [(.v 7), (.v 8), Q15, (.v 1), Q28, Q18, Q32, (.c 1)])) (.br (te Q2 (.c 33)) (.br Q9 (.br Q10 (.br Q11 (.leaf [(.f 14
 (.v 7) Q8 (t3 (.b .shl .u32 (.w .u32 Q23) (.c 16)))), (.v 8), Q15, (.v 1), Q28, Q18, Q32, (.c 1)]) (.bad 200)) (.bad 200)) (.leaf [(.v 7), (.v 8), Q15, (.v 1), Q28, Q18, Q32, (.c 1)])) (.br (te Q2 (.c 34)) (.new 1005 Q26 (.br Q33 (.leaf [(.v 7), (.v 8), (.v 0), (.c 4), (.v 2), (.v 4), (.v 9), (.c 1)]) (.br Q34 (.leaf [(.v 7), (.v 8), (.v 0), (.c 4), (.v 2), (.v 4), (.v 9), (.c 1)]) (.br Q35 (.br Q36 (.br Q37 (.br Q38 (.br Q10 (.br Q11 (.leaf [(.v 7), Q41, Q15, (.v 1), Q45, Q18, Q49, (.c 1)]) (.bad 200)) (.bad 200)) (.br Q9 (.br Q10 (.br Q11 (.leaf [Q52, (.v 8), Q15, (.v 1), Q45, Q18, Q49, (.c 1)]) (.bad 200)) (.bad 200)) (.leaf [(.v 7), (.v 8), Q15, (.v 1), Q45, Q18, Q49, (.c 1)]))) (.br Q38 (.br Q10 (.br Q11 (.leaf [(.v 7), Q41, Q15, (.v 1), Q54, Q18, Q58, (.c 1)]) (.bad 200)) (.bad
 200)) (.br Q9 (.br Q10 (.br Q11 (.leaf [Q52, (.v 8), Q15, (.v 1), Q54, Q18, Q58, (.c 1)]) (.bad 200)) (.bad 200)) (.leaf [(.v 7), (.v 8), Q15, (.v 1), Q54, Q18, Q58, (.c 1)])))) (.bad 200)) (.bad 200))))) (.br Q38 (.new 1005 Q26 (.br Q33 (.leaf [(.v 7), (.v 8), (.v 0), (.c 4), (.v 2), (.v 4), (.v 9), (.c 1)]) (.br Q34 (.leaf [(.v 7), (.v 8), (.v 0), (.c 4), (.v 2), (.v 4), (.v 9), (.c 1)]) (.br Q35 (.br Q36 (.br Q37 (.br Q10 (.br Q11 (.leaf [(.v 7), Q41, Q15, (.v 1), Q45, Q18, Q49, (.c 1)]) (.bad 200)) (.bad 200)) (.br Q10 (.br Q11 (.leaf [(.v 7), Q41, Q15, (.v 1), Q54, Q18, Q58, (.c 1)]) (.bad 200)) (.bad 200))) (.bad 200)) (.bad 200))))) (.br Q10 (.br Q11 (.br (te Q2 (.c 36)) (.br (tn Q40 Q5) (.leaf [(.v 7), (.v 8), Q15, (.v 1), Q28, Q18, Q32, (.c 1)]) (.leaf [(.v 7), (.v 8), Q23, (.v
 1), Q60, Q18, Q64, (.c 1)])) (.br (te Q2 (.c 37)) (.br (te Q40 Q5) (.leaf [(.v 7), (.v 8), Q15, (.v 1), Q28, Q18, Q32, (.c 1)]) (.leaf [(.v 7), (.v 8), Q23, (.v 1), Q60, Q18, Q64, (.c 1)])) (.br (te Q2 (.c 38)) (.br (.nt (tk Q40 Q5)) (.leaf [(.v 7), (.v 8), Q15, (.v 1), Q28, Q18, Q32, (.c 1)]) (.leaf [(.v 7), (.v 8), Q23, (.v 1), Q60, Q18, Q64, (.c 1)])) (.br (te Q2 (.c 40)) (.br Q9 (.new 1005 Q54 (.leaf [(.f 14 (.v 7) Q8 (t3 Q14)), (.v 8), Q23, (.v 1), Q65, Q18, Q68, (.c 1)])) (.new 1005 Q54 (.leaf [(.v 7), (.v 8), Q23, (.v 1), Q65, Q18, Q68, (.c 1)]))) (.br (te Q2 (.c 39)) (.new 1005 Q54 (.leaf [(.v 7), (.v 8), Q23, (.v 1), Q65, Q18, Q68, (.c 1)])) (.br (te Q2 (.c 41)) (.leaf [(.v 7), (.v 8), Q5, (.v 1), Q54, Q18, Q68, (.c 1)]) (.br (te Q2 (.c 43)) (.new 1005 Q54 (.leaf [(.v 7), (.v
 8), (.v 0), (.c 1), Q65, Q18, Q68, (.c 1)])) (.leaf [(.v 7), (.v 8), Q15, (.v 1), Q54, Q18, Q68, (.c 1)])))))))) (.bad 200)) (.bad 200)))))))) (.bad 200)) (.bad 200)))))))) (.bad 200)) (.bad 200)))))
noncomputable def sq0 (g d h i f a b c j e : Int) : Int := (stepZ g d (kZ h (kZ i (kZ f (kZ a (kZ b (kZ c (kZ j (kZ e 0)))))))))
def sL0 (g d h i f a b c j e z0 z3 z6 z8 z10 z12 z14 z17 : Int) : Prop := rowEq [.int .i32] z0 (rdZ (sq0 g d h i f a b c j e) 0) 32 ∧ rowEq [.int .i32] z3 (rdZ (sq0 g d h i f a b c j e) 1) f ∧ (z6 : Int) = (W6 (rdZ (sq0 g d h i f a b c j e) 2)) ∧ (z8 : Int) = (W6 (rdZ (sq0 g d h i f a b c j e) 3)) ∧ (z10 : Int) = (W6 (rdZ (sq0 g d h i f a b c j e) 4)) ∧ (z12 : Int) = (W6 (rdZ (sq0 g d h i f a b c j e) 6)) ∧ rowEq [.int .i64, .int .i64, .int .i64] z14 (rdZ (sq0 g d h i f a b c j e) 5) (W6 (rdZ (sq0 g d h i f a b c j e) 6)) ∧ ((z17 : Int) ≠ 0 ↔ ((Pe b 0) : Int) ≠ 0) ∧ True
def P (a b c d e f g h i j : Int) : Prop :=
 (Pb (Pd b 0) (sL0 g d h i f a b c j e h i a b c e j 0) (Pb (Pl a 0) (sL0 g d h i f a b c j e h i a 2 c e j 1) (Pb (PL d a) (sL0 g d h i f a b c j e h i a 2 c e j 1) (Pm (PL 0 a) (Pm (Pl a d) (Pn (W6 (rdZ (rdZ g a) 0)) (-9223372036854775808) 9223372036854775807 fun y0 => Pn (W6 (rdZ (rdZ g a) 1)) (-9223372036854775808) 9223372036854775807 fun y1 => Pn (W6 (rdZ (rdZ g a) 2)) (-9223372036854775808) 9223372036854775807 fun y2 => Pn (W6 (rdZ (rdZ g a) 3)) (-9223372036854775808) 9223372036854775807 fun y3 => Pn (W6 (rdZ (rdZ g a) 4)) (-9223372036854775808) 9223372036854775807 fun y4 => (Pb (Pe (rdZ (rdZ g a) 5) 0) (sL0 g d h i f a b c j e h i a 3 c e j 1) (Pm (PL 0 y2) (Pm (Pl y2 32) (Pb (PL y0 30) (Pm (PL 0 y3) (Pm (Pl y3 32) (Pn (aluV y0 (W3 (rdZ h y2)) (W3 (rdZ h y3))) (-2147483648)
 2147483647 fun y5 => Pn (aluK y0 (W3 (rdZ h y2)) (W3 (rdZ h y3))) 0 1 fun y6 => (Pb (Pe y6 0) (sL0 g d h i f a b c j e h i a 5 c e j 1) (Pb (Pd y1 0) (Pm (PL 0 y1) (Pm (Pl y1 32) (Pn (aluC y0 (W3 (rdZ h y2))) 0 67 fun y7 => (sL0 g d h i f a b c j e (updZ h y1 y5) i (W6 (a + 1)) b (W6 (c + y7)) (e + 1) (updZ j e (kZ a (kZ (-1) (kZ y7 0)))) 1)))) (Pn (aluC y0 (W3 (rdZ h y2))) 0 67 fun y7 => (sL0 g d h i f a b c j e h i (W6 (a + 1)) b (W6 (c + y7)) (e + 1) (updZ j e (kZ a (kZ (-1) (kZ y7 0)))) 1))))))) (Pb (Pe y0 31) (Pb (Pd y1 0) (Pm (PL 0 y1) (Pm (Pl y1 32) (sL0 g d h i f a b c j e (updZ h y1 (W3 ((W3 (rdZ h y2)) + (W3 y4)))) i (W6 (a + 1)) b (W6 (c + 1)) (e + 1) (updZ j e (kZ a (kZ (-1) (kZ 1 0)))) 1))) (sL0 g d h i f a b c j e h i (W6 (a + 1)) b (W6 (c + 1)) (e + 1) (updZ j e (kZ a (kZ
 (-1) (kZ 1 0)))) 1)) (Pb (Pe y0 32) (Pb (Pd y1 0) (Pm (PL 0 y1) (Pm (Pl y1 32) (sL0 g d h i f a b c j e (updZ h y1 (bor .i32 (W3 (rdZ h y2)) (W3 y4))) i (W6 (a + 1)) b (W6 (c + 1)) (e + 1) (updZ j e (kZ a (kZ (-1) (kZ 1 0)))) 1))) (sL0 g d h i f a b c j e h i (W6 (a + 1)) b (W6 (c + 1)) (e + 1) (updZ j e (kZ a (kZ (-1) (kZ 1 0)))) 1)) (Pb (Pe y0 33) (Pb (Pd y1 0) (Pm (PL 0 y1) (Pm (Pl y1 32) (sL0 g d h i f a b c j e (updZ h y1 (W3 (shlZ .u32 (U3 y4) 16))) i (W6 (a + 1)) b (W6 (c + 1)) (e + 1) (updZ j e (kZ a (kZ (-1) (kZ 1 0)))) 1))) (sL0 g d h i f a b c j e h i (W6 (a + 1)) b (W6 (c + 1)) (e + 1) (updZ j e (kZ a (kZ (-1) (kZ 1 0)))) 1)) (Pb (Pe y0 34) (Pn (W3 ((W3 (rdZ h y2)) + (W3 y4))) (-2147483648) 2147483647 fun y5 => (Pb (Pl y5 0) (sL0 g d h i f a b c j e h i a 4 c e j 1) (Pb (PL f
 y5) (sL0 g d h i f a b c j e h i a 4 c e j 1) (Pm (PL 0 y5) (Pm (Pl y5 f) (Pb (PL 1024 y5) (Pb (Pe y0 35) (Pm (PL 0 y1) (Pm (Pl y1 32) (sL0 g d h i f a b c j e h (updZ i y5 (W3 (rdZ h y1))) (W6 (a + 1)) b (W6 (c + ((opCo y0) + 1))) (e + 1) (updZ j e (kZ a (kZ y5 (kZ ((opCo y0) + 1) 0)))) 1))) (Pb (Pd y1 0) (Pm (PL 0 y1) (Pm (Pl y1 32) (sL0 g d h i f a b c j e (updZ h y1 (W3 (rdZ i y5))) i (W6 (a + 1)) b (W6 (c + ((opCo y0) + 1))) (e + 1) (updZ j e (kZ a (kZ y5 (kZ ((opCo y0) + 1) 0)))) 1))) (sL0 g d h i f a b c j e h i (W6 (a + 1)) b (W6 (c + ((opCo y0) + 1))) (e + 1) (updZ j e (kZ a (kZ y5 (kZ ((opCo y0) + 1) 0)))) 1))) (Pb (Pe y0 35) (Pm (PL 0 y1) (Pm (Pl y1 32) (sL0 g d h i f a b c j e h (updZ i y5 (W3 (rdZ h y1))) (W6 (a + 1)) b (W6 (c + (opCo y0))) (e + 1) (updZ j e (kZ a (kZ y5 (kZ
 (opCo y0) 0)))) 1))) (Pb (Pd y1 0) (Pm (PL 0 y1) (Pm (Pl y1 32) (sL0 g d h i f a b c j e (updZ h y1 (W3 (rdZ i y5))) i (W6 (a + 1)) b (W6 (c + (opCo y0))) (e + 1) (updZ j e (kZ a (kZ y5 (kZ (opCo y0) 0)))) 1))) (sL0 g d h i f a b c j e h i (W6 (a + 1)) b (W6 (c + (opCo y0))) (e + 1) (updZ j e (kZ a (kZ y5 (kZ (opCo y0) 0)))) 1))))))))) (Pb (Pe y0 35) (Pn (W3 ((W3 (rdZ h y2)) + (W3 y4))) (-2147483648) 2147483647 fun y5 => (Pb (Pl y5 0) (sL0 g d h i f a b c j e h i a 4 c e j 1) (Pb (PL f y5) (sL0 g d h i f a b c j e h i a 4 c e j 1) (Pm (PL 0 y5) (Pm (Pl y5 f) (Pb (PL 1024 y5) (Pm (PL 0 y1) (Pm (Pl y1 32) (sL0 g d h i f a b c j e h (updZ i y5 (W3 (rdZ h y1))) (W6 (a + 1)) b (W6 (c + ((opCo y0) + 1))) (e + 1) (updZ j e (kZ a (kZ y5 (kZ ((opCo y0) + 1) 0)))) 1))) (Pm (PL 0 y1) (Pm (Pl y1 32)
 (sL0 g d h i f a b c j e h (updZ i y5 (W3 (rdZ h y1))) (W6 (a + 1)) b (W6 (c + (opCo y0))) (e + 1) (updZ j e (kZ a (kZ y5 (kZ (opCo y0) 0)))) 1))))))))) (Pm (PL 0 y1) (Pm (Pl y1 32) (Pb (Pe y0 36) (Pb (Pd (W3 (rdZ h y1)) (W3 (rdZ h y2))) (sL0 g d h i f a b c j e h i (W6 (a + 1)) b (W6 (c + 1)) (e + 1) (updZ j e (kZ a (kZ (-1) (kZ 1 0)))) 1) (sL0 g d h i f a b c j e h i y4 b (W6 (c + 3)) (e + 1) (updZ j e (kZ a (kZ (-1) (kZ 3 0)))) 1)) (Pb (Pe y0 37) (Pb (Pe (W3 (rdZ h y1)) (W3 (rdZ h y2))) (sL0 g d h i f a b c j e h i (W6 (a + 1)) b (W6 (c + 1)) (e + 1) (updZ j e (kZ a (kZ (-1) (kZ 1 0)))) 1) (sL0 g d h i f a b c j e h i y4 b (W6 (c + 3)) (e + 1) (updZ j e (kZ a (kZ (-1) (kZ 3 0)))) 1)) (Pb (Pe y0 38) (Pb (Pe (Pl (W3 (rdZ h y1)) (W3 (rdZ h y2))) 0) (sL0 g d h i f a b c j e h i (W6 (a +
 1)) b (W6 (c + 1)) (e + 1) (updZ j e (kZ a (kZ (-1) (kZ 1 0)))) 1) (sL0 g d h i f a b c j e h i y4 b (W6 (c + 3)) (e + 1) (updZ j e (kZ a (kZ (-1) (kZ 3 0)))) 1)) (Pb (Pe y0 40) (Pb (Pd y1 0) (Pn (W6 (c + (opCo y0))) (-9223372036854775808) 9223372036854775807 fun y5 => (sL0 g d h i f a b c j e (updZ h y1 (W3 (a + 1))) i y4 b y5 (e + 1) (updZ j e (kZ a (kZ (-1) (kZ (opCo y0) 0)))) 1)) (Pn (W6 (c + (opCo y0))) (-9223372036854775808) 9223372036854775807 fun y5 => (sL0 g d h i f a b c j e h i y4 b y5 (e + 1) (updZ j e (kZ a (kZ (-1) (kZ (opCo y0) 0)))) 1))) (Pb (Pe y0 39) (Pn (W6 (c + (opCo y0))) (-9223372036854775808) 9223372036854775807 fun y5 => (sL0 g d h i f a b c j e h i y4 b y5 (e + 1) (updZ j e (kZ a (kZ (-1) (kZ (opCo y0) 0)))) 1)) (Pb (Pe y0 41) (sL0 g d h i f a b c j e h i (W3
 (rdZ h y2)) b (W6 (c + (opCo y0))) (e + 1) (updZ j e (kZ a (kZ (-1) (kZ (opCo y0) 0)))) 1) (Pb (Pe y0 43) (Pn (W6 (c + (opCo y0))) (-9223372036854775808) 9223372036854775807 fun y5 => (sL0 g d h i f a b c j e h i a 1 y5 (e + 1) (updZ j e (kZ a (kZ (-1) (kZ (opCo y0) 0)))) 1)) (sL0 g d h i f a b c j e h i (W6 (a + 1)) b (W6 (c + (opCo y0))) (e + 1) (updZ j e (kZ a (kZ (-1) (kZ (opCo y0) 0)))) 1)))))))))))))))))))))))))
set_option maxHeartbeats 4000000 in
theorem holds (pc state cost nc nm nr cq rg rm mq : Int) (l_pc : -9223372036854775808 ≤ pc) (u_pc : pc ≤ 9223372036854775807) (l_state : -9223372036854775808 ≤ state) (u_state : state ≤ 9223372036854775807) (l_cost : -9223372036854775808 ≤ cost) (u_cost : cost ≤ 9223372036854775807) (l_nc : 0 ≤ nc) (u_nc : nc ≤ 16384) (l_nm : 0 ≤ nm) (u_nm : nm ≤ 999999) (l_nr : 0 ≤ nr) (u_nr : nr ≤ 2048) (h_pre0 : (okC cq nc) ≠ 0) : P pc state cost nc nm nr cq rg rm mq := by
 delta P sq0 sL0 Pb Pm Pn PL Pl Pe Pd W6 W3 U3 kZ
 simp only [nrm, nro, Int.reduceEq, Int.reduceNeg, reduceIte]
 have hok := (okC_ne cq nc).1 h_pre0
 refine ⟨fun h0 => st_leaf (by simp [Mac.step, h0]) (by omega) (by omega) (by omega) (by omega) (by simp [h0]), fun h0 => ⟨fun h1 => st_leaf (by simp [Mac.step, h0, h1]) (by omega) (by omega) (by omega) (by omega) (by simp [h0]), fun h1 => ⟨fun h2 => st_leaf (by simp [Mac.step, h0, h2]) (by omega) (by omega) (by omega) (by omega) (by simp [h0]), fun h2 => ⟨by omega, by omega, ?_⟩⟩⟩⟩
 intro y0 e0 b0 y1 e1 b1 y2 e2 b2 y3 e3 b3 y4 e4 b4
 refine ⟨fun h3 => st_leaf (by simp [Mac.step, h0, h3]; omega) (by omega) (by omega) (by omega) (by omega) (by simp [h0]), fun h3 => ?_⟩
 have hr := hok pc.toNat (by omega)
 unfold okRow at hr
 rw [show ((pc.toNat : Nat) : Int) = pc by omega, ← e0, ← e1, ← e2, ← e3, ← e4] at hr
 obtain ⟨g0, g1, g2, g3, g4⟩ := hr h3
 have hs : Mac.step cq nc nr ⟨rg, rm, pc, state, cost, mq, nm⟩ = Mac.does ⟨rg, rm, pc, state, cost, mq, nm⟩ nr y0 y1 y2 y3 y4 := by
  unfold Mac.step
  simp only
  rw [if_neg (by omega), if_neg (by omega), if_neg h3, ← e0, ← e1, ← e2, ← e3, ← e4]
 clear e0 e1 e2 e3 e4
 have hx := i64_bd (pc + 1)
 clear hok hr h_pre0
 repeat' (first | refine st_leaf (hs.trans ?_) ?_ ?_ ?_ ?_ ?_ | refine ⟨by omega, ?_⟩ | refine ⟨fun _ => ?_, fun _ => ?_⟩ | intro _)
 all_goals first | exact i64_bd _ | exact i32_in64 _ | omega | skip
 all_goals first | rw [does_alu (by omega)] | ((have hy : y0 = 31 := by omega); subst hy; rw [does_31]) | ((have hy : y0 = 32 := by omega); subst hy; rw [does_32]) | ((have hy : y0 = 33 := by omega); subst hy; rw [does_33]) | ((have hy : y0 = 34 := by omega); subst hy; rw [does_34]) | ((have hy : y0 = 35 := by omega); subst hy; rw [does_35]) | ((have hy : y0 = 36 := by omega); subst hy; rw [does_36]) | ((have hy : y0 = 37 := by omega); subst hy; rw [does_37]) | ((have hy : y0 = 38 := by omega); subst hy; rw [does_38]) | ((have hy : y0 = 39 := by omega); subst hy; rw [does_39]) | ((have hy : y0 = 40 := by omega); subst hy; rw [does_40]) | ((have hy : y0 = 41 := by omega); subst hy; rw [does_41]) | ((have hy : y0 = 42 := by omega); subst hy; rw [does_42]) | ((have hy : y0 = 43 := by omega); subst hy; rw [does_43])
 all_goals try simp only [Mac.mem, Mac.branch, Mac.reg]
 all_goals (repeat (first | rw [put_pos (by omega)] | rw [put_neg (by omega)] | refine (if_pos (by omega)).trans ?_ | refine (if_neg (by omega)).trans ?_ | unfold Mac.memA | unfold Mac.memo | simp only [Mac.reg]))
 all_goals (subst_vars; rfl)
theorem plain (i v ro p) : statH 2 rk tree ⟨i, fN, v, ro, p⟩ = P (i 0) (i 1) (i 2) (i 3) (i 4) (i 5) (i 6) (i 7) (i 8) (i 9) := by kernel_rfl
theorem ran : ranH us (fun _ _ => .auto) rk 2 tree = true := by kernel_rfl
theorem fineT : fineH 2 rk tree = true := by kernel_rfl
theorem fineB : blVb 1000 rk.inb = true := by kernel_rfl
theorem ok : RhOk (cxOf 2) rk.rh := okH us_ok ran fineT fineB okk fun i v ro p hρ hpre => by rw [plain]; have q := hρ.hi; exact holds (i 0) (i 1) (i 2) (i 3) (i 4) (i 5) (i 6) (i 7) (i 8) (i 9) (q 0 _ rfl).1 (q 0 _ rfl).2 (q 1 _ rfl).1 (q 1 _ rfl).2 (q 2 _ rfl).1 (q 2 _ rfl).2 (q 3 _ rfl).1 (q 3 _ rfl).2 (q 4 _ rfl).1 (q 4 _ rfl).2 (q 5 _ rfl).1 (q 5 _ rfl).2 (hpre _ (mg 0 rfl))
end CCStep
namespace CCRun0
def rk : Rk := ⟨28, [(-9223372036854775808, 500000), (0, 16384), (0, 2048)], 5, [.ptr 0 0, .int .i64 (.v 0)], [.cells [.ptr 1 0, .sl (.own 2) 6 (.c 0) (.v 1) none, .int .i32 (.c 0), .int .i32 (.c 0), .int .i32 (.c 0), .int .i32 (.c 0), .int .i32 (.c 0), .int .i32 (.c 0), .int .i32 (.c 0), .int .i32 (.c 0), .int .i32 (.c 0), .int .i32 (.c 0), .int .i32 (.c 0), .int .i32 (.c 0), .int .i32 (.c 0), .int .i32 (.c 0), .int .i32 (.c 0), .int .i32 (.c 0), .int .i32 (.c 0), .int .i32 (.c 0), .int .i32 (.c 0), .int .i32 (.c 0), .int .i32 (.c 0), .int .i32 (.c 0), .int .i32 (.c 0), .int .i32 (.c 0), .int .i32 (.c 0), .int .i32 (.c 0), .int .i32 (.c 0), .int .i32 (.c 0), .int .i32 (.c 0), .int .i32 (.c 0), .int .i32 (.c 0), .int .i32 (.c 0), .int .i64 (.c 0), .int .i64 (.c 0), .int .i64 (.c 0), .lit (.slice none 0 0)] 80 none, .cells [.sl (.own 3) 1 (.c 0) (.v 2) none, .bool (.c 1)] 102 none, .arr [.int .i64, .int .i64, .int .i64, .int .i64, .int .i64, .bool] 86 (.v 3) (.v 1), .arr [.int .i32] 21 (.v 4) (.v 2)], [(.f 68 (.v 3) (.v 1) (.c 0))], .int .i64 (.v 1000000), [.cells ([.ptr 1 0, .sl (.own 2) 6 (.c 0) (.v 1) none] ++ bk32 (.v 1000001) ++ [.int .i64 (.v 1000003), .int .i64 (.v 1000004), .int .i64 (.v 1000005), .sl (.own 4) 3 (.c 0) (.v 1000006) none]) 80 none, .cells [.sl (.own 3) 1 (.c 0) (.v 2) none, .bool (.c 1)] 102 none, .arr [.int .i64, .int .i64, .int .i64, .int .i64, .int .i64, .bool] 86 (.v 3) (.v 1), .arr [.int .i32] 21 (.v 1000002) (.v 2), .arr [.int .i64, .int .i64, .int .i64] 70 (.v 1000007) (.v 1000006)], [.num (.w .i64 (.f 13 (.f 73 (.v 3) (.v 1) (listE [(.v 2), (.v 0), (.f 74 (.v 4) (.c 0) (.c 0))])) (.c 7) (.c 0))), .code [.int .i32] (.f 13 (.f 73 (.v 3) (.v 1) (listE [(.v 2), (.v 0), (.f 74 (.v 4) (.c 0) (.c 0))])) (.c 0) (.c 0)) (.c 32), .code [.int .i32] (.f 13 (.f 73 (.v 3) (.v 1) (listE [(.v 2), (.v 0), (.f 74 (.v 4) (.c 0) (.c 0))])) (.c 1) (.c 0)) (.v 2), .num (.w .i64 (.f 13 (.f 73 (.v 3) (.v 1) (listE [(.v 2), (.v 0), (.f 74 (.v 4) (.c 0) (.c 0))])) (.c 2) (.c 0))), .num (.w .i64 (.f 13 (.f 73 (.v 3) (.v 1) (listE [(.v 2), (.v 0), (.f 74 (.v 4) (.c 0) (.c 0))])) (.c 3) (.c 0))), .num (.w .i64 (.f 13 (.f 73 (.v 3) (.v 1) (listE [(.v 2), (.v 0), (.f 74 (.v 4) (.c 0) (.c 0))])) (.c 4) (.c 0))), .num (.f 75 (.f 73 (.v 3) (.v 1) (listE [(.v 2), (.v 0), (.f 74 (.v 4) (.c 0) (.c 0))])) (.c 0) (.c 0)), .code [.int .i64, .int .i64, .int .i64] (.f 13 (.f 73 (.v 3) (.v 1) (listE [(.v 2), (.v 0), (.f 74 (.v 4) (.c 0) (.c 0))])) (.c 5) (.c 0)) (.f 75 (.f 73 (.v 3) (.v 1) (listE [(.v 2), (.v 0), (.f 74 (.v 4) (.c 0) (.c 0))])) (.c 0) (.c 0))], []⟩
theorem okk : rk.ok = true := by kernel_rfl
theorem okh : rk.rh.ok = true := by kernel_rfl
noncomputable def us : SMs := fun Γ ins n => smH (cxG n Γ ins) [CCStep.rk.rh] (smR (cxG n Γ ins) [])
theorem us_ok : SMsOk us := fun Γ ins n => smH_ok (tabsG n Γ ins) (rhs_cons CCStep.okh (rh_n CCStep.ok) (rhs_nil _)) (smR_ok (tabsG n Γ ins) (rcs_nil _))
def Q0 : E := (.cl 1000 0 4611686018427387904)
def Q1 : E := (.cl 1006 0 1000000)
def Q2 : E := (.cl 1003 (-9223372036854775808) 9223372036854775807)
def Q3 : E := (tp Q0 (.c 1))
def Q4 : E := (.cl 1002 (-9223372036854775808) 9223372036854775807)
def Q5 : E := (.cl 1004 (-9223372036854775808) 9223372036854775807)
def Q6 : E := (tC Q1 (.c 0))
def Q7 : E := (tC (.v 1005) Q6)
def Q8 : E := (tC Q5 Q7)
def Q9 : E := (tC Q2 Q8)
def Q10 : E := (tC Q4 Q9)
def Q11 : E := (tC (.v 2) Q10)
def Q12 : E := (tC (.v 1007) Q11)
def Q13 : E := (tC (.v 1001) Q12)
def Q14 : E := (.f 69 (.v 3) (.v 1) Q13)
def Q15 : E := (tR Q14 (.c 6))
def Q16 : E := (t6 Q15)
def Q17 : E := (tR Q14 (.c 0))
def Q18 : E := (tR Q14 (.c 2))
def Q19 : E := (t6 Q18)
def Q20 : E := (tR Q14 (.c 3))
def Q21 : E := (t6 Q20)
def Q22 : E := (tR Q14 (.c 4))
def Q23 : E := (t6 Q22)
def Q24 : E := (tR Q14 (.c 5))
def Q25 : E := (tR Q14 (.c 1))
def tree : TT (List E) :=
 (.loop ⟨1000, [some (0, 4611686018427387904), none, some (-9223372036854775808, 9223372036854775807), some (-9223372036854775808, 9223372036854775807), some (-9223372036854775808, 9223372036854775807), none, some (0, 1000000), none], [(.c 0), (tC (.c 0) (tC (.c 0) (tC (.c 0) (tC (.c 0) (tC (.c 0) (tC (.c 0) (tC (.c 0) (tC (.c 0) (tC (.c 0) (tC (.c 0) (tC (.c 0) (tC (.c 0) (tC (.c 0) (tC (.c 0) (tC (.c 0) (tC (.c 0) (tC (.c 0) (tC (.c 0) (tC (.c 0) (tC (.c 0) (tC (.c 0) (tC (.c 0) (tC (.c 0) (tC (.c 0) (tC (.c 0) (tC (.c 0) (tC (.c 0) (tC (.c 0) (tC (.c 0) (tC (.c 0) (tC (.c 0) (tC (.c 0) (.c 0))))))))))))))))))))))))))))))))), (.c 0), (.c 0), (.c 0), (.c 0), (.c 0), (.v 4)], 1009⟩ (.br (tk Q0 (.v 0)) (.br (tl Q1 (.c 999999)) (.br (.f 68 (.v 3) (.v 1) (.c 0)) (.br (te Q2 (.c 0)) (.br (tl
 Q3 (.c 4611686018427387904)) (.br (tl (.c 0) Q16) (.br (tl Q16 (.c 1000000)) (.back [Q3, Q17, Q19, Q21, Q23, Q24, Q16, Q25]) (.bad 303)) (.bad 303)) (.bad 303)) (.exit 0)) (.bad 200)) (.bad 200)) (.exit 1)) (.br (te (.v 1009) (.c 0)) (.leaf [Q0, Q17, Q25, Q19, Q21, Q23, Q16, Q24]) (.leaf [Q0, (.v 1001), (.v 1007), Q4, Q2, Q5, Q1, (.v 1005)])))
noncomputable def sq0 (d b y1 y7 c y2 y3 y4 y5 y6 : Int) : Int := (stepZ d b (kZ y1 (kZ y7 (kZ c (kZ y2 (kZ y3 (kZ y4 (kZ y5 (kZ y6 0)))))))))
def sL0 (y0 d b c a e z2 z5 z8 z10 z12 z14 z16 : Int) : Prop := (y0 : Int) = (W6 (rdZ (runP d b (kZ c (kZ a (kZ (nuP e) 0)))) 7)) ∧ rowEq [.int .i32] z2 (rdZ (runP d b (kZ c (kZ a (kZ (nuP e) 0)))) 0) 32 ∧ rowEq [.int .i32] z5 (rdZ (runP d b (kZ c (kZ a (kZ (nuP e) 0)))) 1) c ∧ (z8 : Int) = (W6 (rdZ (runP d b (kZ c (kZ a (kZ (nuP e) 0)))) 2)) ∧ (z10 : Int) = (W6 (rdZ (runP d b (kZ c (kZ a (kZ (nuP e) 0)))) 3)) ∧ (z12 : Int) = (W6 (rdZ (runP d b (kZ c (kZ a (kZ (nuP e) 0)))) 4)) ∧ (z14 : Int) = (mkN (runP d b (kZ c (kZ a (kZ (nuP e) 0))))) ∧ rowEq [.int .i64, .int .i64, .int .i64] z16 (rdZ (runP d b (kZ c (kZ a (kZ (nuP e) 0)))) 5) (mkN (runP d b (kZ c (kZ a (kZ (nuP e) 0))))) ∧ True
def P (a b c d e : Int) : Prop :=
 ∃ I1000 : Int → Int → Int → Int → Int → Int → Int → Int → Nat → Prop, (∃ m, I1000 0 z32 0 0 0 0 0 e m) ∧ ∀ y0 y1 y2 y3 y4 y5 y6 y7 : Int, ∀ m0, ((0 ≤ y0 ∧ y0 ≤ 4611686018427387904) ∧ True ∧ ((-9223372036854775808) ≤ y2 ∧ y2 ≤ 9223372036854775807) ∧ ((-9223372036854775808) ≤ y3 ∧ y3 ≤ 9223372036854775807) ∧ ((-9223372036854775808) ≤ y4 ∧ y4 ≤ 9223372036854775807) ∧ True ∧ (0 ≤ y6 ∧ y6 ≤ 1000000) ∧ True ∧ True) → I1000 y0 y1 y2 y3 y4 y5 y6 y7 m0 → (Pb (Pl y0 a) (Pm (PL y6 999999) (Pm (okC d b) (Pb (Pe y3 0) (Pm (PL (y0 + 1) 4611686018427387904) (Pm (PL 0 (W6 (rdZ (sq0 d b y1 y7 c y2 y3 y4 y5 y6) 6))) (Pm (PL (W6 (rdZ (sq0 d b y1 y7 c y2 y3 y4 y5 y6) 6)) 1000000) (∃ m', m' < m0 ∧ I1000 (y0 + 1) (rdZ (sq0 d b y1 y7 c y2 y3 y4 y5 y6) 0) (W6 (rdZ (sq0 d b y1 y7 c y2 y3 y4 y5 y6) 2)) (W6 (rdZ
 (sq0 d b y1 y7 c y2 y3 y4 y5 y6) 3)) (W6 (rdZ (sq0 d b y1 y7 c y2 y3 y4 y5 y6) 4)) (rdZ (sq0 d b y1 y7 c y2 y3 y4 y5 y6) 5) (W6 (rdZ (sq0 d b y1 y7 c y2 y3 y4 y5 y6) 6)) (rdZ (sq0 d b y1 y7 c y2 y3 y4 y5 y6) 1) m')))) (Pb (Pe (0 : Int) 0) (sL0 y0 d b c a e (rdZ (sq0 d b y1 y7 c y2 y3 y4 y5 y6) 0) (rdZ (sq0 d b y1 y7 c y2 y3 y4 y5 y6) 1) (W6 (rdZ (sq0 d b y1 y7 c y2 y3 y4 y5 y6) 2)) (W6 (rdZ (sq0 d b y1 y7 c y2 y3 y4 y5 y6) 3)) (W6 (rdZ (sq0 d b y1 y7 c y2 y3 y4 y5 y6) 4)) (W6 (rdZ (sq0 d b y1 y7 c y2 y3 y4 y5 y6) 6)) (rdZ (sq0 d b y1 y7 c y2 y3 y4 y5 y6) 5)) (sL0 y0 d b c a e y1 y7 y2 y3 y4 y6 y5))))) (Pb (Pe (1 : Int) 0) (sL0 y0 d b c a e (rdZ (sq0 d b y1 y7 c y2 y3 y4 y5 y6) 0) (rdZ (sq0 d b y1 y7 c y2 y3 y4 y5 y6) 1) (W6 (rdZ (sq0 d b y1 y7 c y2 y3 y4 y5 y6) 2)) (W6 (rdZ (sq0 d b y1
 y7 c y2 y3 y4 y5 y6) 3)) (W6 (rdZ (sq0 d b y1 y7 c y2 y3 y4 y5 y6) 4)) (W6 (rdZ (sq0 d b y1 y7 c y2 y3 y4 y5 y6) 6)) (rdZ (sq0 d b y1 y7 c y2 y3 y4 y5 y6) 5)) (sL0 y0 d b c a e y1 y7 y2 y3 y4 y6 y5)))
set_option maxHeartbeats 4000000 in
theorem holds (fuel nc nr cq rm : Int) (l_fuel : -9223372036854775808 ≤ fuel) (u_fuel : fuel ≤ 500000) (l_nc : 0 ≤ nc) (u_nc : nc ≤ 16384) (l_nr : 0 ≤ nr) (u_nr : nr ≤ 2048) (h_pre0 : (okC cq nc) ≠ 0) : P fuel nc nr cq rm := by
 delta P sq0 sL0 Pb Pm PL Pl Pe W6 kZ z32
 simp only [nrm, nro, Int.reduceEq, Int.reduceNeg, reduceIte]
 have h0 : Mac.ok (macM (nuP rm)) := macM_ok _
 refine ⟨fun n a p s c q l b m => ∃ j : Nat, n = j ∧ Mac.runs cq nc nr j (macM (nuP rm)) = (⟨a, b, p, s, c, q, l⟩, j) ∧ m = (fuel - n).toNat ∧ (j = 0 ∨ n ≤ fuel), ⟨_, 0, rfl, by rw [macM_nu]; rfl, rfl, .inl rfl⟩, ?_⟩
 intro n a p s c q l b m hb hI
 obtain ⟨j, rfl, hr, rfl, hf⟩ := hI
 have hok := runs_ok h0 cq nc nr j
 rw [hr] at hok
 obtain ⟨⟨g1, g2, g3, g4⟩, g5, g6, g7⟩ := hok
 simp only at g1 g2 g3 g4 g5 g6 g7
 have hm : Mac.ok ⟨a, b, p, s, c, q, l⟩ := ⟨g1, g2, g3, g4⟩
 have hn0 : (macM (nuP rm)).nm ≤ 400000 := by rw [macM_nu]; show (0 : Int) ≤ 400000; omega
 have e := stepZ_code cq nc nr ⟨a, b, p, s, c, q, l⟩
 unfold macZ at e
 simp only at e
 obtain ⟨r0, r1, r2, r3, r4, r5, r6⟩ := code_rd (Mac.step cq nc nr ⟨a, b, p, s, c, q, l⟩)
 obtain ⟨⟨k1, k2, k3, k4⟩, k5, k6⟩ := good_step hm cq nc nr
 simp only at k5 k6
 simp only [e, r0, r1, r2, r3, r4, r5, r6]
 have w1 := w64 k1.1 k1.2
 have w2 := w64 k2.1 k2.2
 have w3 := w64 k3.1 k3.2
 have w4 := w64 (x := (Mac.step cq nc nr ⟨a, b, p, s, c, q, l⟩).nm) (by omega) (by omega)
 simp only [w1, w2, w3, w4]
 refine ⟨fun h1 => ⟨by omega, h_pre0, fun h2 => ⟨by omega, by omega, by omega, _, ?_, j + 1, by omega, ?_, rfl, .inr (by omega)⟩, fun h2 => ?_⟩, fun h1 => ?_⟩
 ·omega
 ·rw [runs_succ, hr]
  simp only
  rw [if_pos h2]
 ·have hs := step_stop (m := ⟨a, b, p, s, c, q, l⟩) h2 cq nc nr
  simp only [hs]
  have hstop := runs_stop (cq := cq) (nc := nc) (nr := nr) (m := macM (nuP rm)) (j := j) (by rw [hr]; exact h2) (fuel.toNat - j)
  rw [show j + (fuel.toNat - j) = fuel.toNat by omega, hr] at hstop
  exact runp_leaf hstop rfl (by omega) g1 g2 g3 (by omega) (by omega)
 ·have hj : fuel.toNat = j := by omega
  rw [← hj] at hr
  exact runp_leaf (k := fuel.toNat) hr (by omega) (by omega) g1 g2 g3 (by omega) (by omega)
theorem plain (i v ro p) : statH 2 rk tree ⟨i, fN, v, ro, p⟩ = P (i 0) (i 1) (i 2) (i 3) (i 4) := by kernel_rfl
theorem ran : ranH us (fun _ _ => .auto) rk 2 tree = true := by kernel_rfl
theorem fineT : fineH 2 rk tree = true := by kernel_rfl
theorem fineB : blVb 1000 rk.inb = true := by kernel_rfl
theorem ok : RhOk (cxOf 2) rk.rh := okH us_ok ran fineT fineB okk fun i v ro p hρ hpre => by rw [plain]; have q := hρ.hi; exact holds (i 0) (i 1) (i 2) (i 3) (i 4) (q 0 _ rfl).1 (q 0 _ rfl).2 (q 1 _ rfl).1 (q 1 _ rfl).2 (q 2 _ rfl).1 (q 2 _ rfl).2 (hpre _ (mg 0 rfl))
end CCRun0
namespace CTRun
def rk : Rk := ⟨25, [(-9223372036854775808, 300), (0, 16384), (0, 2048), (0, 1000000), (0, 255), (0, 255), (0, 255)], 19, [.sl (.inp 5) 1 (.c 0) (.v 5) (some (.v 18)), .ptr 0 0, .ptr 1 0], [.cells [.sl (.inp 0) 1 (.c 0) (.v 1) (some (.v 13)), .sl (.inp 1) 1 (.c 0) (.v 2) (some (.v 14)), .sl (.inp 2) 1 (.c 0) (.v 3) (some (.v 15)), .sl (.inp 3) 1 (.c 0) (.v 4) (some (.v 16)), .sl (.inp 4) 1 (.c 0) (.v 6) (some (.v 17))] 27 none, .cells [.int .i64 (.v 0)] 3 none], [(.f 85 (.v 10) (.v 4) (.v 2)), (.b .eq .i64 (.v 5) (.v 4)), (.f 85 (.v 11) (.v 6) (.v 2))], .agg [.int .i64 (.v 1000000), .sl (.own 2) 3 (.c 0) (.v 1000001) none, .sl (.own 3) 1 (.c 0) (.v 1000003) none], [.cells [.sl (.inp 0) 1 (.c 0) (.v 1) (some (.v 13)), .sl (.inp 1) 1 (.c 0) (.v 2) (some (.v 14)), .sl (.inp 2) 1 (.c 0) (.v 3) (some (.v 15)), .sl (.inp 3) 1 (.c 0) (.v 4) (some (.v 16)), .sl (.inp 4) 1 (.c 0) (.v 6) (some (.v 17))] 27 none, .cells [.int .i64 (.v 0)] 3 none, .arr [.int .i64, .int .i64, .int .i64] 70 (.v 1000002) (.v 1000001), .arr [.int .i32] 21 (.v 1000004) (.v 1000003)], [.num (.w .i64 (.f 13 (.f 73 (.f 88 (.v 7) (.v 1) (.c 0)) (.v 1) (listE [(.v 2), (.v 0), (.f 74 (.f 86 (.v 10) (.v 4) (listE [(.v 12), (.v 8)])) (.c 0) (.c 0))])) (.c 3) (.c 0))), .num (.f 75 (.f 73 (.f 88 (.v 7) (.v 1) (.c 0)) (.v 1) (listE [(.v 2), (.v 0), (.f 74 (.f 86 (.v 10) (.v 4) (listE [(.v 12), (.v 8)])) (.c 0) (.c 0))])) (.c 0) (.c 0)), .code [.int .i64, .int .i64, .int .i64] (.f 13 (.f 73 (.f 88 (.v 7) (.v 1) (.c 0)) (.v 1) (listE [(.v 2), (.v 0), (.f 74 (.f 86 (.v 10) (.v 4) (listE [(.v 12), (.v 8)])) (.c 0) (.c 0))])) (.c 5) (.c 0)) (.f 75 (.f 73 (.f 88 (.v 7) (.v 1) (.c 0)) (.v 1) (listE [(.v 2), (.v 0), (.f 74 (.f 86 (.v 10) (.v 4) (listE [(.v 12), (.v 8)])) (.c 0) (.c 0))])) (.c 0) (.c 0)), .num (.v 6), .code [.int .i32] (.f 87 (.v 11) (.v 6) (.f 13 (.f 73 (.f 88 (.v 7) (.v 1) (.c 0)) (.v 1) (listE [(.v 2), (.v 0), (.f 74 (.f 86 (.v 10) (.v 4) (listE [(.v 12), (.v 8)])) (.c 0) (.c 0))])) (.c 1) (.c 0))) (.v 6)], [⟨[.int .u32], (.v 7), (.v 1), (.v 13), none⟩, ⟨[.int .i32], (.v 8), (.v 2), (.v 14), none⟩, ⟨[.bool], (.v 9), (.v 3), (.v 15), none⟩, ⟨[.int .i64], (.v 10), (.v 4), (.v 16), none⟩, ⟨[.int .i64], (.v 11), (.v 6), (.v 17), none⟩, ⟨[.int .i32], (.v 12), (.v 5), (.v 18), none⟩]⟩
theorem okk : rk.ok = true := by kernel_rfl
theorem okh : rk.rh.ok = true := by kernel_rfl
noncomputable def us : SMs := fun Γ ins n => smH (cxG n Γ ins) [CCNew.rk.rh, CCRun0.rk.rh] (smAnd 45 (libClone45 Γ ins n) (smR (cxG n Γ ins) []))
theorem us_ok : SMsOk us := fun Γ ins n => smH_ok (tabsG n Γ ins) (rhs_cons CCNew.okh (rh_n CCNew.ok) (rhs_cons CCRun0.okh (rh_n CCRun0.ok) (rhs_nil _))) (smAnd_ok (libClone45_ok Γ ins n) (smR_ok (tabsG n Γ ins) (rcs_nil _)))
def Q0 : E := (.cl 1000 0 4611686018427387904)
def Q1 : E := (tR (.v 10) Q0)
def Q2 : E := (t6 Q1)
def Q3 : E := (t3 Q1)
def Q4 : E := (tp Q0 (.c 1))
def Q5 : E := (tl Q4 (.c 4611686018427387904))
def Q6 : E := (.f 88 (.v 7) (.v 1) (.c 0))
def Q7 : E := (.cl 1005 0 4611686018427387904)
def Q8 : E := (tR (.v 11) Q7)
def Q9 : E := (t6 Q8)
def Q10 : E := (.cl 1007 0 1000000)
def Q11 : E := (tp Q10 (.c 1))
def Q12 : E := (tl Q11 (.c 1000000))
def Q13 : E := (tp Q7 (.c 1))
def Q14 : E := (tl Q13 (.c 4611686018427387904))
def Q15 : E := (.f 14 (.v 1006) Q10 (.c 0))
def Q16 : E := (t3 Q8)
def Q17 : E := (.f 74 (.v 1001) (.c 0) (.c 0))
def Q18 : E := (tC Q17 (.c 0))
def Q19 : E := (tC (.v 0) Q18)
def Q20 : E := (tC (.v 2) Q19)
def Q21 : E := (.f 73 Q6 (.v 1) Q20)
def tree : TT (List E) :=
 (.loop ⟨1000, [some (0, 4611686018427387904), none], [(.c 0), (.v 8)], 1003⟩ (.br (tk Q0 (.v 5)) (.br (tk Q0 (.v 4)) (.br (tl (.c 0) Q2) (.br (tk Q2 (.c 2048)) (.br (tk Q3 (.c 0)) (.br Q5 (.back [Q4, (.v 1001)]) (.bad 303)) (.br (tl (.v 2) Q3) (.br Q5 (.back [Q4, (.v 1001)]) (.bad 303)) (.br (tl (.c 0) Q3) (.br (tk Q3 (.v 2)) (.br Q5 (.back [Q4, (.f 14 (.v 1001) Q3 (t3 (tR (.v 12) Q0)))]) (.bad 303)) (.bad 200)) (.bad 200)))) (.br Q5 (.back [Q4, (.v 1001)]) (.bad 303))) (.br Q5 (.back [Q4, (.v 1001)]) (.bad 303))) (.bad 200)) (.exit 0)) (.br (.f 68 Q6 (.v 1) (.c 0)) (.loop ⟨1005, [some (0, 4611686018427387904), none, some (0, 1000000)], [(.c 0), (.c 0), (.c 0)], 1009⟩ (.br (tk Q7 (.v 6)) (.br (tl (.c 0) Q9) (.br (.nt (tk Q9 (.c 2048))) (.br Q12 (.br Q14 (.br Q12 (.back [Q13, Q15, Q11])
 (.bad 303)) (.bad 303)) (.bad 200)) (.br (tk Q16 (.c 0)) (.br Q12 (.br Q14 (.br Q12 (.back [Q13, Q15, Q11]) (.bad 303)) (.bad 303)) (.bad 200)) (.br (tl (.v 2) Q16) (.br Q12 (.br Q14 (.br Q12 (.back [Q13, Q15, Q11]) (.bad 303)) (.bad 303)) (.bad 200)) (.br (tl (.c 0) Q16) (.br (tk Q16 (.v 2)) (.br Q12 (.br Q14 (.br Q12 (.back [Q13, (.f 14 (.v 1006) Q10 (t3 (tR (tR Q21 (.c 1)) Q16))), Q11]) (.bad 303)) (.bad 303)) (.bad 200)) (.bad 200)) (.bad 200))))) (.br Q12 (.br Q14 (.br Q12 (.back [Q13, Q15, Q11]) (.bad 303)) (.bad 303)) (.bad 200))) (.exit 0)) (.leaf [(t6 (tR Q21 (.c 3))), (.f 75 Q21 (.c 0) (.c 0)), (tR Q21 (.c 5)), Q10, (.v 1006)])) (.bad 200)))
def sq0 (y7 y5 y6 : Int) (m5 : Nat) (I1005 : Int → Int → Int → Nat → Prop) : Prop := (Pm (PL (y7 + 1) 1000000) (Pm (PL (y5 + 1) 4611686018427387904) (Pm (PL (y7 + 1) 1000000) (∃ m', m' < m5 ∧ I1005 (y5 + 1) (updZ y6 y7 0) (y7 + 1) m'))))
def P (a b c d e f g h i j k l n o p q r s t : Int) : Prop :=
 ∃ I1000 : Int → Int → Nat → Prop, (∃ m, I1000 0 i m) ∧ ∀ y0 y1 : Int, ∀ m0, ((0 ≤ y0 ∧ y0 ≤ 4611686018427387904) ∧ True ∧ True) → I1000 y0 y1 m0 → (Pb (Pl y0 f) (Pm (Pl y0 e) (Pb (PL 0 (W6 (rdZ k y0))) (Pb (Pl (W6 (rdZ k y0)) 2048) (Pb (Pl (W3 (rdZ k y0)) 0) (Pm (PL (y0 + 1) 4611686018427387904) (∃ m', m' < m0 ∧ I1000 (y0 + 1) y1 m')) (Pb (PL c (W3 (rdZ k y0))) (Pm (PL (y0 + 1) 4611686018427387904) (∃ m', m' < m0 ∧ I1000 (y0 + 1) y1 m')) (Pm (PL 0 (W3 (rdZ k y0))) (Pm (Pl (W3 (rdZ k y0)) c) (Pm (PL (y0 + 1) 4611686018427387904) (∃ m', m' < m0 ∧ I1000 (y0 + 1) (updZ y1 (W3 (rdZ k y0)) (W3 (rdZ n y0))) m')))))) (Pm (PL (y0 + 1) 4611686018427387904) (∃ m', m' < m0 ∧ I1000 (y0 + 1) y1 m'))) (Pm (PL (y0 + 1) 4611686018427387904) (∃ m', m' < m0 ∧ I1000 (y0 + 1) y1 m')))) (Pm (okC (decW h b) b)
 (∃ I1005 : Int → Int → Int → Nat → Prop, (∃ m, I1005 0 0 0 m) ∧ ∀ y5 y6 y7 : Int, ∀ m5, ((0 ≤ y5 ∧ y5 ≤ 4611686018427387904) ∧ True ∧ (0 ≤ y7 ∧ y7 ≤ 1000000) ∧ True) → I1005 y5 y6 y7 m5 → (Pb (Pl y5 g) (Pb (PL 0 (W6 (rdZ l y5))) (Pb (Pe (Pl (W6 (rdZ l y5)) 2048) 0) (sq0 y7 y5 y6 m5 I1005) (Pb (Pl (W3 (rdZ l y5)) 0) (sq0 y7 y5 y6 m5 I1005) (Pb (PL c (W3 (rdZ l y5))) (sq0 y7 y5 y6 m5 I1005) (Pm (PL 0 (W3 (rdZ l y5))) (Pm (Pl (W3 (rdZ l y5)) c) (Pm (PL (y7 + 1) 1000000) (Pm (PL (y5 + 1) 4611686018427387904) (Pm (PL (y7 + 1) 1000000) (∃ m', m' < m5 ∧ I1005 (y5 + 1) (updZ y6 y7 (W3 (rdZ (rdZ (runP (decW h b) b (kZ c (kZ a (kZ (nuP y1) 0)))) 1) (W3 (rdZ l y5))))) (y7 + 1) m'))))))))) (sq0 y7 y5 y6 m5 I1005)) (((W6 (rdZ (runP (decW h b) b (kZ c (kZ a (kZ (nuP y1) 0)))) 3)) : Int) = (W6 (rdZ
 (runP (decW h b) b (kZ c (kZ a (kZ (nuP (pokZ k e (kZ n (kZ i 0)))) 0)))) 3)) ∧ ((mkN (runP (decW h b) b (kZ c (kZ a (kZ (nuP y1) 0))))) : Int) = (mkN (runP (decW h b) b (kZ c (kZ a (kZ (nuP (pokZ k e (kZ n (kZ i 0)))) 0))))) ∧ rowEq [.int .i64, .int .i64, .int .i64] (rdZ (runP (decW h b) b (kZ c (kZ a (kZ (nuP y1) 0)))) 5) (rdZ (runP (decW h b) b (kZ c (kZ a (kZ (nuP (pokZ k e (kZ n (kZ i 0)))) 0)))) 5) (mkN (runP (decW h b) b (kZ c (kZ a (kZ (nuP (pokZ k e (kZ n (kZ i 0)))) 0))))) ∧ (y7 : Int) = g ∧ rowEq [.int .i32] y6 (outZ l g (rdZ (runP (decW h b) b (kZ c (kZ a (kZ (nuP (pokZ k e (kZ n (kZ i 0)))) 0)))) 1)) g ∧ True)))))
set_option maxHeartbeats 4000000 in
theorem holds (fuel nK nD nS nI nA nO cK cD cS cI cO cA rK rD rS rI rO rA : Int) (l_fuel : -9223372036854775808 ≤ fuel) (u_fuel : fuel ≤ 300) (l_nK : 0 ≤ nK) (u_nK : nK ≤ 16384) (l_nD : 0 ≤ nD) (u_nD : nD ≤ 2048) (l_nS : 0 ≤ nS) (u_nS : nS ≤ 1000000) (l_nI : 0 ≤ nI) (u_nI : nI ≤ 255) (l_nA : 0 ≤ nA) (u_nA : nA ≤ 255) (l_nO : 0 ≤ nO) (u_nO : nO ≤ 255) (h_pre0 : (adZ cI nI nD) ≠ 0) (h_pre1 : bool01 (nA  ==  nI) ≠ 0) (h_pre2 : (adZ cO nO nD) ≠ 0) : P fuel nK nD nS nI nA nO cK cD cS cI cO cA rK rD rS rI rO rA := by
 delta P sq0 Pb Pm PL Pl Pe W6 W3 kZ
 have hA : nA = nI := by simpa [bool01] using h_pre1
 subst hA
 have hI := adZ_ne.1 h_pre0
 have hO := adZ_ne.1 h_pre2
 have hp : pokZ cI nA (consZ cA (consZ cD 0)) = pokF cI cA cD nA.toNat := pokZ_ev _ _ _ _
 simp only [nrm, nro, Int.reduceEq, Int.reduceNeg, reduceIte]
 refine ⟨fun i q m => i ≤ nA ∧ q = pokF cI cA cD i.toNat ∧ m = (nA - i).toNat, ⟨_, l_nA, rfl, rfl⟩, fun i q m hb hJ => ?_⟩
 obtain ⟨hi, rfl, rfl⟩ := hJ
 refine ⟨fun h => ?_, fun h => ?_⟩
 ·obtain ⟨a0, a1, a2⟩ := ad_at hI hb h u_nD
  rw [a2]
  refine ⟨h, fun _ => ⟨fun _ => ⟨fun g => by omega, fun _ => ⟨fun g => by omega, fun _ => ⟨by omega, by omega, by omega, _, ?_, by omega, ?_, rfl⟩⟩⟩, fun g => by omega⟩, fun g => by omega⟩
  ·omega
  ·rw [show (i + 1).toNat = i.toNat + 1 by omega, pokF, show ((i.toNat : Nat) : Int) = i by omega]
 rw [show i = nA by omega, hp]
 have hok : okC (decW cK nK) nK ≠ 0 := by
  have := okC_dec cK nK.toNat
  rwa [show ((nK.toNat : Nat) : Int) = nK by omega] at this
 refine ⟨hok, ?_⟩
 generalize runP (decW cK nK) nK _ = R
 refine ⟨fun i q n m => n = i ∧ i ≤ nO ∧ q = outF cO (rdZ R 1) i.toNat ∧ m = (nO - i).toNat, ⟨_, rfl, l_nO, rfl, rfl⟩, fun i q n m hb2 hJ => ?_⟩
 obtain ⟨rfl, hi2, rfl, rfl⟩ := hJ
 refine ⟨fun h => ?_, fun h => ?_⟩
 ·obtain ⟨a0, a1, a2⟩ := ad_at hO hb2.1 h u_nD
  rw [a2]
  refine ⟨fun _ => ⟨fun g => by omega, fun _ => ⟨fun g => by omega, fun _ => ⟨fun g => by omega, fun _ => ⟨by omega, by omega, by omega, by omega, by omega, _, ?_, rfl, by omega, ?_, rfl⟩⟩⟩⟩, fun g => by omega⟩
  ·omega
  ·rw [show (n + 1).toNat = n.toNat + 1 by omega, outF, show ((n.toNat : Nat) : Int) = n by omega]
 rw [show n = nO by omega]
 exact ⟨rfl, rfl, rowEq_refl _ _ _, rfl, rowEq_refl _ _ _⟩
theorem plain (i v ro p) : statH 2 rk tree ⟨i, fN, v, ro, p⟩ = P (i 0) (i 1) (i 2) (i 3) (i 4) (i 5) (i 6) (i 7) (i 8) (i 9) (i 10) (i 11) (i 12) (i 13) (i 14) (i 15) (i 16) (i 17) (i 18) := by kernel_rfl
theorem ran : ranH us (fun _ _ => .auto) rk 2 tree = true := by kernel_rfl
theorem fineT : fineH 2 rk tree = true := by kernel_rfl
theorem fineB : blVb 1000 rk.inb = true := by kernel_rfl
theorem ok : RhOk (cxOf 2) rk.rh := okH us_ok ran fineT fineB okk fun i v ro p hρ hpre => by rw [plain]; have q := hρ.hi; exact holds (i 0) (i 1) (i 2) (i 3) (i 4) (i 5) (i 6) (i 7) (i 8) (i 9) (i 10) (i 11) (i 12) (i 13) (i 14) (i 15) (i 16) (i 17) (i 18) (q 0 _ rfl).1 (q 0 _ rfl).2 (q 1 _ rfl).1 (q 1 _ rfl).2 (q 2 _ rfl).1 (q 2 _ rfl).2 (q 3 _ rfl).1 (q 3 _ rfl).2 (q 4 _ rfl).1 (q 4 _ rfl).2 (q 5 _ rfl).1 (q 5 _ rfl).2 (q 6 _ rfl).1 (q 6 _ rfl).2 (hpre _ (mg 0 rfl)) (hpre _ (mg 1 rfl)) (hpre _ (mg 2 rfl))
end CTRun
end Go.Proofs.YtemcjakecoceaaaGreatDoor
