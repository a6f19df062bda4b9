/-
  What functions of the program answer, as numbers of what they are handed: their runs by the engine, the plain statements behind them. No condition.
-/
import Derived.Test.YtkjbmbmdmhfbeacDoorGab
import Derived.Test.YtkjbmbmdmhfbeacDoorGib
import Derived.Test.YtkjbmbmdmhfbeacDoorGp1
import Derived.Test.YtkjbmbmdmhfbeacDoorGp2
set_option linter.unusedVariables false
set_option linter.unusedSimpArgs false
set_option maxRecDepth 100000
namespace Go.Proofs.YtkjbmbmdmhfbeacDoor
open Go.Eng Go.RowKit
namespace CICheck
def rc : Rc := ⟨11, [some 5], [.row [.int .u32] 1000000, .row [.int .i32] 1000000, .row [.bool] 1000000, .row [.int .i64] 1000000, .row [.int .i64] 1000000], [], .one, [.int .i64 (.f 84 (.v 0) (.v 1) (qZx [(.v 2), (.v 3), (.v 4), (.v 8), (.v 9)]))]⟩
theorem okb : rc.ok = true := by kernel_rfl
noncomputable def us : SMs := fun Γ ins n => smH (cxG n Γ ins) [] (smAnd 40 (libSort Γ ins n) (smAnd 30 (libComp Γ ins n) (smR (cxG n Γ ins) [])))
theorem us_ok : SMsOk us := fun Γ ins n => qZu (tabsG n Γ ins) (qZa _) (smAnd_ok (libSort_ok Γ ins n) (smAnd_ok (libComp_ok Γ ins n) (qZs (tabsG n Γ ins) (qZb _))))
def Q0 : E := (.cl 1000 0 4611686018427387904)
def Q1 : E := (.cl 1002 0 1000000)
def Q2 : E := (tp Q1 (.c 1))
def Q3 : E := (tl Q2 (.c 1000000))
def Q4 : E := (tp Q0 (.c 1))
def Q5 : E := (.cl 1006 0 4611686018427387904)
def Q6 : E := (tR (.v 8) Q5)
def Q7 : E := (t6 Q6)
def Q8 : E := (tp Q5 (.c 1))
def Q9 : E := (.cl 1010 0 4611686018427387904)
def Q10 : E := (tR (.v 9) Q9)
def Q11 : E := (t6 Q10)
def Q12 : E := (tp Q9 (.c 1))
def Q13 : E := (.f 42 (.v 1001) Q1 (.c 0))
def Q14 : E := (.f 44 Q13 Q1 (.c 0))
def tree : TT (List E) :=
 (.loop ⟨1000, [some (0, 4611686018427387904), none, some (0, 1000000)], [(.c 0), (.c 0), (.c 0)], 1004⟩ (.br (tk Q0 (.v 3)) (.br Q3 (.br (tl Q4 (.c 4611686018427387904)) (.br Q3 (.back [Q4, (.f 14 (.v 1001) Q1 (t6 (tR (.v 8) Q0))), Q2]) (.bad 303)) (.bad 303)) (.bad 200)) (.exit 0)) (.br (tk (.c 16384) (.v 0)) (.leaf [(.c 5)]) (.br (tk (.c 2048) (.v 1)) (.leaf [(.c 5)]) (.br (tk (.c 255) (.v 3)) (.leaf [(.c 5)]) (.br (tk (.c 255) (.v 4)) (.leaf [(.c 5)]) (.br (tn (.v 2) (.v 1)) (.leaf [(.c 2)]) (.loop ⟨1006, [some (0, 4611686018427387904)], [(.c 0)], 1008⟩ (.br (tk Q5 (.v 3)) (.br (tk Q7 (.c 0)) (.exit 0) (.br (tl (.v 1) Q7) (.exit 1) (.br (tl Q8 (.c 4611686018427387904)) (.back [Q8]) (.bad 303)))) (.exit 2)) (.br (te (.v 1008) (.c 0)) (.leaf [(.c 2)]) (.br (te (.v 1008) (.c 1)) (.leaf
 [(.c 2)]) (.loop ⟨1010, [some (0, 4611686018427387904)], [(.c 0)], 1012⟩ (.br (tk Q9 (.v 4)) (.br (tk Q11 (.c 0)) (.exit 0) (.br (tl (.v 1) Q11) (.exit 1) (.br (tl Q12 (.c 4611686018427387904)) (.back [Q12]) (.bad 303)))) (.exit 2)) (.br (te (.v 1012) (.c 0)) (.leaf [(.c 2)]) (.br (te (.v 1012) (.c 1)) (.leaf [(.c 2)]) (.br (tl (.c 0) Q14) (.br (tn Q14 (.v 3)) (.leaf [(.c 9)]) (.leaf [(.c 0)])) (.bad 200))))))))))))))
noncomputable def sq0 (a b c d e i j : Int) : Int := (chkZ a b (kZ c (kZ d (kZ e (kZ i (kZ j 0))))))
def sq1 (e j a b c d i y1 y2 : Int) : Prop := (∃ I1010 : Int → Nat → Prop, (∃ m, I1010 0 m) ∧ ∀ y10 : Int, ∀ m10, ((0 ≤ y10 ∧ y10 ≤ 4611686018427387904) ∧ True) → I1010 y10 m10 → (Pb (Pl y10 e) (Pb (Pl (W6 (rdZ j y10)) 0) (Pb (Pe (0 : Int) 0) ((2 : Int) = (sq0 a b c d e i j) ∧ True) (Pb (Pe (0 : Int) 1) ((2 : Int) = (sq0 a b c d e i j) ∧ True) (Pm (PL 0 (compN (sortC y1 y2) y2)) (Pb (Pd (compN (sortC y1 y2) y2) d) ((9 : Int) = (sq0 a b c d e i j) ∧ True) ((0 : Int) = (sq0 a b c d e i j) ∧ True))))) (Pb (PL b (W6 (rdZ j y10))) (Pb (Pe (1 : Int) 0) ((2 : Int) = (sq0 a b c d e i j) ∧ True) (Pb (Pe (1 : Int) 1) ((2 : Int) = (sq0 a b c d e i j) ∧ True) (Pm (PL 0 (compN (sortC y1 y2) y2)) (Pb (Pd (compN (sortC y1 y2) y2) d) ((9 : Int) = (sq0 a b c d e i j) ∧ True) ((0 : Int) = (sq0 a b c d e i
 j) ∧ True))))) (Pm (PL (y10 + 1) 4611686018427387904) (∃ m', m' < m10 ∧ I1010 (y10 + 1) m')))) (Pb (Pe (2 : Int) 0) ((2 : Int) = (sq0 a b c d e i j) ∧ True) (Pb (Pe (2 : Int) 1) ((2 : Int) = (sq0 a b c d e i j) ∧ True) (Pm (PL 0 (compN (sortC y1 y2) y2)) (Pb (Pd (compN (sortC y1 y2) y2) d) ((9 : Int) = (sq0 a b c d e i j) ∧ True) ((0 : Int) = (sq0 a b c d e i j) ∧ True)))))))
def P (a b c d e f g h i j k l n o p : Int) : Prop :=
 ∃ I1000 : Int → Int → Int → Nat → Prop, (∃ m, I1000 0 0 0 m) ∧ ∀ y0 y1 y2 : Int, ∀ m0, ((0 ≤ y0 ∧ y0 ≤ 4611686018427387904) ∧ True ∧ (0 ≤ y2 ∧ y2 ≤ 1000000) ∧ True) → I1000 y0 y1 y2 m0 → (Pb (Pl y0 d) (Pm (PL (y2 + 1) 1000000) (Pm (PL (y0 + 1) 4611686018427387904) (Pm (PL (y2 + 1) 1000000) (∃ m', m' < m0 ∧ I1000 (y0 + 1) (updZ y1 y2 (W6 (rdZ i y0))) (y2 + 1) m')))) (Pb (Pl 16384 a) ((5 : Int) = (sq0 a b c d e i j) ∧ True) (Pb (Pl 2048 b) ((5 : Int) = (sq0 a b c d e i j) ∧ True) (Pb (Pl 255 d) ((5 : Int) = (sq0 a b c d e i j) ∧ True) (Pb (Pl 255 e) ((5 : Int) = (sq0 a b c d e i j) ∧ True) (Pb (Pd c b) ((2 : Int) = (sq0 a b c d e i j) ∧ True) (∃ I1006 : Int → Nat → Prop, (∃ m, I1006 0 m) ∧ ∀ y6 : Int, ∀ m6, ((0 ≤ y6 ∧ y6 ≤ 4611686018427387904) ∧ True) → I1006 y6 m6 → (Pb (Pl y6 d) (Pb (Pl
 (W6 (rdZ i y6)) 0) (Pb (Pe (0 : Int) 0) ((2 : Int) = (sq0 a b c d e i j) ∧ True) (Pb (Pe (0 : Int) 1) ((2 : Int) = (sq0 a b c d e i j) ∧ True) (sq1 e j a b c d i y1 y2))) (Pb (PL b (W6 (rdZ i y6))) (Pb (Pe (1 : Int) 0) ((2 : Int) = (sq0 a b c d e i j) ∧ True) (Pb (Pe (1 : Int) 1) ((2 : Int) = (sq0 a b c d e i j) ∧ True) (sq1 e j a b c d i y1 y2))) (Pm (PL (y6 + 1) 4611686018427387904) (∃ m', m' < m6 ∧ I1006 (y6 + 1) m')))) (Pb (Pe (2 : Int) 0) ((2 : Int) = (sq0 a b c d e i j) ∧ True) (Pb (Pe (2 : Int) 1) ((2 : Int) = (sq0 a b c d e i j) ∧ True) (sq1 e j a b c d i y1 y2)))))))))))
theorem holds (n0_0 n0_1 n0_2 n0_3 n0_4 c0_0 c0_1 c0_2 c0_3 c0_4 r0_0 r0_1 r0_2 r0_3 r0_4 : Int) (l_n0_0 : 0 ≤ n0_0) (u_n0_0 : n0_0 ≤ 1000000) (l_n0_1 : 0 ≤ n0_1) (u_n0_1 : n0_1 ≤ 1000000) (l_n0_2 : 0 ≤ n0_2) (u_n0_2 : n0_2 ≤ 1000000) (l_n0_3 : 0 ≤ n0_3) (u_n0_3 : n0_3 ≤ 1000000) (l_n0_4 : 0 ≤ n0_4) (u_n0_4 : n0_4 ≤ 1000000) (h_n0_0 : n0_0 ≤ r0_0) (h_n0_1 : n0_1 ≤ r0_1) (h_n0_2 : n0_2 ≤ r0_2) (h_n0_3 : n0_3 ≤ r0_3) (h_n0_4 : n0_4 ≤ r0_4) : P n0_0 n0_1 n0_2 n0_3 n0_4 c0_0 c0_1 c0_2 c0_3 c0_4 r0_0 r0_1 r0_2 r0_3 r0_4 := by
 delta P sq0 sq1 Pb Pm PL Pl Pe Pd W6 kZ
 simp only [nrm, nro, Int.reduceEq, Int.reduceNeg, reduceIte]
 simp only [chk_ev]
 refine ⟨fun i q n m => n = i ∧ i ≤ n0_3 ∧ (∀ k : Nat, (k : Int) < i → IntKind.wrap .i64 (rdZ q k) = IntKind.wrap .i64 (rdZ c0_3 k)) ∧ m = (n0_3 - i).toNat, ⟨_, rfl, l_n0_3, fun k hk => by omega, rfl⟩, fun i q n m hb hI => ?_⟩
 obtain ⟨rfl, hi, hq, rfl⟩ := hI
 refine ⟨fun h => ⟨by omega, by omega, by omega, _, ?_, rfl, by omega, ?_, rfl⟩, fun h => ?_⟩
 ·omega
 ·intro k hk
  rw [qQt]
  by_cases e : (k : Int) = n
  ·rw [if_pos (by omega), ← e, Go.Eng.wrap_wrap _ _ _ (Nat.le_refl _)]
  ·rw [if_neg (by omega), hq k (by omega)]
 refine ⟨fun h1 => qKk (.inl h1), fun h1 => ⟨fun h2 => qKk (.inr (.inl h2)), fun h2 => ⟨fun h3 => qKk (.inr (.inr (.inl h3))), fun h3 => ⟨fun h4 => qKk (.inr (.inr (.inr h4))), fun h4 => ?_⟩⟩⟩⟩
 have hl : ¬ (16384 < n0_0 ∨ 2048 < n0_1 ∨ 255 < n0_3 ∨ 255 < n0_4) := by omega
 refine ⟨fun h5 => chk_arg hl (.inl h5), fun h5 => ?_⟩
 refine ⟨fun i m => adP c0_3 i n0_1 ∧ i ≤ n0_3 ∧ m = (n0_3 - i).toNat, ⟨_, ad_nil, l_n0_3, rfl⟩, fun i m hb1 hI => ?_⟩
 obtain ⟨hA, hi1, rfl⟩ := hI
 refine ⟨fun g => ⟨fun g1 => chk_arg hl (.inr (.inl (ad_no hb1.1 g (.inl g1)))), fun g1 => ⟨fun g2 => chk_arg hl (.inr (.inl (ad_no hb1.1 g (.inr g2)))), fun g2 => ⟨by omega, _, ?_, ad_snoc hb1.1 hA g1 g2, by omega, rfl⟩⟩⟩, fun g => ?_⟩
 ·omega
 rw [show i = n0_3 by omega] at hA
 refine ⟨fun i m => adP c0_4 i n0_1 ∧ i ≤ n0_4 ∧ m = (n0_4 - i).toNat, ⟨_, ad_nil, l_n0_4, rfl⟩, fun i m hb2 hI => ?_⟩
 obtain ⟨hB, hi2, rfl⟩ := hI
 refine ⟨fun g => ⟨fun g1 => chk_arg hl (.inr (.inr (ad_no hb2.1 g (.inl g1)))), fun g1 => ⟨fun g2 => chk_arg hl (.inr (.inr (ad_no hb2.1 g (.inr g2)))), fun g2 => ⟨by omega, _, ?_, ad_snoc hb2.1 hB g1 g2, by omega, rfl⟩⟩⟩, fun g => ?_⟩
 ·omega
 rw [show i = n0_4 by omega] at hB
 have hn : n = n0_3 := by omega
 rw [hn] at hq ⊢
 have hT := comp_twice (q := q) (c := c0_3) l_n0_3 (by
  unfold rowL
  exact List.map_congr_left fun k hk => hq k (by have := List.mem_range.1 hk; omega))
 refine ⟨by unfold compN; omega, fun g => chk_twice hl h5 hA hB (Classical.byContradiction fun e => g (hT.2 e)), fun g => chk_ok hl h5 hA hB (hT.1 g)⟩
theorem plain (i v ro p) : statR 2 rc tree ⟨i, fN, v, ro, p⟩ = P (i 0) (i 1) (i 2) (i 3) (i 4) (i 5) (i 6) (i 7) (i 8) (i 9) (i 10) (i 11) (i 12) (i 13) (i 14) := by kernel_rfl
theorem ran : ranR us (fun _ _ => .auto) rc 2 tree = true := by kernel_rfl
theorem fineT : fineR 2 rc tree = true := by kernel_rfl
theorem ok : RcOk (cxOf 2) rc := okR us_ok ran fineT okb fun i v ro p hρ hcap hpre => by rw [plain]; have q := hρ.hi; exact holds _ _ _ _ _ _ _ _ _ _ _ _ _ _ _ (q 0 _ rfl).1 (q 0 _ rfl).2 (q 1 _ rfl).1 (q 1 _ rfl).2 (q 2 _ rfl).1 (q 2 _ rfl).2 (q 3 _ rfl).1 (q 3 _ rfl).2 (q 4 _ rfl).1 (q 4 _ rfl).2 (hcap _ (mg 0 rfl)) (hcap _ (mg 1 rfl)) (hcap _ (mg 2 rfl)) (hcap _ (mg 3 rfl)) (hcap _ (mg 4 rfl))
end CICheck
namespace CWBytes
def rc : Rc := ⟨37, [none], [.int .i32], [], .one, [.row [.int .u8] 5 (.f 123 (.v 0) (.c 0) (.c 0)) (.c 4)]⟩
theorem okb : rc.ok = true := by kernel_rfl
noncomputable def us : SMs := fun Γ ins n => smH (cxG n Γ ins) [] (smR (cxG n Γ ins) [])
theorem us_ok : SMsOk us := fun Γ ins n => qZu (tabsG n Γ ins) (qZa _) (qZs (tabsG n Γ ins) (qZb _))
def tree : TT (List E) :=
(.leaf [(.c 4), (.f 11 (.b .shr .u32 (.w .u32 (.v 0)) (.c 24)) (.f 11 (.w .u8 (.b .shr .u32 (.w .u32 (.v 0)) (.c 16))) (.f 11 (.w .u8 (.b .shr .u32 (.w .u32 (.v 0)) (.c 8))) (.f 11 (.w .u8 (.b .shr .u32 (.w .u32 (.v 0)) (.c 0))) (.c 0) (.c 0)) (.c 0)) (.c 0)) (.c 0))])
def P (p0 : Int) : Prop :=
 (4 : Int) = 4 ∧ qZi [.int .u8] (qQz (shrZ .u32 (IntKind.wrap .u32 p0) 24) (qQz (IntKind.wrap .u8 (shrZ .u32 (IntKind.wrap .u32 p0) 16)) (qQz (IntKind.wrap .u8 (shrZ .u32 (IntKind.wrap .u32 p0) 8)) (qQz (IntKind.wrap .u8 (shrZ .u32 (IntKind.wrap .u32 p0) 0)) 0)))) (wbyZ p0) 4 ∧ True
theorem holds (p0 : Int) (l_p0 : -2147483648 ≤ p0) (u_p0 : p0 ≤ 2147483647) : P p0 := by
 unfold P
 simp only [nrm, nro, Int.reduceEq, Int.reduceNeg, reduceIte]
 refine qJq fun i hi => ?_
 rw [wby_rd p0 i (by omega)]
 have e : (qQz (shrZ .u32 (IntKind.wrap .u32 p0) 24) (qQz (IntKind.wrap .u8 (shrZ .u32 (IntKind.wrap .u32 p0) 16)) (qQz (IntKind.wrap .u8 (shrZ .u32 (IntKind.wrap .u32 p0) 8)) (qQz (IntKind.wrap .u8 (shrZ .u32 (IntKind.wrap .u32 p0) 0)) 0)))) = chn [shrZ .u32 (IntKind.wrap .u32 p0) 24, IntKind.wrap .u8 (shrZ .u32 (IntKind.wrap .u32 p0) 16), IntKind.wrap .u8 (shrZ .u32 (IntKind.wrap .u32 p0) 8), IntKind.wrap .u8 (shrZ .u32 (IntKind.wrap .u32 p0) 0)] := rfl
 rw [e, rd_chn]
 have h24 : shrZ .u32 (IntKind.wrap .u32 p0) 24 = IntKind.wrap .u32 p0 / 16777216 := shr_ev .u32 _ 24
 have h16 : shrZ .u32 (IntKind.wrap .u32 p0) 16 = IntKind.wrap .u32 p0 / 65536 := shr_ev .u32 _ 16
 have h8 : shrZ .u32 (IntKind.wrap .u32 p0) 8 = IntKind.wrap .u32 p0 / 256 := shr_ev .u32 _ 8
 rw [h24, h16, h8, sh0]
 have hi : i = 0 ∨ i = 1 ∨ i = 2 ∨ i = 3 := by omega
 have hb := u32_bd p0
 rcases hi with rfl | rfl | rfl | rfl
 ·show IntKind.wrap .u8 (IntKind.wrap .u32 p0 / 16777216) = IntKind.wrap .u8 (nby p0 4 0)
  rw [nby40]
 ·show IntKind.wrap .u8 (IntKind.wrap .u8 (IntKind.wrap .u32 p0 / 65536)) = IntKind.wrap .u8 (nby p0 4 1)
  rw [nby41]; rfl
 ·show IntKind.wrap .u8 (IntKind.wrap .u8 (IntKind.wrap .u32 p0 / 256)) = IntKind.wrap .u8 (nby p0 4 2)
  rw [nby42]; rfl
 ·show IntKind.wrap .u8 (IntKind.wrap .u8 (IntKind.wrap .u32 p0)) = IntKind.wrap .u8 (nby p0 4 3)
  rw [nby43]; rfl
theorem plain (i v ro p) : statR 2 rc tree ⟨i, fN, v, ro, p⟩ = P (i 0) := by kernel_rfl
theorem ran : ranR us (fun _ _ => .auto) rc 2 tree = true := by kernel_rfl
theorem fineT : fineR 2 rc tree = true := by kernel_rfl
theorem ok : RcOk (cxOf 2) rc := okR us_ok ran fineT okb fun i v ro p hρ hcap hpre => by rw [plain]; have q := hρ.hi; exact holds _ (q 0 _ rfl).1 (q 0 _ rfl).2
end CWBytes
namespace CINum
def rk : Rk := ⟨23, [(-9223372036854775808, 9223372036854775807), (1, 4), (0, 900000)], 4, [.ptr 0 0, .int .i64 (.v 0), .int .i64 (.v 1)], [.cells [.sl (.own 1) 1 (.c 0) (.v 2) none] 57 none, .arr [.int .u8] 5 (.v 3) (.v 2)], [], .tup [], [.cells [.sl (.own 2) 1 (.c 0) (.v 1000000) none] 57 none, .gone, .arr [.int .u8] 5 (.v 1000001) (.v 1000000)], [.num (.b .padd .i64 (.v 2) (.v 1)), .code [.int .u8] (.f 122 (.v 3) (.v 2) (qZx [(.v 0), (.v 1)])) (.b .padd .i64 (.v 2) (.v 1))], []⟩
theorem okk : rk.ok = true := by kernel_rfl
theorem okh : rk.rh.ok = true := by kernel_rfl
noncomputable def us : SMs := fun Γ ins n => smH (cxG n Γ ins) [] (smR (cxG n Γ ins) [CWBytes.rc])
theorem us_ok : SMsOk us := fun Γ ins n => qZu (tabsG n Γ ins) (qZa _) (qZs (tabsG n Γ ins) (qQg CWBytes.okb (rc_n CWBytes.ok) (qZb _)))
def tree : TT (List E) :=
(.br (.b .le .i64 (.b .padd .i64 (.b .psub .i64 (.c 4) (.v 1)) (.b .psub .i64 (.c 4) (.b .psub .i64 (.c 4) (.v 1)))) (.c 4))
 (.leaf [(.b .padd .i64 (.v 2) (.b .psub .i64 (.c 4) (.b .psub .i64 (.c 4) (.v 1)))), (.f 16 (.v 3) (.v 2) (.f 18 (.f 123 (.w .i32 (.v 0)) (.c 0) (.c 0)) (.b .psub .i64 (.c 4) (.v 1)) (.c 0)))])
 (.bad 200))
def P (x s n q : Int) : Prop :=
 (((qQq (decide (((4 - s) + (4 - (4 - s))) ≤ 4))) ≠ 0 →
  ((n + (4 - (4 - s))) : Int) = (n + s) ∧ qZi [.int .u8] (appZ q n (dropZ (wbyZ (IntKind.wrap .i32 x)) (4 - s))) (pbZ q n (qQz x (qQz s 0))) (n + s) ∧ True) ∧ ((qQq (decide (((4 - s) + (4 - (4 - s))) ≤ 4))) = 0 →
  False))
theorem holds (x s n q : Int) (l_x : -9223372036854775808 ≤ x) (u_x : x ≤ 9223372036854775807) (l_s : 1 ≤ s) (u_s : s ≤ 4) (l_n : 0 ≤ n) (u_n : n ≤ 900000) : P x s n q := by
 unfold P
 simp only [nrm, nro, Int.reduceEq, Int.reduceNeg, reduceIte]
 refine ⟨by omega, by omega, qJq fun i hi => ?_⟩
 rw [pbZ_rd q x l_n (by omega), rdZ_app]
 by_cases e : n ≤ i ∧ (i : Int) < n + s
 ·rw [if_pos e, if_neg (by omega), rdZ_drop]
  have hk : ((4 - s).toNat + (((((i : Int).toNat - n.toNat : Nat)) : Int)).toNat : Nat) = ((4 - s).toNat + (i - n.toNat)) := by omega
  rw [hk, wby_rd _ _ (by omega), nby_i32, nby_4 x (s := s)]
  congr 2
  omega
 ·rw [if_neg e]
  by_cases g : (i : Int) < n
  ·rw [if_pos (by omega)]
  ·omega
theorem plain (i v ro p) : statH 2 rk tree ⟨i, fN, v, ro, p⟩ = P (i 0) (i 1) (i 2) (i 3) := by kernel_rfl
theorem ran : ranH us (fun _ _ => .auto) rk 2 tree = true := by kernel_rfl
theorem fineT : fineH 2 rk tree = true := by kernel_rfl
theorem ok : RhOk (cxOf 2) rk.rh := okH us_ok ran fineT (by kernel_rfl) okk fun i v ro p hρ hpre => by rw [plain]; have q := hρ.hi; exact holds _ _ _ _ (q 0 _ rfl).1 (q 0 _ rfl).2 (q 1 _ rfl).1 (q 1 _ rfl).2 (q 2 _ rfl).1 (q 2 _ rfl).2
end CINum
namespace CKStep
def rc : Rc := ⟨44, [none, none], [.int .i32, .int .u8], [], .one, [.int .i32 (.f 118 (.v 0) (.v 1) (.c 0))]⟩
theorem okb : rc.ok = true := by kernel_rfl
noncomputable def us : SMs := fun Γ ins n => smH (cxG n Γ ins) [] (smR (cxG n Γ ins) [])
theorem us_ok : SMsOk us := fun Γ ins n => qZu (tabsG n Γ ins) (qZa _) (qZs (tabsG n Γ ins) (qZb _))
def Q0 : E := (.b .and .i32 (.v 0) (.c 65535))
def Q1 : E := (.b .shl .i32 Q0 (.c 4))
def Q2 : E := (tC (.c 61935) (.c 0))
def Q3 : E := (tC (.c 57806) Q2)
def Q4 : E := (tC (.c 53677) Q3)
def Q5 : E := (tC (.c 49548) Q4)
def Q6 : E := (tC (.c 45419) Q5)
def Q7 : E := (tC (.c 41290) Q6)
def Q8 : E := (tC (.c 37161) Q7)
def Q9 : E := (tC (.c 33032) Q8)
def Q10 : E := (tC (.c 28903) Q9)
def Q11 : E := (tC (.c 24774) Q10)
def Q12 : E := (tC (.c 20645) Q11)
def Q13 : E := (tC (.c 16516) Q12)
def Q14 : E := (tC (.c 12387) Q13)
def Q15 : E := (tC (.c 8258) Q14)
def Q16 : E := (tC (.c 4129) Q15)
def Q17 : E := (tC (.c 0) Q16)
def Q18 : E := (.b .shr .i32 Q0 (.c 12))
def Q19 : E := (.b .xor .i32 Q18 (.b .shr .u8 (.v 1) (.c 4)))
def Q20 : E := (.b .and .i32 Q19 (.c 15))
def Q21 : E := (tR Q17 Q20)
def Q22 : E := (t3 Q21)
def Q23 : E := (.b .xor .i32 Q1 Q22)
def Q24 : E := (.b .and .i32 Q23 (.c 65535))
def tree : TT (List E) :=
 (.leaf [(.b .and .i32 (.b .xor .i32 (.b .shl .i32 Q24 (.c 4)) (t3 (tR Q17 (.b .and .i32 (.b .xor .i32 (.b .shr .i32 Q24 (.c 12)) (.b .and .u8 (.v 1) (.c 15))) (.c 15))))) (.c 65535))])
noncomputable def sq0 : Int := (kZ 0 (kZ 4129 (kZ 8258 (kZ 12387 (kZ 16516 (kZ 20645 (kZ 24774 (kZ 28903 (kZ 33032 (kZ 37161 (kZ 41290 (kZ 45419 (kZ 49548 (kZ 53677 (kZ 57806 (kZ 61935 0))))))))))))))))
def P (a b : Int) : Prop :=
 (((band .i32 (bxor .i32 (shlZ .i32 (band .i32 (bxor .i32 (shlZ .i32 (band .i32 a 65535) 4) (W3 (rdZ sq0 (band .i32 (bxor .i32 (shrZ .i32 (band .i32 a 65535) 12) (shrZ .u8 b 4)) 15)))) 65535) 4) (W3 (rdZ sq0 (band .i32 (bxor .i32 (shrZ .i32 (band .i32 (bxor .i32 (shlZ .i32 (band .i32 a 65535) 4) (W3 (rdZ sq0 (band .i32 (bxor .i32 (shrZ .i32 (band .i32 a 65535) 12) (shrZ .u8 b 4)) 15)))) 65535) 12) (band .u8 b 15)) 15)))) 65535) : Int) = (crcS a b) ∧ True)
theorem holds (p0 p1 : Int) (l_p0 : -2147483648 ≤ p0) (u_p0 : p0 ≤ 2147483647) (l_p1 : 0 ≤ p1) (u_p1 : p1 ≤ 255) : P p0 p1 := by
 delta P sq0 W3 kZ
 simp only [nrm, nro, Int.reduceEq, Int.reduceNeg, reduceIte]
 obtain ⟨c, hc⟩ : ∃ c : Nat, p0 % 65536 = (c : Int) := ⟨(p0 % 65536).toNat, by omega⟩
 obtain ⟨b, rfl⟩ : ∃ b : Nat, p1 = (b : Int) := ⟨p1.toNat, by omega⟩
 have hb1 : shrZ .u8 (b : Int) 4 = ((b / 16 : Nat) : Int) := by
  rw [show shrZ .u8 (b : Int) 4 = (b : Int) / 16 from shr_ev .u8 b 4]; omega
 have hb2 : band .u8 (b : Int) 15 = ((b % 16 : Nat) : Int) := by
  show IntKind.wrap .u8 ((BitVec.ofInt 8 (b : Int) &&& BitVec.ofInt 8 15).toNat : Int) = _
  have e2 : (BitVec.ofInt 8 15).toNat = 2 ^ 4 - 1 := by decide
  rw [BitVec.toNat_and, e2, Nat.and_two_pow_sub_one_eq_mod, BitVec.ofInt_natCast, BitVec.toNat_ofNat, show b % 2 ^ 8 % 2 ^ 4 = b % 16 by omega]
  exact w8 (by omega) (by omega)
 have hn : nibN c (b / 16) < 65536 := by unfold nibN; omega
 rw [ba65535 p0, hc, hb1, hb2, nib_word (by omega) (by omega), nib_word hn (by omega)]
 rw [show crcS p0 (b : Int) = crcS (c : Int) (b : Int) by unfold crcS; rw [hc, show (c : Int) % 65536 = c by omega]]
 exact (crcS_nib (by omega) (by omega)).symm
theorem plain (i v ro p) : statR 2 rc tree ⟨i, fN, v, ro, p⟩ = P (i 0) (i 1) := by kernel_rfl
theorem ran : ranR us (fun _ _ => .auto) rc 2 tree = true := by kernel_rfl
theorem fineT : fineR 2 rc tree = true := by kernel_rfl
theorem ok : RcOk (cxOf 2) rc := okR us_ok ran fineT okb fun i v ro p hρ hcap hpre => by rw [plain]; have q := hρ.hi; exact holds _ _ (q 0 _ rfl).1 (q 0 _ rfl).2 (q 1 _ rfl).1 (q 1 _ rfl).2
end CKStep
namespace CKOf
def rc : Rc := ⟨38, [none], [.row [.int .u8] 1000000], [], .one, [.int .i32 (.f 119 (.v 1) (.v 0) (.c 0))]⟩
theorem okb : rc.ok = true := by kernel_rfl
noncomputable def us : SMs := fun Γ ins n => smH (cxG n Γ ins) [] (smR (cxG n Γ ins) [CKStep.rc])
theorem us_ok : SMsOk us := fun Γ ins n => qZu (tabsG n Γ ins) (qZa _) (qZs (tabsG n Γ ins) (qQg CKStep.okb (rc_n CKStep.ok) (qZb _)))
def tree : TT (List E) :=
(.loop ⟨1000, [some (0, 4611686018427387904), some (-2147483648, 2147483647)], [(.c 0), (.c 65535)], 1004⟩
 (.br (.b .lt .i64 (.cl 1000 0 4611686018427387904) (.v 0))
 (.new 1003 (.f 118 (.cl 1001 (-2147483648) 2147483647) (.w .u8 (.f 13 (.v 1) (.cl 1000 0 4611686018427387904) (.c 0))) (.c 0))
 (.br (.b .le .i64 (.b .padd .i64 (.cl 1000 0 4611686018427387904) (.c 1)) (.c 4611686018427387904))
 (.back [(.b .padd .i64 (.cl 1000 0 4611686018427387904) (.c 1)), (.cl 1003 0 65535)])
 (.bad 303)))
 (.exit 0))
 (.leaf [(.cl 1001 (-2147483648) 2147483647)]))
def P (n0 c0 r0 : Int) : Prop :=
 ∃ I1000 : Int → Int → Nat → Prop, (∃ m, I1000 0 65535 m) ∧
 ∀ y1000 y1001 : Int, ∀ m1000, ((0 ≤ y1000 ∧ y1000 ≤ 4611686018427387904) ∧ ((-2147483648) ≤ y1001 ∧ y1001 ≤ 2147483647) ∧ True) → I1000 y1000 y1001 m1000 →
  (((qQq (decide (y1000 < n0))) ≠ 0 →
   ∀ y1003 : Int, y1003 = (crcS y1001 (IntKind.wrap .u8 (rdZ c0 y1000))) → (0 ≤ y1003 ∧ y1003 ≤ 65535) →
   (((qQq (decide ((y1000 + 1) ≤ 4611686018427387904))) ≠ 0 →
    ∃ m', m' < m1000 ∧ I1000 (y1000 + 1) y1003 m') ∧ ((qQq (decide ((y1000 + 1) ≤ 4611686018427387904))) = 0 →
    False))) ∧ ((qQq (decide (y1000 < n0))) = 0 →
   (y1001 : Int) = (crcZ c0 n0) ∧ True))
theorem holds (n0 c0 r0 : Int) (l_n0 : 0 ≤ n0) (u_n0 : n0 ≤ 1000000) (h_n0 : n0 ≤ r0) : P n0 c0 r0 := by
 unfold P
 simp only [nrm, nro, Int.reduceEq, Int.reduceNeg, reduceIte]
 refine ⟨fun i c m => i ≤ n0 ∧ c = crcF c0 i.toNat ∧ m = (n0 - i).toNat, ⟨_, by omega, by simp [crcF], rfl⟩, ?_⟩
 rintro i c m hb ⟨hi, rfl, rfl⟩
 refine ⟨fun h => ?_, fun h => ?_⟩
 ·rintro z rfl hz
  refine ⟨by omega, _, ?_, by omega, ?_, rfl⟩
  ·omega
  ·rw [show (i + 1).toNat = i.toNat + 1 by omega, crcF]
   unfold byt
   rw [Int.toNat_of_nonneg hb.1.1]
 ·unfold crcZ
  rw [show i = n0 by omega]
theorem plain (i v ro p) : statR 2 rc tree ⟨i, fN, v, ro, p⟩ = P (i 0) (i 1) (i 2) := by kernel_rfl
theorem ran : ranR us (fun _ _ => .auto) rc 2 tree = true := by kernel_rfl
theorem fineT : fineR 2 rc tree = true := by kernel_rfl
theorem ok : RcOk (cxOf 2) rc := okR us_ok ran fineT okb fun i v ro p hρ hcap hpre => by rw [plain]; have q := hρ.hi; exact holds _ _ _ (q 0 _ rfl).1 (q 0 _ rfl).2 (hcap _ (mg 0 rfl))
end CKOf
namespace CKSeal
def rc : Rc := ⟨25, [none], [.row [.int .u8] 900000], [], .one, [.row [.int .u8] 5 (.f 120 (.v 1) (.v 0) (.c 0)) (.b .padd .i64 (.v 0) (.c 2))]⟩
theorem okb : rc.ok = true := by kernel_rfl
noncomputable def us : SMs := fun Γ ins n => smH (cxG n Γ ins) [] (smR (cxG n Γ ins) [CKOf.rc])
theorem us_ok : SMsOk us := fun Γ ins n => qZu (tabsG n Γ ins) (qZa _) (qZs (tabsG n Γ ins) (qQg CKOf.okb (rc_n CKOf.ok) (qZb _)))
def tree : TT (List E) :=
(.br (.b .le .i64 (.v 0) (.v 2))
 (.leaf [(.b .padd .i64 (.v 0) (.c 2)), (.f 14 (.f 14 (.f 16 (.c 0) (.c 0) (.v 1)) (.v 0) (.b .shr .i32 (.f 119 (.v 1) (.v 0) (.c 0)) (.c 8))) (.b .padd .i64 (.v 0) (.c 1)) (.w .u8 (.f 119 (.v 1) (.v 0) (.c 0))))])
 (.bad 200))
def P (n0 c0 r0 : Int) : Prop :=
 (((qQq (decide (n0 ≤ r0))) ≠ 0 →
  ((n0 + 2) : Int) = (n0 + 2) ∧ qZi [.int .u8] (updZ (updZ (appZ 0 0 c0) n0 (shrZ .i32 (crcZ c0 n0) 8)) (n0 + 1) (IntKind.wrap .u8 (crcZ c0 n0))) (slcZ c0 n0) (n0 + 2) ∧ True) ∧ ((qQq (decide (n0 ≤ r0))) = 0 →
  False))
theorem holds (n0 c0 r0 : Int) (l_n0 : 0 ≤ n0) (u_n0 : n0 ≤ 900000) (h_n0 : n0 ≤ r0) : P n0 c0 r0 := by
 unfold P
 simp only [nrm, nro, Int.reduceEq, Int.reduceNeg, reduceIte]
 refine ⟨by omega, qJq fun i hi => ?_⟩
 have hc := crcZ_bd c0 n0
 rw [slc_rd l_n0, qQt, qQt, rdZ_app, if_neg (show ¬ ((i : Int).toNat < (0 : Int).toNat) by simp)]
 rw [show shrZ .i32 (crcZ c0 n0) 8 = crcZ c0 n0 / 256 from shr_ev .i32 _ 8]
 by_cases e : (i : Int) = n0 + 1
 ·rw [if_pos (by omega), if_pos e]; simp only [wu8]
 ·rw [if_neg (by omega), if_neg e]
  by_cases g : (i : Int) = n0
  ·rw [if_pos (by omega), if_pos g]
  ·rw [if_neg (by omega), if_neg g]
   congr 2
theorem plain (i v ro p) : statR 2 rc tree ⟨i, fN, v, ro, p⟩ = P (i 0) (i 1) (i 2) := by kernel_rfl
theorem ran : ranR us (fun _ _ => .auto) rc 2 tree = true := by kernel_rfl
theorem fineT : fineR 2 rc tree = true := by kernel_rfl
theorem ok : RcOk (cxOf 2) rc := okR us_ok ran fineT okb fun i v ro p hρ hcap hpre => by rw [plain]; have q := hρ.hi; exact holds _ _ _ (q 0 _ rfl).1 (q 0 _ rfl).2 (hcap _ (mg 0 rfl))
end CKSeal
namespace CIPut
def rc : Rc := ⟨10, [some 5], [.row [.int .u32] 1000000, .row [.int .i32] 1000000, .row [.bool] 1000000, .row [.int .i64] 1000000, .row [.int .i64] 1000000], [], .tup [none, none], [.row [.int .u8] 5 (.f 125 (.v 0) (.v 1) (qZx [(.v 3), (.v 4), (.v 5), (.v 6), (.v 7), (.v 8), (.v 9)])) (.ite (.b .eq .i64 (.f 84 (.v 0) (.v 1) (qZx [(.v 2), (.v 3), (.v 4), (.v 8), (.v 9)])) (.c 0)) (.f 124 (.v 0) (.v 1) (qZx [(.v 3), (.v 4)])) (.c 0)), .int .i64 (.f 84 (.v 0) (.v 1) (qZx [(.v 2), (.v 3), (.v 4), (.v 8), (.v 9)]))]⟩
theorem okb : rc.ok = true := by kernel_rfl
noncomputable def us : SMs := fun Γ ins n => smH (cxG n Γ ins) [CINum.rk.rh] (smR (cxG n Γ ins) [CICheck.rc, CKSeal.rc])
theorem us_ok : SMsOk us := fun Γ ins n => qZu (tabsG n Γ ins) (rhs_cons CINum.okh (rh_n CINum.ok) (qZa _)) (qZs (tabsG n Γ ins) (qQg CICheck.okb (rc_n CICheck.ok) (qQg CKSeal.okb (rc_n CKSeal.ok) (qZb _))))
def Q0 : E := (tC (.c 2) (.c 0))
def Q1 : E := (.cl 1001 0 4611686018427387904)
def Q2 : E := (.cl 1003 0 1000000)
def Q3 : E := (tl Q2 (.c 900000))
def Q4 : E := (tp Q1 (.c 1))
def Q5 : E := (tp Q2 (.c 4))
def Q6 : E := (tC (.c 4) (.c 0))
def Q7 : E := (tp Q2 (.c 2))
def Q8 : E := (.cl 1007 0 4611686018427387904)
def Q9 : E := (.cl 1009 0 1000000)
def Q10 : E := (tl Q9 (.c 900000))
def Q11 : E := (tp Q9 (.c 4))
def Q12 : E := (tl Q11 (.c 900000))
def Q13 : E := (tp Q8 (.c 1))
def Q14 : E := (tl Q13 (.c 4611686018427387904))
def Q15 : E := (tp Q11 (.c 1))
def Q16 : E := (tl Q15 (.c 1000000))
def Q17 : E := (tR (.v 6) Q8)
def Q18 : E := (.w .u32 Q17)
def Q19 : E := (tC Q18 Q6)
def Q20 : E := (.f 122 (.v 1008) Q9 Q19)
def Q21 : E := (tC (.c 1) (.c 0))
def Q22 : E := (tp Q9 (.c 1))
def Q23 : E := (.cl 1013 0 4611686018427387904)
def Q24 : E := (.cl 1015 0 1000000)
def Q25 : E := (tl Q24 (.c 900000))
def Q26 : E := (tp Q23 (.c 1))
def Q27 : E := (tp Q24 (.c 2))
def Q28 : E := (tp Q24 (.c 1))
def Q29 : E := (.cl 1019 0 4611686018427387904)
def Q30 : E := (.cl 1021 0 1000000)
def Q31 : E := (tl Q30 (.c 900000))
def Q32 : E := (tp Q29 (.c 1))
def Q33 : E := (tp Q30 (.c 2))
def tree : TT (List E) :=
 (.br (tl (.v 0) (.v 10)) (.br (tl (.v 1) (.v 11)) (.br (tl (.v 2) (.v 12)) (.br (tl (.v 3) (.v 13)) (.br (tl (.v 4) (.v 14)) (.new 1000 (.f 84 (.v 0) (.v 1) (tC (.v 2) (tC (.v 3) (tC (.v 4) (tC (.v 8) (tC (.v 9) (.c 0))))))) (.br (tn (.cl 1000 0 9) (.c 0)) (.leaf [(.c 0), (.c 0), (.cl 1000 0 9)]) (.loop ⟨1001, [some (0, 4611686018427387904), none, some (0, 1000000)], [(.c 0), (.f 122 (tC (.c 65) (tC (.c 83) (tC (.c 84) (tC (.c 49) (.c 0))))) (.c 4) (tC (.v 0) Q0)), (.c 6)], 1005⟩ (.br (tk Q1 (.v 0)) (.br Q3 (.br (tl Q4 (.c 4611686018427387904)) (.br (tl Q5 (.c 1000000)) (.back [Q4, (.f 122 (.v 1002) Q2 (tC (.w .u32 (tR (.v 5) Q1)) Q6)), Q5]) (.bad 303)) (.bad 303)) (.bad 200)) (.exit 0)) (.br Q3 (.br (tl Q7 (.c 1000000)) (.loop ⟨1007, [some (0, 4611686018427387904), none, some (0,
 1000000)], [(.c 0), (.f 122 (.v 1002) Q2 (tC (.v 1) Q0)), Q7], 1011⟩ (.br (tk Q8 (.v 1)) (.br Q10 (.br (tk Q8 (.v 2)) (.br (tR (.v 7) Q8) (.br Q12 (.br Q14 (.br Q16 (.back [Q13, (.f 122 Q20 Q11 (tC (.c 1) Q21)), Q15]) (.bad 303)) (.bad 303)) (.bad 200)) (.br Q12 (.br Q14 (.br Q16 (.back [Q13, (.f 122 Q20 Q11 (tC (.c 0) Q21)), Q15]) (.bad 303)) (.bad 303)) (.bad 200))) (.bad 200)) (.bad 200)) (.exit 0)) (.br Q10 (.br (tl Q22 (.c 1000000)) (.loop ⟨1013, [some (0, 4611686018427387904), none, some (0, 1000000)], [(.c 0), (.f 122 (.v 1008) Q9 (tC (.v 3) Q21)), Q22], 1017⟩ (.br (tk Q23 (.v 3)) (.br Q25 (.br (tl Q26 (.c 4611686018427387904)) (.br (tl Q27 (.c 1000000)) (.back [Q26, (.f 122 (.v 1014) Q24 (tC (t6 (tR (.v 8) Q23)) Q0)), Q27]) (.bad 303)) (.bad 303)) (.bad 200)) (.exit 0)) (.br Q25
 (.br (tl Q28 (.c 1000000)) (.loop ⟨1019, [some (0, 4611686018427387904), none, some (0, 1000000)], [(.c 0), (.f 122 (.v 1014) Q24 (tC (.v 4) Q21)), Q28], 1023⟩ (.br (tk Q29 (.v 4)) (.br Q31 (.br (tl Q32 (.c 4611686018427387904)) (.br (tl Q33 (.c 1000000)) (.back [Q32, (.f 122 (.v 1020) Q30 (tC (t6 (tR (.v 9) Q29)) Q0)), Q33]) (.bad 303)) (.bad 303)) (.bad 200)) (.exit 0)) (.br Q31 (.leaf [Q33, (.f 120 (.v 1020) Q30 (.c 0)), (.c 0)]) (.bad 200))) (.bad 305)) (.bad 200))) (.bad 305)) (.bad 200))) (.bad 305)) (.bad 200))))) (.bad 200)) (.bad 200)) (.bad 200)) (.bad 200)) (.bad 200))
def sL0 (a b c d e i j f g h z0 z2 z4 z5 : Int) : Prop := (z0 : Int) = (iteZ (Pe (chkZ a b (kZ c (kZ d (kZ e (kZ i (kZ j 0)))))) 0) (putN a b (kZ d (kZ e 0))) 0) ∧ qZi [.int .u8] z2 (putZ a b (kZ d (kZ e (kZ f (kZ g (kZ h (kZ i (kZ j 0)))))))) z4 ∧ (z5 : Int) = (chkZ a b (kZ c (kZ d (kZ e (kZ i (kZ j 0)))))) ∧ True
def P (a b c d e f g h i j k l n o p : Int) : Prop :=
 (Pm (PL a k) (Pm (PL b l) (Pm (PL c n) (Pm (PL d o) (Pm (PL e p) (Pn (chkZ a b (kZ c (kZ d (kZ e (kZ i (kZ j 0)))))) 0 9 fun y0 => (Pb (Pd y0 0) (sL0 a b c d e i j f g h 0 0 0 y0) (∃ I1001 : Int → Int → Int → Nat → Prop, (∃ m, I1001 0 (pbZ (kZ 65 (kZ 83 (kZ 84 (kZ 49 0)))) 4 (kZ a (kZ 2 0))) 6 m) ∧ ∀ y1 y2 y3 : Int, ∀ m1, ((0 ≤ y1 ∧ y1 ≤ 4611686018427387904) ∧ True ∧ (0 ≤ y3 ∧ y3 ≤ 1000000) ∧ True) → I1001 y1 y2 y3 m1 → (Pb (Pl y1 a) (Pm (PL y3 900000) (Pm (PL (y1 + 1) 4611686018427387904) (Pm (PL (y3 + 4) 1000000) (∃ m', m' < m1 ∧ I1001 (y1 + 1) (pbZ y2 y3 (kZ (U3 (rdZ f y1)) (kZ 4 0))) (y3 + 4) m')))) (Pm (PL y3 900000) (Pm (PL (y3 + 2) 1000000) (∃ I1007 : Int → Int → Int → Nat → Prop, (∃ m, I1007 0 (pbZ y2 y3 (kZ b (kZ 2 0))) (y3 + 2) m) ∧ ∀ y7 y8 y9 : Int, ∀ m7, ((0 ≤ y7 ∧ y7 ≤
 4611686018427387904) ∧ True ∧ (0 ≤ y9 ∧ y9 ≤ 1000000) ∧ True) → I1007 y7 y8 y9 m7 → (Pb (Pl y7 b) (Pm (PL y9 900000) (Pm (Pl y7 c) (Pb (rdZ h y7) (Pm (PL (y9 + 4) 900000) (Pm (PL (y7 + 1) 4611686018427387904) (Pm (PL ((y9 + 4) + 1) 1000000) (∃ m', m' < m7 ∧ I1007 (y7 + 1) (pbZ (pbZ y8 y9 (kZ (U3 (rdZ g y7)) (kZ 4 0))) (y9 + 4) (kZ 1 (kZ 1 0))) ((y9 + 4) + 1) m')))) (Pm (PL (y9 + 4) 900000) (Pm (PL (y7 + 1) 4611686018427387904) (Pm (PL ((y9 + 4) + 1) 1000000) (∃ m', m' < m7 ∧ I1007 (y7 + 1) (pbZ (pbZ y8 y9 (kZ (U3 (rdZ g y7)) (kZ 4 0))) (y9 + 4) (kZ 0 (kZ 1 0))) ((y9 + 4) + 1) m'))))))) (Pm (PL y9 900000) (Pm (PL (y9 + 1) 1000000) (∃ I1013 : Int → Int → Int → Nat → Prop, (∃ m, I1013 0 (pbZ y8 y9 (kZ d (kZ 1 0))) (y9 + 1) m) ∧ ∀ y13 y14 y15 : Int, ∀ m13, ((0 ≤ y13 ∧ y13 ≤
 4611686018427387904) ∧ True ∧ (0 ≤ y15 ∧ y15 ≤ 1000000) ∧ True) → I1013 y13 y14 y15 m13 → (Pb (Pl y13 d) (Pm (PL y15 900000) (Pm (PL (y13 + 1) 4611686018427387904) (Pm (PL (y15 + 2) 1000000) (∃ m', m' < m13 ∧ I1013 (y13 + 1) (pbZ y14 y15 (kZ (W6 (rdZ i y13)) (kZ 2 0))) (y15 + 2) m')))) (Pm (PL y15 900000) (Pm (PL (y15 + 1) 1000000) (∃ I1019 : Int → Int → Int → Nat → Prop, (∃ m, I1019 0 (pbZ y14 y15 (kZ e (kZ 1 0))) (y15 + 1) m) ∧ ∀ y19 y20 y21 : Int, ∀ m19, ((0 ≤ y19 ∧ y19 ≤ 4611686018427387904) ∧ True ∧ (0 ≤ y21 ∧ y21 ≤ 1000000) ∧ True) → I1019 y19 y20 y21 m19 → (Pb (Pl y19 e) (Pm (PL y21 900000) (Pm (PL (y19 + 1) 4611686018427387904) (Pm (PL (y21 + 2) 1000000) (∃ m', m' < m19 ∧ I1019 (y19 + 1) (pbZ y20 y21 (kZ (W6 (rdZ j y19)) (kZ 2 0))) (y21 + 2) m')))) (Pm (PL y21 900000) (sL0 a b c
 d e i j f g h (y21 + 2) (slcZ y20 y21) (y21 + 2) 0)))))))))))))))))))))))
theorem holds (n0_0 n0_1 n0_2 n0_3 n0_4 c0_0 c0_1 c0_2 c0_3 c0_4 r0_0 r0_1 r0_2 r0_3 r0_4 : Int) (l_n0_0 : 0 ≤ n0_0) (u_n0_0 : n0_0 ≤ 1000000) (l_n0_1 : 0 ≤ n0_1) (u_n0_1 : n0_1 ≤ 1000000) (l_n0_2 : 0 ≤ n0_2) (u_n0_2 : n0_2 ≤ 1000000) (l_n0_3 : 0 ≤ n0_3) (u_n0_3 : n0_3 ≤ 1000000) (l_n0_4 : 0 ≤ n0_4) (u_n0_4 : n0_4 ≤ 1000000) (h_n0_0 : n0_0 ≤ r0_0) (h_n0_1 : n0_1 ≤ r0_1) (h_n0_2 : n0_2 ≤ r0_2) (h_n0_3 : n0_3 ≤ r0_3) (h_n0_4 : n0_4 ≤ r0_4) : P n0_0 n0_1 n0_2 n0_3 n0_4 c0_0 c0_1 c0_2 c0_3 c0_4 r0_0 r0_1 r0_2 r0_3 r0_4 := by
 delta P sL0 Pb Pm Pn PL Pl Pe Pd W6 U3 kZ
 simp only [nrm, nro, Int.reduceEq, Int.reduceNeg, reduceIte]
 simp only [chk_ev, putN_ev, putZ_ev]
 refine ⟨by omega, by omega, by omega, by omega, by omega, ?_⟩
 rintro z rfl hz
 refine ⟨fun h => ?_, fun h => ?_⟩
 ·rw [if_neg h]
  exact ⟨rfl, qJf _ _ _ (by omega), rfl⟩
 obtain ⟨hC, hD, hI, hO, hS, _⟩ := chk_zero h
 rw [if_pos h, h]
 generalize hB : pB n0_0 n0_1 n0_3 n0_4 c0_0 c0_1 c0_2 c0_3 c0_4 = B
 refine ⟨fun i q n m => i ≤ n0_0 ∧ n = 6 + 4 * i ∧ By B q n ∧ m = (n0_0 - i).toNat, ⟨_, by omega, by omega, ?_, rfl⟩, ?_⟩
 ·rw [← hB]; exact by_nC (pB_mag n0_0 n0_1 n0_3 n0_4 c0_0 c0_1 c0_2 c0_3 c0_4)
 rintro i q n m hb ⟨h1, rfl, h3, rfl⟩
 refine ⟨fun g => ⟨by omega, by omega, by omega, _, ?_, by omega, by omega, ?_, rfl⟩, fun g => ⟨by omega, by omega, ?_⟩⟩
 ·omega
 ·rw [← hB] at h3 ⊢; exact by_C hb.1.1 g rfl h3
 have e : i = n0_0 := by omega
 subst e
 refine ⟨fun j q n m => j ≤ n0_1 ∧ n = 8 + 4 * i + 5 * j ∧ By B q n ∧ m = (n0_1 - j).toNat, ⟨_, by omega, by omega, ?_, rfl⟩, ?_⟩
 ·rw [← hB] at h3 ⊢; exact by_nD l_n0_0 rfl h3
 clear h3
 rintro j q n m hb2 ⟨h1, rfl, h3, rfl⟩
 refine ⟨fun g => ⟨by omega, by omega, fun hs => ⟨by omega, by omega, by omega, _, ?_, by omega, by omega, ?_, rfl⟩, fun hs => ⟨by omega, by omega, by omega, _, ?_, by omega, by omega, ?_, rfl⟩⟩, fun g => ⟨by omega, by omega, ?_⟩⟩
 ·omega
 ·rw [← hB] at h3 ⊢
  exact by_S l_n0_0 hb2.1.1 g (by omega) (by rw [if_pos hs]) (by_D (x := IntKind.wrap .u32 (rdZ c0_1 j)) l_n0_0 hb2.1.1 g rfl (fun t => by rw [nby_u32, nby_i32]) h3)
 ·omega
 ·rw [← hB] at h3 ⊢
  exact by_S l_n0_0 hb2.1.1 g (by omega) (by rw [if_neg (by simpa using hs)]) (by_D (x := IntKind.wrap .u32 (rdZ c0_1 j)) l_n0_0 hb2.1.1 g rfl (fun t => by rw [nby_u32, nby_i32]) h3)
 have e : j = n0_1 := by omega
 subst e
 refine ⟨fun k q n m => k ≤ n0_3 ∧ n = 9 + 4 * i + 5 * j + 2 * k ∧ By B q n ∧ m = (n0_3 - k).toNat, ⟨_, by omega, by omega, ?_, rfl⟩, ?_⟩
 ·rw [← hB] at h3 ⊢; exact by_nI l_n0_0 l_n0_1 rfl h3
 clear h3
 rintro k q n m hb3 ⟨h1, rfl, h3, rfl⟩
 refine ⟨fun g => ⟨by omega, by omega, by omega, _, ?_, by omega, by omega, ?_, rfl⟩, fun g => ⟨by omega, by omega, ?_⟩⟩
 ·omega
 ·rw [← hB] at h3 ⊢; exact by_I l_n0_0 l_n0_1 hb3.1.1 g rfl h3
 have e : k = n0_3 := by omega
 subst e
 refine ⟨fun l q n m => l ≤ n0_4 ∧ n = 10 + 4 * i + 5 * j + 2 * k + 2 * l ∧ By B q n ∧ m = (n0_4 - l).toNat, ⟨_, by omega, by omega, ?_, rfl⟩, ?_⟩
 ·rw [← hB] at h3 ⊢; exact by_nO l_n0_0 l_n0_1 l_n0_3 rfl h3
 clear h3
 rintro l q n m hb4 ⟨h1, rfl, h3, rfl⟩
 refine ⟨fun g => ⟨by omega, by omega, by omega, _, ?_, by omega, by omega, ?_, rfl⟩, fun g => ⟨by omega, ?_⟩⟩
 ·omega
 ·rw [← hB] at h3 ⊢; exact by_O l_n0_0 l_n0_1 l_n0_3 hb4.1.1 rfl h3
 have e : l = n0_4 := by omega
 subst e
 have hp : 10 + 4 * i + 5 * j + 2 * k + 2 * l = pN i j k l := rfl
 rw [hp] at h3 ⊢
 refine ⟨rfl, ?_⟩
 rw [← hB] at h3
 exact ⟨by_end (by unfold pN; omega) h3, rfl⟩
theorem plain (i v ro p) : statR 2 rc tree ⟨i, fN, v, ro, p⟩ = P (i 0) (i 1) (i 2) (i 3) (i 4) (i 5) (i 6) (i 7) (i 8) (i 9) (i 10) (i 11) (i 12) (i 13) (i 14) := by kernel_rfl
theorem ran : ranR us (fun _ _ => .auto) rc 2 tree = true := by kernel_rfl
theorem fineT : fineR 2 rc tree = true := by kernel_rfl
theorem ok : RcOk (cxOf 2) rc := okR us_ok ran fineT okb fun i v ro p hρ hcap hpre => by rw [plain]; have q := hρ.hi; exact holds _ _ _ _ _ _ _ _ _ _ _ _ _ _ _ (q 0 _ rfl).1 (q 0 _ rfl).2 (q 1 _ rfl).1 (q 1 _ rfl).2 (q 2 _ rfl).1 (q 2 _ rfl).2 (q 3 _ rfl).1 (q 3 _ rfl).2 (q 4 _ rfl).1 (q 4 _ rfl).2 (hcap _ (mg 0 rfl)) (hcap _ (mg 1 rfl)) (hcap _ (mg 2 rfl)) (hcap _ (mg 3 rfl)) (hcap _ (mg 4 rfl))
end CIPut
namespace CKOpen
def rc : Rc := ⟨15, [none], [.row [.int .u8] 900000], [], .tup [none, none], [.row [.int .u8] 5 (.v 1) (.ite (.b .eq .i64 (.f 121 (.v 1) (.v 0) (.c 0)) (.c 0)) (.b .psub .i64 (.v 0) (.c 2)) (.c 0)), .int .i64 (.f 121 (.v 1) (.v 0) (.c 0))]⟩
theorem okb : rc.ok = true := by kernel_rfl
noncomputable def us : SMs := fun Γ ins n => smH (cxG n Γ ins) [] (smR (cxG n Γ ins) [CKStep.rc])
theorem us_ok : SMsOk us := fun Γ ins n => qZu (tabsG n Γ ins) (qZa _) (qZs (tabsG n Γ ins) (qQg CKStep.okb (rc_n CKStep.ok) (qZb _)))
def Q0 : E := (.b .psub .i64 (.v 0) (.c 2))
def Q1 : E := (.cl 1000 0 4611686018427387904)
def Q2 : E := (.cl 1001 (-2147483648) 2147483647)
def Q3 : E := (tp Q1 (.c 1))
def Q4 : E := (tp Q0 (.c 1))
def tree : TT (List E) :=
 (.br (tk (.v 0) (.c 2)) (.leaf [(.c 0), (.c 0), (.c 4)]) (.br (tl (.c 0) Q0) (.br (tl Q0 (.v 2)) (.loop ⟨1000, [some (0, 4611686018427387904), some (-2147483648, 2147483647)], [(.c 0), (.c 65535)], 1004⟩ (.br (tk Q1 Q0) (.br (tk Q1 (.v 0)) (.new 1003 (.f 118 Q2 (.w .u8 (tR (.v 1) Q1)) (.c 0)) (.br (tl Q3 (.c 4611686018427387904)) (.back [Q3, (.cl 1003 0 65535)]) (.bad 303))) (.bad 200)) (.exit 0)) (.br (tk Q0 (.v 0)) (.br (tn (.w .u8 (.b .shr .i32 Q2 (.c 8))) (.w .u8 (tR (.v 1) Q0))) (.leaf [(.c 0), (.c 0), (.c 7)]) (.br (tl (.c 0) Q4) (.br (tk Q4 (.v 0)) (.br (tn (.w .u8 Q2) (.w .u8 (tR (.v 1) Q4))) (.leaf [(.c 0), (.c 0), (.c 7)]) (.br (tl Q0 (.v 0)) (.leaf [Q0, (.f 16 (.c 0) (.c 0) (.v 1)), (.c 0)]) (.bad 200))) (.bad 200)) (.bad 200))) (.bad 200))) (.bad 200)) (.bad 200)))
def P (a b c : Int) : Prop :=
 (Pb (Pl a 2) ((0 : Int) = (iteZ (Pe (opeZ b a) 0) (a - 2) 0) ∧ qZi [.int .u8] 0 b 0 ∧ (4 : Int) = (opeZ b a) ∧ True) (Pm (PL 0 (a - 2)) (Pm (PL (a - 2) c) (∃ I1000 : Int → Int → Nat → Prop, (∃ m, I1000 0 65535 m) ∧ ∀ y0 y1 : Int, ∀ m0, ((0 ≤ y0 ∧ y0 ≤ 4611686018427387904) ∧ ((-2147483648) ≤ y1 ∧ y1 ≤ 2147483647) ∧ True) → I1000 y0 y1 m0 → (Pb (Pl y0 (a - 2)) (Pm (Pl y0 a) (Pn (crcS y1 (IntKind.wrap .u8 (rdZ b y0))) 0 65535 fun y3 => (Pm (PL (y0 + 1) 4611686018427387904) (∃ m', m' < m0 ∧ I1000 (y0 + 1) y3 m')))) (Pm (Pl (a - 2) a) (Pb (Pd (IntKind.wrap .u8 (shrZ .i32 y1 8)) (IntKind.wrap .u8 (rdZ b (a - 2)))) ((0 : Int) = (iteZ (Pe (opeZ b a) 0) (a - 2) 0) ∧ qZi [.int .u8] 0 b 0 ∧ (7 : Int) = (opeZ b a) ∧ True) (Pm (PL 0 ((a - 2) + 1)) (Pm (Pl ((a - 2) + 1) a) (Pb (Pd (IntKind.wrap
 .u8 y1) (IntKind.wrap .u8 (rdZ b ((a - 2) + 1)))) ((0 : Int) = (iteZ (Pe (opeZ b a) 0) (a - 2) 0) ∧ qZi [.int .u8] 0 b 0 ∧ (7 : Int) = (opeZ b a) ∧ True) (Pm (PL (a - 2) a) (((a - 2) : Int) = (iteZ (Pe (opeZ b a) 0) (a - 2) 0) ∧ qZi [.int .u8] (appZ 0 0 b) b (a - 2) ∧ (0 : Int) = (opeZ b a) ∧ True))))))))))))
theorem holds (n0 c0 r0 : Int) (l_n0 : 0 ≤ n0) (u_n0 : n0 ≤ 900000) (h_n0 : n0 ≤ r0) : P n0 c0 r0 := by
 delta P Pb Pm Pn PL Pl Pe Pd
 simp only [nrm, nro, Int.reduceEq, Int.reduceNeg, reduceIte]
 refine ⟨fun h => ?_, fun h => ⟨by omega, by omega, fun i c m => i ≤ n0 - 2 ∧ c = crcF c0 i.toNat ∧ m = (n0 - i).toNat, ⟨_, by omega, by simp [crcF], rfl⟩, ?_⟩⟩
 ·have e : opeZ c0 n0 = 4 := by unfold opeZ; rw [if_pos h]
  rw [e]
  exact ⟨rfl, qJf _ _ _ (by omega), rfl⟩
 rintro i c m hb ⟨hi, rfl, rfl⟩
 refine ⟨fun h1 => ⟨by omega, ?_⟩, fun h1 => ⟨by omega, ?_⟩⟩
 ·rintro z rfl hz
  refine ⟨by omega, _, ?_, by omega, ?_, rfl⟩
  ·omega
  ·rw [show (i + 1).toNat = i.toNat + 1 by omega, crcF]
   unfold byt
   rw [Int.toNat_of_nonneg hb.1.1]
 ·have e : i = n0 - 2 := by omega
  subst e
  have hc := crcF_bd c0 (n0 - 2).toNat
  have e3 : crcF c0 (n0 - 2).toNat = crcZ c0 (n0 - 2) := rfl
  rw [e3] at hc ⊢
  have e1 : IntKind.wrap .u8 (shrZ .i32 (crcZ c0 (n0 - 2)) 8) = crcZ c0 (n0 - 2) / 256 := by
   rw [show shrZ .i32 (crcZ c0 (n0 - 2)) 8 = crcZ c0 (n0 - 2) / 256 from shr_ev .i32 _ 8]; exact w8 (by omega) (by omega)
  have e2 : IntKind.wrap .u8 (crcZ c0 (n0 - 2)) = crcZ c0 (n0 - 2) % 256 := rfl
  rw [e1, e2, show n0 - 2 + 1 = n0 - 1 by omega]
  have h0 : ¬ (byt c0 (n0 - 2) = crcZ c0 (n0 - 2) / 256 ∧ byt c0 (n0 - 1) = crcZ c0 (n0 - 2) % 256) → opeZ c0 n0 = 7 := fun hn => by unfold opeZ; rw [if_neg (by omega), if_neg hn]
  unfold byt at h0
  refine ⟨fun hn => ?_, fun h2 => ⟨by omega, by omega, fun hn => ?_, fun h3 => ⟨by omega, ?_⟩⟩⟩
  ·rw [h0 (fun hh => hn hh.1.symm)]
   exact ⟨rfl, qJf _ _ _ (by omega), rfl⟩
  ·rw [h0 (fun hh => hn hh.2.symm)]
   exact ⟨rfl, qJf _ _ _ (by omega), rfl⟩
  ·have h00 : opeZ c0 n0 = 0 := by unfold opeZ byt; rw [if_neg (by omega), if_pos ⟨h2.symm, h3.symm⟩]
   rw [h00]
   refine ⟨rfl, qJq fun i hi => ?_, rfl⟩
   rw [rdZ_app, if_neg (show ¬ ((i : Int).toNat < (0 : Int).toNat) by simp)]
   congr 2
theorem plain (i v ro p) : statR 2 rc tree ⟨i, fN, v, ro, p⟩ = P (i 0) (i 1) (i 2) := by kernel_rfl
theorem ran : ranR us (fun _ _ => .auto) rc 2 tree = true := by kernel_rfl
theorem fineT : fineR 2 rc tree = true := by kernel_rfl
theorem ok : RcOk (cxOf 2) rc := okR us_ok ran fineT okb fun i v ro p hρ hcap hpre => by rw [plain]; have q := hρ.hi; exact holds _ _ _ (q 0 _ rfl).1 (q 0 _ rfl).2 (hcap _ (mg 0 rfl))
end CKOpen
end Go.Proofs.YtkjbmbmdmhfbeacDoor
