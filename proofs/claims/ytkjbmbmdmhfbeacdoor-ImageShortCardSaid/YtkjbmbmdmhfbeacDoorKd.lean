/-
  What functions of the program answer, as numbers of what they are handed: their runs by the engine, the plain statements behind them. No condition.
-/
import Derived.Test.YtkjbmbmdmhfbeacDoorKc
import Derived.Test.YtkjbmbmdmhfbeacDoorGab
import Derived.Test.YtkjbmbmdmhfbeacDoorGp2
set_option linter.unusedVariables false
set_option linter.unusedSimpArgs false
set_option maxRecDepth 100000
namespace Go.Proofs.YtkjbmbmdmhfbeacDoor
open Go.Eng Go.RowKit
namespace CRPut22
def rc : Rc := ⟨6, [some 5], [.row [.int .u32] 1000000, .row [.int .i32] 1000000, .row [.bool] 1000000, .row [.int .i64] 1000000, .row [.int .i64] 1000000], [], .tup [none, none], [.row [.int .u8] 5 (.f 125 (.v 0) (.v 1) (qZx [(.v 3), (.v 4), (.v 5), (.v 6), (.v 7), (.v 8), (.v 9)])) (.ite (.b .eq .i64 (.f 84 (.v 0) (.v 1) (qZx [(.v 2), (.v 3), (.v 4), (.v 8), (.v 9)])) (.c 0)) (.f 124 (.v 0) (.v 1) (qZx [(.v 3), (.v 4)])) (.c 0)), .int .i64 (.f 84 (.v 0) (.v 1) (qZx [(.v 2), (.v 3), (.v 4), (.v 8), (.v 9)]))]⟩
theorem okb : rc.ok = true := by kernel_rfl
noncomputable def us : SMs := fun Γ ins n => smH (cxG n Γ ins) [CRPutN.rk.rh] (smR (cxG n Γ ins) [CRICheck.rc, CRKSeal.rc])
theorem us_ok : SMsOk us := fun Γ ins n => qZu (tabsG n Γ ins) (rhs_cons CRPutN.okh (rh_n CRPutN.ok) (qZa _)) (qZs (tabsG n Γ ins) (qQg CRICheck.okb (rc_n CRICheck.ok) (qQg CRKSeal.okb (rc_n CRKSeal.ok) (qZb _))))
def Q0 : E := (.b .rem .i64 (.v 0) (.c 4294967296))
def Q1 : E := (.cl 1003 0 4611686018427387904)
def Q2 : E := (.cl 1002 0 1000000)
def Q3 : E := (tl Q2 (.c 900000))
def Q4 : E := (tp Q2 (.c 4))
def Q5 : E := (tp Q1 (.c 1))
def Q6 : E := (tC (.c 4) (.c 0))
def Q7 : E := (tp Q2 (.c 2))
def Q8 : E := (tC (.c 2) (.c 0))
def Q9 : E := (.cl 1009 0 4611686018427387904)
def Q10 : E := (.cl 1008 0 1000000)
def Q11 : E := (tl Q10 (.c 900000))
def Q12 : E := (tp Q10 (.c 4))
def Q13 : E := (tp Q12 (.c 1))
def Q14 : E := (tl Q13 (.c 1000000))
def Q15 : E := (tp Q9 (.c 1))
def Q16 : E := (tl Q15 (.c 4611686018427387904))
def Q17 : E := (tR (.v 6) Q9)
def Q18 : E := (t3 Q17)
def Q19 : E := (tC Q18 Q6)
def Q20 : E := (.f 122 (.v 1007) Q10 Q19)
def Q21 : E := (tp Q10 (.c 1))
def Q22 : E := (.cl 1015 0 4611686018427387904)
def Q23 : E := (.cl 1014 0 1000000)
def Q24 : E := (tl Q23 (.c 900000))
def Q25 : E := (tp Q23 (.c 2))
def Q26 : E := (tp Q22 (.c 1))
def Q27 : E := (tp Q23 (.c 1))
def Q28 : E := (.cl 1021 0 4611686018427387904)
def Q29 : E := (.cl 1020 0 1000000)
def Q30 : E := (tl Q29 (.c 900000))
def Q31 : E := (tp Q29 (.c 2))
def Q32 : E := (tp Q28 (.c 1))
def tree : TT (List E) :=
 (.br (tl (.v 0) (.v 10)) (.br (tl (.v 1) (.v 11)) (.br (tl (.v 2) (.v 12)) (.br (tl (.v 3) (.v 13)) (.br (tl (.v 4) (.v 14)) (.new 1000 (.f 84 (.v 0) (.v 1) (tC (.v 2) (tC (.v 3) (tC (.v 4) (tC (.v 8) (tC (.v 9) (.c 0))))))) (.br (tn (.cl 1000 0 9) (.c 0)) (.leaf [(.c 0), (.c 0), (.cl 1000 0 9)]) (.loop ⟨1001, [none, some (0, 1000000), some (0, 4611686018427387904)], [(tC (.c 65) (tC (.c 83) (tC (.c 84) (tC (.c 49) (tC (.b .rem .i64 (.b .quo .i64 Q0 (.c 256)) (.c 256)) (tC (.b .rem .i64 Q0 (.c 256)) (.c 0))))))), (.c 6), (.c 0)], 1005⟩ (.br (tk Q1 (.v 0)) (.br Q3 (.br (tl Q4 (.c 1000000)) (.br (tl Q5 (.c 4611686018427387904)) (.back [(.f 122 (.v 1001) Q2 (tC (.w .u32 (tR (.v 5) Q1)) Q6)), Q4, Q5]) (.bad 303)) (.bad 303)) (.bad 200)) (.exit 0)) (.br Q3 (.br (tl Q7 (.c 1000000)) (.loop
 ⟨1007, [none, some (0, 1000000), some (0, 4611686018427387904)], [(.f 122 (.v 1001) Q2 (tC (.v 1) Q8)), Q7, (.c 0)], 1011⟩ (.br (tk Q9 (.v 1)) (.br Q11 (.br (tk Q9 (.v 2)) (.br (tR (.v 7) Q9) (.br Q14 (.br Q14 (.br Q16 (.back [(.f 14 Q20 Q12 (.c 1)), Q13, Q15]) (.bad 303)) (.bad 303)) (.bad 200)) (.br Q14 (.br Q14 (.br Q16 (.back [(.f 14 Q20 Q12 (.c 0)), Q13, Q15]) (.bad 303)) (.bad 303)) (.bad 200))) (.bad 200)) (.bad 200)) (.exit 0)) (.br Q11 (.br (tl Q21 (.c 1000000)) (.loop ⟨1013, [none, some (0, 1000000), some (0, 4611686018427387904)], [(.f 122 (.v 1007) Q10 (tC (.v 3) (tC (.c 1) (.c 0)))), Q21, (.c 0)], 1017⟩ (.br (tk Q22 (.v 3)) (.br Q24 (.br (tl Q25 (.c 1000000)) (.br (tl Q26 (.c 4611686018427387904)) (.back [(.f 122 (.v 1013) Q23 (tC (t6 (tR (.v 8) Q22)) Q8)), Q25, Q26]) (.bad
 303)) (.bad 303)) (.bad 200)) (.exit 0)) (.br Q24 (.br (tl Q27 (.c 1000000)) (.loop ⟨1019, [none, some (0, 1000000), some (0, 4611686018427387904)], [(.f 122 (.v 1013) Q23 (tC (.v 4) (tC (.c 1) (.c 0)))), Q27, (.c 0)], 1023⟩ (.br (tk Q28 (.v 4)) (.br Q30 (.br (tl Q31 (.c 1000000)) (.br (tl Q32 (.c 4611686018427387904)) (.back [(.f 122 (.v 1019) Q29 (tC (t6 (tR (.v 9) Q28)) Q8)), Q31, Q32]) (.bad 303)) (.bad 303)) (.bad 200)) (.exit 0)) (.br Q30 (.leaf [Q31, (.f 120 (.v 1019) Q29 (.c 0)), (.c 0)]) (.bad 200))) (.bad 305)) (.bad 200))) (.bad 305)) (.bad 200))) (.bad 305)) (.bad 200))))) (.bad 200)) (.bad 200)) (.bad 200)) (.bad 200)) (.bad 200))
def sL0 (a b c d e i j f g h z0 z2 z4 z5 : Int) : Prop := (z0 : Int) = (iteZ (Pe (chkZ a b (kZ c (kZ d (kZ e (kZ i (kZ j 0)))))) 0) (putN a b (kZ d (kZ e 0))) 0) ∧ qZi [.int .u8] z2 (putZ a b (kZ d (kZ e (kZ f (kZ g (kZ h (kZ i (kZ j 0)))))))) z4 ∧ (z5 : Int) = (chkZ a b (kZ c (kZ d (kZ e (kZ i (kZ j 0)))))) ∧ True
def P (a b c d e f g h i j k l n o p : Int) : Prop :=
 (Pm (PL a k) (Pm (PL b l) (Pm (PL c n) (Pm (PL d o) (Pm (PL e p) (Pn (chkZ a b (kZ c (kZ d (kZ e (kZ i (kZ j 0)))))) 0 9 fun y0 => (Pb (Pd y0 0) (sL0 a b c d e i j f g h 0 0 0 y0) (∃ I1001 : Int → Int → Int → Nat → Prop, (∃ m, I1001 (kZ 65 (kZ 83 (kZ 84 (kZ 49 (kZ (BO.ev .rem .i64 (BO.ev .quo .i64 (BO.ev .rem .i64 a 4294967296) 256) 256) (kZ (BO.ev .rem .i64 (BO.ev .rem .i64 a 4294967296) 256) 0)))))) 6 0 m) ∧ ∀ y1 y2 y3 : Int, ∀ m1, (True ∧ (0 ≤ y2 ∧ y2 ≤ 1000000) ∧ (0 ≤ y3 ∧ y3 ≤ 4611686018427387904) ∧ True) → I1001 y1 y2 y3 m1 → (Pb (Pl y3 a) (Pm (PL y2 900000) (Pm (PL (y2 + 4) 1000000) (Pm (PL (y3 + 1) 4611686018427387904) (∃ m', m' < m1 ∧ I1001 (pbZ y1 y2 (kZ (U3 (rdZ f y3)) (kZ 4 0))) (y2 + 4) (y3 + 1) m')))) (Pm (PL y2 900000) (Pm (PL (y2 + 2) 1000000) (∃ I1007 : Int → Int → Int →
 Nat → Prop, (∃ m, I1007 (pbZ y1 y2 (kZ b (kZ 2 0))) (y2 + 2) 0 m) ∧ ∀ y7 y8 y9 : Int, ∀ m7, (True ∧ (0 ≤ y8 ∧ y8 ≤ 1000000) ∧ (0 ≤ y9 ∧ y9 ≤ 4611686018427387904) ∧ True) → I1007 y7 y8 y9 m7 → (Pb (Pl y9 b) (Pm (PL y8 900000) (Pm (Pl y9 c) (Pb (rdZ h y9) (Pm (PL ((y8 + 4) + 1) 1000000) (Pm (PL ((y8 + 4) + 1) 1000000) (Pm (PL (y9 + 1) 4611686018427387904) (∃ m', m' < m7 ∧ I1007 (updZ (pbZ y7 y8 (kZ (W3 (rdZ g y9)) (kZ 4 0))) (y8 + 4) 1) ((y8 + 4) + 1) (y9 + 1) m')))) (Pm (PL ((y8 + 4) + 1) 1000000) (Pm (PL ((y8 + 4) + 1) 1000000) (Pm (PL (y9 + 1) 4611686018427387904) (∃ m', m' < m7 ∧ I1007 (updZ (pbZ y7 y8 (kZ (W3 (rdZ g y9)) (kZ 4 0))) (y8 + 4) 0) ((y8 + 4) + 1) (y9 + 1) m'))))))) (Pm (PL y8 900000) (Pm (PL (y8 + 1) 1000000) (∃ I1013 : Int → Int → Int → Nat → Prop, (∃ m, I1013 (pbZ y7 y8
 (kZ d (kZ 1 0))) (y8 + 1) 0 m) ∧ ∀ y13 y14 y15 : Int, ∀ m13, (True ∧ (0 ≤ y14 ∧ y14 ≤ 1000000) ∧ (0 ≤ y15 ∧ y15 ≤ 4611686018427387904) ∧ True) → I1013 y13 y14 y15 m13 → (Pb (Pl y15 d) (Pm (PL y14 900000) (Pm (PL (y14 + 2) 1000000) (Pm (PL (y15 + 1) 4611686018427387904) (∃ m', m' < m13 ∧ I1013 (pbZ y13 y14 (kZ (W6 (rdZ i y15)) (kZ 2 0))) (y14 + 2) (y15 + 1) m')))) (Pm (PL y14 900000) (Pm (PL (y14 + 1) 1000000) (∃ I1019 : Int → Int → Int → Nat → Prop, (∃ m, I1019 (pbZ y13 y14 (kZ e (kZ 1 0))) (y14 + 1) 0 m) ∧ ∀ y19 y20 y21 : Int, ∀ m19, (True ∧ (0 ≤ y20 ∧ y20 ≤ 1000000) ∧ (0 ≤ y21 ∧ y21 ≤ 4611686018427387904) ∧ True) → I1019 y19 y20 y21 m19 → (Pb (Pl y21 e) (Pm (PL y20 900000) (Pm (PL (y20 + 2) 1000000) (Pm (PL (y21 + 1) 4611686018427387904) (∃ m', m' < m19 ∧ I1019 (pbZ y19 y20 (kZ (W6
 (rdZ j y21)) (kZ 2 0))) (y20 + 2) (y21 + 1) m')))) (Pm (PL y20 900000) (sL0 a b c d e i j f g h (y20 + 2) (slcZ y19 y20) (y20 + 2) 0)))))))))))))))))))))))
theorem holds (n0_0 n0_1 n0_2 n0_3 n0_4 c0_0 c0_1 c0_2 c0_3 c0_4 r0_0 r0_1 r0_2 r0_3 r0_4 : Int) (l_n0_0 : 0 ≤ n0_0) (u_n0_0 : n0_0 ≤ 1000000) (l_n0_1 : 0 ≤ n0_1) (u_n0_1 : n0_1 ≤ 1000000) (l_n0_2 : 0 ≤ n0_2) (u_n0_2 : n0_2 ≤ 1000000) (l_n0_3 : 0 ≤ n0_3) (u_n0_3 : n0_3 ≤ 1000000) (l_n0_4 : 0 ≤ n0_4) (u_n0_4 : n0_4 ≤ 1000000) (h_n0_0 : n0_0 ≤ r0_0) (h_n0_1 : n0_1 ≤ r0_1) (h_n0_2 : n0_2 ≤ r0_2) (h_n0_3 : n0_3 ≤ r0_3) (h_n0_4 : n0_4 ≤ r0_4) : P n0_0 n0_1 n0_2 n0_3 n0_4 c0_0 c0_1 c0_2 c0_3 c0_4 r0_0 r0_1 r0_2 r0_3 r0_4 := by
 delta P sL0 Pb Pm Pn PL Pl Pe Pd W6 W3 U3 kZ
 simp only [nrm, nro, Int.reduceEq, Int.reduceNeg, reduceIte]
 simp only [chk_ev, putN_ev, putZ_ev]
 refine ⟨by omega, by omega, by omega, by omega, by omega, ?_⟩
 rintro z rfl hz
 refine ⟨fun h => ?_, fun h => ?_⟩
 ·rw [if_neg h]
  exact ⟨rfl, qJf _ _ _ (by omega), rfl⟩
 obtain ⟨hC, hD, hI, hO, hS, _⟩ := chk_zero h
 rw [if_pos h, h]
 generalize hB : pB n0_0 n0_1 n0_3 n0_4 c0_0 c0_1 c0_2 c0_3 c0_4 = B
 refine ⟨fun q n i m => i ≤ n0_0 ∧ n = 6 + 4 * i ∧ By B q n ∧ m = (n0_0 - i).toNat, ⟨_, by omega, by omega, ?_, rfl⟩, ?_⟩
 ·have h0 := by_nC (nC := n0_0) (pB_mag n0_0 n0_1 n0_3 n0_4 c0_0 c0_1 c0_2 c0_3 c0_4)
  rw [hB] at h0
  intro t ht
  rw [← h0 t ht, pbZ_rd _ _ (by decide) (by decide)]
  have ha : BO.ev .rem .i64 n0_0 4294967296 = n0_0 := by rw [rem_pos l_n0_0]; omega
  have hb : BO.ev .quo .i64 n0_0 256 = n0_0 / 256 := quo_pos l_n0_0 (by omega) (by decide)
  have hc : BO.ev .rem .i64 (n0_0 / 256) 256 = n0_0 / 256 % 256 := rem_pos (by omega)
  have hd : BO.ev .rem .i64 n0_0 256 = n0_0 % 256 := rem_pos l_n0_0
  rw [ha, hb, hc, hd]
  rw [show (qQz 65 (qQz 83 (qQz 84 (qQz 49 (qQz (n0_0 / 256 % 256) (qQz (n0_0 % 256) 0)))))) = chn [65, 83, 84, 49, n0_0 / 256 % 256, n0_0 % 256] from rfl, show (qQz 65 (qQz 83 (qQz 84 (qQz 49 0)))) = chn [65, 83, 84, 49] from rfl, rd_chn, rd_chn]
  have hu : IntKind.wrap .u32 n0_0 = n0_0 := by rw [u32_mod]; omega
  have ht : t = 0 ∨ t = 1 ∨ t = 2 ∨ t = 3 ∨ t = 4 ∨ t = 5 := by omega
  rcases ht with rfl | rfl | rfl | rfl | rfl | rfl
  ·rfl
  ·rfl
  ·rfl
  ·rfl
  ·rw [if_pos (by decide)]
   show IntKind.wrap .u8 (n0_0 / 256 % 256) = IntKind.wrap .u8 (IntKind.wrap .u32 n0_0 / 256 % 256)
   rw [hu]
  ·rw [if_pos (by decide)]
   show IntKind.wrap .u8 (n0_0 % 256) = IntKind.wrap .u8 (IntKind.wrap .u32 n0_0 / 1 % 256)
   rw [hu, Int.ediv_one]
 rintro q n i m hb ⟨h1, rfl, h3, rfl⟩
 refine ⟨fun g => ⟨by omega, by omega, by omega, _, ?_, by omega, by omega, ?_, rfl⟩, fun g => ⟨by omega, by omega, ?_⟩⟩
 ·omega
 ·rw [← hB] at h3 ⊢; exact by_C hb.2.1 g rfl h3
 have e : i = n0_0 := by omega
 subst e
 refine ⟨fun q n j m => j ≤ n0_1 ∧ n = 8 + 4 * i + 5 * j ∧ By B q n ∧ m = (n0_1 - j).toNat, ⟨_, by omega, by omega, ?_, rfl⟩, ?_⟩
 ·rw [← hB] at h3 ⊢; exact by_nD l_n0_0 rfl h3
 clear h3
 rintro q n j m hb2 ⟨h1, rfl, h3, rfl⟩
 refine ⟨fun g => ⟨by omega, by omega, fun hs => ⟨by omega, by omega, by omega, _, ?_, by omega, by omega, ?_, rfl⟩, fun hs => ⟨by omega, by omega, by omega, _, ?_, by omega, by omega, ?_, rfl⟩⟩, fun g => ⟨by omega, by omega, ?_⟩⟩
 ·omega
 ·rw [← hB] at h3 ⊢
  exact by_S1 l_n0_0 hb2.2.1 g (by omega) (by rw [if_pos hs]) (by_D (x := IntKind.wrap .i32 (rdZ c0_1 j)) l_n0_0 hb2.2.1 g rfl (fun t => rfl) h3)
 ·omega
 ·rw [← hB] at h3 ⊢
  exact by_S1 l_n0_0 hb2.2.1 g (by omega) (by rw [if_neg (by simpa using hs)]) (by_D (x := IntKind.wrap .i32 (rdZ c0_1 j)) l_n0_0 hb2.2.1 g rfl (fun t => rfl) h3)
 have e : j = n0_1 := by omega
 subst e
 refine ⟨fun q n k m => k ≤ n0_3 ∧ n = 9 + 4 * i + 5 * j + 2 * k ∧ By B q n ∧ m = (n0_3 - k).toNat, ⟨_, by omega, by omega, ?_, rfl⟩, ?_⟩
 ·rw [← hB] at h3 ⊢; exact by_nI l_n0_0 l_n0_1 rfl h3
 clear h3
 rintro q n k m hb3 ⟨h1, rfl, h3, rfl⟩
 refine ⟨fun g => ⟨by omega, by omega, by omega, _, ?_, by omega, by omega, ?_, rfl⟩, fun g => ⟨by omega, by omega, ?_⟩⟩
 ·omega
 ·rw [← hB] at h3 ⊢; exact by_I l_n0_0 l_n0_1 hb3.2.1 g rfl h3
 have e : k = n0_3 := by omega
 subst e
 refine ⟨fun q n l m => l ≤ n0_4 ∧ n = 10 + 4 * i + 5 * j + 2 * k + 2 * l ∧ By B q n ∧ m = (n0_4 - l).toNat, ⟨_, by omega, by omega, ?_, rfl⟩, ?_⟩
 ·rw [← hB] at h3 ⊢; exact by_nO l_n0_0 l_n0_1 l_n0_3 rfl h3
 clear h3
 rintro q n l m hb4 ⟨h1, rfl, h3, rfl⟩
 refine ⟨fun g => ⟨by omega, by omega, by omega, _, ?_, by omega, by omega, ?_, rfl⟩, fun g => ⟨by omega, ?_⟩⟩
 ·omega
 ·rw [← hB] at h3 ⊢; exact by_O l_n0_0 l_n0_1 l_n0_3 hb4.2.1 rfl h3
 have e : l = n0_4 := by omega
 subst e
 have hp : 10 + 4 * i + 5 * j + 2 * k + 2 * l = pN i j k l := rfl
 rw [hp] at h3 ⊢
 refine ⟨rfl, ?_⟩
 rw [← hB] at h3
 exact ⟨by_end (by unfold pN; omega) h3, rfl⟩
theorem plain (i v ro p) : statR 2 rc tree ⟨i, fN, v, ro, p⟩ = P (i 0) (i 1) (i 2) (i 3) (i 4) (i 5) (i 6) (i 7) (i 8) (i 9) (i 10) (i 11) (i 12) (i 13) (i 14) := by kernel_rfl
theorem ran : ranR us (fun _ _ => .auto) rc 2 tree = true := by kernel_rfl
theorem fineT : fineR 2 rc tree = true := by kernel_rfl
theorem ok : RcOk (cxOf 2) rc := okR us_ok ran fineT okb fun i v ro p hρ hcap hpre => by rw [plain]; have q := hρ.hi; exact holds _ _ _ _ _ _ _ _ _ _ _ _ _ _ _ (q 0 _ rfl).1 (q 0 _ rfl).2 (q 1 _ rfl).1 (q 1 _ rfl).2 (q 2 _ rfl).1 (q 2 _ rfl).2 (q 3 _ rfl).1 (q 3 _ rfl).2 (q 4 _ rfl).1 (q 4 _ rfl).2 (hcap _ (mg 0 rfl)) (hcap _ (mg 1 rfl)) (hcap _ (mg 2 rfl)) (hcap _ (mg 3 rfl)) (hcap _ (mg 4 rfl))
end CRPut22
end Go.Proofs.YtkjbmbmdmhfbeacDoor
