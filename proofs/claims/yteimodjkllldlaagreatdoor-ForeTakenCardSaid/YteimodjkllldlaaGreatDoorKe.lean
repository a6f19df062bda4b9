/-
  What functions of the program answer, as numbers of what they are handed: their runs by the engine, the plain statements behind them. No condition.
-/
import Derived.Test.YteimodjkllldlaaGreatDoorKa
import Derived.Test.YteimodjkllldlaaGreatDoorKb
import Derived.Test.YteimodjkllldlaaGreatDoorKd
import Derived.Test.YteimodjkllldlaaGreatDoorGab
import Derived.Test.YteimodjkllldlaaGreatDoorGmK
import Derived.Test.YteimodjkllldlaaGreatDoorGmR
import Derived.Test.YteimodjkllldlaaGreatDoorGmT
import Derived.Test.YteimodjkllldlaaGreatDoorGmH
set_option linter.unusedVariables false
set_option linter.unusedSimpArgs false
set_option maxRecDepth 100000
namespace Go.Proofs.YteimodjkllldlaaGreatDoor
open Go.Eng Go.RowKit
namespace CFTell
def rc : Rc := ⟨7, [some 5, none], [.row [.int .u32] 1000000, .row [.int .i32] 1000000, .row [.bool] 1000000, .row [.int .i64] 1000000, .row [.int .i64] 1000000, .int .i64], [(.b .le .i64 (.v 5) (.c 300))], .tup [some 3, none], [.row [.int .i64, .int .i64, .int .i64] 44 (.f 13 (.f 97 (.v 6) (.v 0) (qQv [(.v 1), (.v 5), (.v 7), (.v 8)])) (.c 0) (.c 0)) (.ite (.b .eq .i64 (.f 84 (.v 0) (.v 1) (qQv [(.v 2), (.v 3), (.v 4), (.v 9), (.v 10)])) (.c 0)) (.w .i64 (.f 13 (.f 97 (.v 6) (.v 0) (qQv [(.v 1), (.v 5), (.v 7), (.v 8)])) (.c 1) (.c 0))) (.c 0)), .int .i64 (.ite (.b .eq .i64 (.f 84 (.v 0) (.v 1) (qQv [(.v 2), (.v 3), (.v 4), (.v 9), (.v 10)])) (.c 0)) (.w .i64 (.f 13 (.f 97 (.v 6) (.v 0) (qQv [(.v 1), (.v 5), (.v 7), (.v 8)])) (.c 2) (.c 0))) (.c 0)), .int .i64 (.ite (.b .eq .i64 (.f 84 (.v 0) (.v 1) (qQv [(.v 2), (.v 3), (.v 4), (.v 9), (.v 10)])) (.c 0)) (.w .i64 (.f 13 (.f 97 (.v 6) (.v 0) (qQv [(.v 1), (.v 5), (.v 7), (.v 8)])) (.c 3) (.c 0))) (.c 0)), .int .i64 (.ite (.b .eq .i64 (.f 84 (.v 0) (.v 1) (qQv [(.v 2), (.v 3), (.v 4), (.v 9), (.v 10)])) (.c 0)) (.w .i64 (.f 13 (.f 97 (.v 6) (.v 0) (qQv [(.v 1), (.v 5), (.v 7), (.v 8)])) (.c 4) (.c 0))) (.f 84 (.v 0) (.v 1) (qQv [(.v 2), (.v 3), (.v 4), (.v 9), (.v 10)])))]⟩
theorem okb : rc.ok = true := by kernel_rfl
noncomputable def us : SMs := fun Γ ins n => smH (cxG n Γ ins) [CFBegin.rk.rh, CFTold.rk.rh, CFDoes.rk.rh] (smR (cxG n Γ ins) [CICheck.rc])
theorem us_ok : SMsOk us := fun Γ ins n => qZp (tabsG n Γ ins) (qJm CFBegin.okh (rh_n CFBegin.ok) (qJm CFTold.okh (rh_n CFTold.ok) (qJm CFDoes.okh (rh_n CFDoes.ok) (qZj _)))) (qZm (tabsG n Γ ins) (qQo CICheck.okb (rc_n CICheck.ok) (qZx _)))
def Q0 : E := (.cl 1001 0 4611686018427387904)
def Q1 : E := (.cl 1005 (-9223372036854775808) 9223372036854775807)
def Q2 : E := (.cl 1006 (-9223372036854775808) 9223372036854775807)
def Q3 : E := (tp Q0 (.c 1))
def Q4 : E := (tl Q3 (.c 4611686018427387904))
def Q5 : E := (.cl 1004 0 1000000)
def Q6 : E := (.f 94 (.v 6) (.v 0) (.c 0))
def Q7 : E := (tR Q6 Q2)
def Q8 : E := (.cl 1009 (-9223372036854775808) 9223372036854775807)
def Q9 : E := (.cl 1010 (-9223372036854775808) 9223372036854775807)
def Q10 : E := (.cl 1011 (-9223372036854775808) 9223372036854775807)
def Q11 : E := (.cl 1012 (-9223372036854775808) 9223372036854775807)
def Q12 : E := (.cl 1013 (-9223372036854775808) 9223372036854775807)
def Q13 : E := (tC Q5 (.c 0))
def Q14 : E := (tC (.v 1003) Q13)
def Q15 : E := (tC Q1 Q14)
def Q16 : E := (tC Q2 Q15)
def Q17 : E := (tC (.v 1007) Q16)
def Q18 : E := (tC (.v 1002) Q17)
def Q19 : E := (tC (.v 1) Q18)
def Q20 : E := (tC Q12 Q19)
def Q21 : E := (tC Q11 Q20)
def Q22 : E := (tC Q10 Q21)
def Q23 : E := (.f 92 Q8 Q9 Q22)
def Q24 : E := (tR Q23 (.c 5))
def Q25 : E := (t6 Q24)
def tree : TT (List E) :=
 (.br (tl (.v 0) (.v 11)) (.br (tl (.v 1) (.v 12)) (.br (tl (.v 2) (.v 13)) (.br (tl (.v 3) (.v 14)) (.br (tl (.v 4) (.v 15)) (.new 1000 (.f 84 (.v 0) (.v 1) (tC (.v 2) (tC (.v 3) (tC (.v 4) (tC (.v 9) (tC (.v 10) (.c 0))))))) (.br (tn (.cl 1000 0 9) (.c 0)) (.leaf [(.c 0), (.c 0), (.c 0), (.c 0), (.cl 1000 0 9)]) (.br (tl (.v 0) (.c 16384)) (.br (tl (.v 1) (.c 2048)) (.br (te (.v 2) (.v 1)) (.loop ⟨1001, [some (0, 4611686018427387904), none, none, some (0, 1000000), some (-9223372036854775808, 9223372036854775807), some (-9223372036854775808, 9223372036854775807), none], [(.c 0), (.f 96 (.c 0) (.c 0) (.c 0)), (.c 0), (.c 0), (.c 0), (.c 0), (.f 95 (.v 7) (.v 8) (.v 1))], 1014⟩ (.br (tk Q0 (.b .max .i64 (.c 0) (.b .min .i64 (.v 5) (.c 1048576)))) (.br (tn Q1 (.c 0)) (.exit 0) (.br (tk Q2
 (.c 0)) (.br Q4 (.back [Q3, (.v 1002), (.v 1003), Q5, (.c 2), Q2, (.v 1007)]) (.bad 303)) (.br (tl (.v 0) Q2) (.br Q4 (.back [Q3, (.v 1002), (.v 1003), Q5, (.c 2), Q2, (.v 1007)]) (.bad 303)) (.br (tl (.c 0) Q2) (.br (tk Q2 (.v 0)) (.new 1009 (t6 (tR Q7 (.c 0))) (.br (te Q8 (.c 0)) (.br Q4 (.back [Q3, (.v 1002), (.v 1003), Q5, (.c 3), Q2, (.v 1007)]) (.bad 303)) (.new 1010 (t6 (tR Q7 (.c 1))) (.new 1011 (t6 (tR Q7 (.c 2))) (.new 1012 (t6 (tR Q7 (.c 3))) (.new 1013 (t6 (tR Q7 (.c 4))) (.br (tl (.c 1) Q8) (.br (tl Q8 (.c 43)) (.br (tl (.c 0) Q9) (.br (tl Q9 (.c 31)) (.br (tl (.c 0) Q10) (.br (tl Q10 (.c 31)) (.br (tl (.c 0) Q11) (.br (tl Q11 (.c 31)) (.br (tl (.c (-32768)) Q12) (.br (tl Q12 (.c 65535)) (.br (tl (.c 0) Q1) (.br (tl Q1 (.c 0)) (.br (tl Q5 (.c 999999)) (.br (.nt (.f 93 Q8 Q9
 (tC Q10 (tC Q11 (tC (.v 1002) (.c 0)))))) (.exit 1) (.br Q4 (.br (tl (.c 0) Q25) (.br (tl Q25 (.c 1000000)) (.back [Q3, (tR Q23 (.c 0)), (tR Q23 (.c 4)), Q25, (t6 (tR Q23 (.c 3))), (t6 (tR Q23 (.c 2))), (tR Q23 (.c 1))]) (.bad 303)) (.bad 303)) (.bad 303))) (.bad 200)) (.bad 200)) (.bad 200)) (.bad 200)) (.bad 200)) (.bad 200)) (.bad 200)) (.bad 200)) (.bad 200)) (.bad 200)) (.bad 200)) (.bad 200)) (.bad 200)))))))) (.bad 200)) (.bad 200))))) (.exit 2)) (.br (te (.v 1014) (.c 0)) (.leaf [Q5, (.v 1003), Q1, Q2, (.c 0)]) (.br (te (.v 1014) (.c 1)) (.leaf [Q5, (.v 1003), Q1, Q2, (.c 12)]) (.leaf [Q5, (.v 1003), Q1, Q2, (.c 0)])))) (.bad 200)) (.bad 200)) (.bad 200)))) (.bad 200)) (.bad 200)) (.bad 200)) (.bad 200)) (.bad 200))
noncomputable def sq0 (y9 y10 y11 y12 y13 b y2 y7 y6 y5 y3 y4 : Int) : Int := (fdoZ y9 y10 (kZ y11 (kZ y12 (kZ y13 (kZ b (kZ y2 (kZ y7 (kZ y6 (kZ y5 (kZ y3 (kZ y4 0)))))))))))
def sL0 (a b c d e j k g f h i z0 z2 z4 z5 z7 z9 : Int) : Prop := (z0 : Int) = (iteZ (Pe (chkZ a b (kZ c (kZ d (kZ e (kZ j (kZ k 0)))))) 0) (W6 (rdZ (ftlZ g a (kZ b (kZ f (kZ h (kZ i 0))))) 1)) 0) ∧ qZa [.int .i64, .int .i64, .int .i64] z2 (rdZ (ftlZ g a (kZ b (kZ f (kZ h (kZ i 0))))) 0) z4 ∧ (z5 : Int) = (iteZ (Pe (chkZ a b (kZ c (kZ d (kZ e (kZ j (kZ k 0)))))) 0) (W6 (rdZ (ftlZ g a (kZ b (kZ f (kZ h (kZ i 0))))) 2)) 0) ∧ (z7 : Int) = (iteZ (Pe (chkZ a b (kZ c (kZ d (kZ e (kZ j (kZ k 0)))))) 0) (W6 (rdZ (ftlZ g a (kZ b (kZ f (kZ h (kZ i 0))))) 3)) 0) ∧ (z9 : Int) = (iteZ (Pe (chkZ a b (kZ c (kZ d (kZ e (kZ j (kZ k 0)))))) 0) (W6 (rdZ (ftlZ g a (kZ b (kZ f (kZ h (kZ i 0))))) 4)) (chkZ a b (kZ c (kZ d (kZ e (kZ j (kZ k 0))))))) ∧ True
def P (a b c d e f g h i j k l n o p q : Int) : Prop :=
 (Pm (PL a l) (Pm (PL b n) (Pm (PL c o) (Pm (PL d p) (Pm (PL e q) (Pn (chkZ a b (kZ c (kZ d (kZ e (kZ j (kZ k 0)))))) 0 9 fun y0 => (Pb (Pd y0 0) (sL0 a b c d e j k g f h i 0 0 0 0 0 y0) (Pm (PL a 16384) (Pm (PL b 2048) (Pm (Pe c b) (∃ I1001 : Int → Int → Int → Int → Int → Int → Int → Nat → Prop, (∃ m, I1001 0 (frg0 0) 0 0 0 0 (frmZ h i b) m) ∧ ∀ y1 y2 y3 y4 y5 y6 y7 : Int, ∀ m1, ((0 ≤ y1 ∧ y1 ≤ 4611686018427387904) ∧ True ∧ True ∧ (0 ≤ y4 ∧ y4 ≤ 1000000) ∧ ((-9223372036854775808) ≤ y5 ∧ y5 ≤ 9223372036854775807) ∧ ((-9223372036854775808) ≤ y6 ∧ y6 ≤ 9223372036854775807) ∧ True ∧ True) → I1001 y1 y2 y3 y4 y5 y6 y7 m1 → (Pb (Pl y1 (maxZ 0 (minZ f 1048576))) (Pb (Pd y5 0) (Pb (Pe (0 : Int) 0) (sL0 a b c d e j k g f h i y4 y3 y4 y5 y6 0) (Pb (Pe (0 : Int) 1) (sL0 a b c d e j k g f h i y4 y3
 y4 y5 y6 12) (sL0 a b c d e j k g f h i y4 y3 y4 y5 y6 0))) (Pb (Pl y6 0) (Pm (PL (y1 + 1) 4611686018427387904) (∃ m', m' < m1 ∧ I1001 (y1 + 1) y2 y3 y4 2 y6 y7 m')) (Pb (PL a y6) (Pm (PL (y1 + 1) 4611686018427387904) (∃ m', m' < m1 ∧ I1001 (y1 + 1) y2 y3 y4 2 y6 y7 m')) (Pm (PL 0 y6) (Pm (Pl y6 a) (Pn (W6 (rdZ (rdZ (insW g a) y6) 0)) (-9223372036854775808) 9223372036854775807 fun y9 => (Pb (Pe y9 0) (Pm (PL (y1 + 1) 4611686018427387904) (∃ m', m' < m1 ∧ I1001 (y1 + 1) y2 y3 y4 3 y6 y7 m')) (Pn (W6 (rdZ (rdZ (insW g a) y6) 1)) (-9223372036854775808) 9223372036854775807 fun y10 => Pn (W6 (rdZ (rdZ (insW g a) y6) 2)) (-9223372036854775808) 9223372036854775807 fun y11 => Pn (W6 (rdZ (rdZ (insW g a) y6) 3)) (-9223372036854775808) 9223372036854775807 fun y12 => Pn (W6 (rdZ (rdZ (insW g a) y6)
 4)) (-9223372036854775808) 9223372036854775807 fun y13 => (Pm (PL 1 y9) (Pm (PL y9 43) (Pm (PL 0 y10) (Pm (PL y10 31) (Pm (PL 0 y11) (Pm (PL y11 31) (Pm (PL 0 y12) (Pm (PL y12 31) (Pm (PL (-32768) y13) (Pm (PL y13 65535) (Pm (PL 0 y5) (Pm (PL y5 0) (Pm (PL y4 999999) (Pb (Pe (ftoZ y9 y10 (kZ y11 (kZ y12 (kZ y2 0)))) 0) (Pb (Pe (1 : Int) 0) (sL0 a b c d e j k g f h i y4 y3 y4 y5 y6 0) (Pb (Pe (1 : Int) 1) (sL0 a b c d e j k g f h i y4 y3 y4 y5 y6 12) (sL0 a b c d e j k g f h i y4 y3 y4 y5 y6 0))) (Pm (PL (y1 + 1) 4611686018427387904) (Pm (PL 0 (W6 (rdZ (sq0 y9 y10 y11 y12 y13 b y2 y7 y6 y5 y3 y4) 5))) (Pm (PL (W6 (rdZ (sq0 y9 y10 y11 y12 y13 b y2 y7 y6 y5 y3 y4) 5)) 1000000) (∃ m', m' < m1 ∧ I1001 (y1 + 1) (rdZ (sq0 y9 y10 y11 y12 y13 b y2 y7 y6 y5 y3 y4) 0) (rdZ (sq0 y9 y10 y11 y12 y13 b
 y2 y7 y6 y5 y3 y4) 4) (W6 (rdZ (sq0 y9 y10 y11 y12 y13 b y2 y7 y6 y5 y3 y4) 5)) (W6 (rdZ (sq0 y9 y10 y11 y12 y13 b y2 y7 y6 y5 y3 y4) 3)) (W6 (rdZ (sq0 y9 y10 y11 y12 y13 b y2 y7 y6 y5 y3 y4) 2)) (rdZ (sq0 y9 y10 y11 y12 y13 b y2 y7 y6 y5 y3 y4) 1) m')))))))))))))))))))))))))) (Pb (Pe (2 : Int) 0) (sL0 a b c d e j k g f h i y4 y3 y4 y5 y6 0) (Pb (Pe (2 : Int) 1) (sL0 a b c d e j k g f h i y4 y3 y4 y5 y6 12) (sL0 a b c d e j k g f h i y4 y3 y4 y5 y6 0)))))))))))))))
set_option maxHeartbeats 4000000 in
theorem holds (n0_0 n0_1 n0_2 n0_3 n0_4 p1 c0_0 c0_1 c0_2 c0_3 c0_4 r0_0 r0_1 r0_2 r0_3 r0_4 : Int) (l_n0_0 : 0 ≤ n0_0) (u_n0_0 : n0_0 ≤ 1000000) (l_n0_1 : 0 ≤ n0_1) (u_n0_1 : n0_1 ≤ 1000000) (l_n0_2 : 0 ≤ n0_2) (u_n0_2 : n0_2 ≤ 1000000) (l_n0_3 : 0 ≤ n0_3) (u_n0_3 : n0_3 ≤ 1000000) (l_n0_4 : 0 ≤ n0_4) (u_n0_4 : n0_4 ≤ 1000000) (l_p1 : -9223372036854775808 ≤ p1) (u_p1 : p1 ≤ 9223372036854775807) (h_n0_0 : n0_0 ≤ r0_0) (h_n0_1 : n0_1 ≤ r0_1) (h_n0_2 : n0_2 ≤ r0_2) (h_n0_3 : n0_3 ≤ r0_3) (h_n0_4 : n0_4 ≤ r0_4) (h_pre0 : qQz (decide (p1  ≤  300)) ≠ 0) : P n0_0 n0_1 n0_2 n0_3 n0_4 p1 c0_0 c0_1 c0_2 c0_3 c0_4 r0_0 r0_1 r0_2 r0_3 r0_4 := by
 delta P sq0 sL0 Pb Pm Pn PL Pl Pe Pd W6 kZ
 have hp : p1 ≤ 300 := by simpa [qQz] using h_pre0
 simp only [nrm, nro, Int.reduceEq, Int.reduceNeg, reduceIte]
 simp only [chk_ev]
 refine ⟨h_n0_0, h_n0_1, h_n0_2, h_n0_3, h_n0_4, ?_⟩
 rintro x rfl -
 refine ⟨fun h => ?_, fun h => ?_⟩
 ·rw [if_neg h, if_neg h, if_neg h, if_neg h]
  exact ⟨rfl, rowEq_nil _ _ _ (Int.le_refl _), rfl, rfl, rfl⟩
 obtain ⟨k1, k2, k3, k4, k5, k6, k7, k8⟩ := chk_zero h
 refine ⟨k1, k2, k5, ?_⟩
 generalize hT : ftlZ c0_0 n0_0 _ = T
 simp only [h, if_true]
 have hM : maxZ 0 (minZ p1 1048576) = if 0 < p1 then p1 else 0 := by
  unfold maxZ minZ; split <;> split <;> (try split) <;> omega
 rw [hM]
 have fin : ∀ {nm mq st pc e : Int}, (nm = IntKind.wrap .i64 (rdZ T 1) ∧ mq = rdZ T 0 ∧ st = IntKind.wrap .i64 (rdZ T 2) ∧ pc = IntKind.wrap .i64 (rdZ T 3) ∧ e = IntKind.wrap .i64 (rdZ T 4)) →
   nm = IntKind.wrap .i64 (rdZ T 1) ∧ qZa [.int .i64, .int .i64, .int .i64] mq (rdZ T 0) nm ∧ st = IntKind.wrap .i64 (rdZ T 2) ∧ pc = IntKind.wrap .i64 (rdZ T 3) ∧ e = IntKind.wrap .i64 (rdZ T 4) := by
  rintro _ _ _ _ _ ⟨h1, rfl, h3⟩
  exact ⟨h1, qQd _ _ _, h3⟩
 refine ⟨fun i rg mq nm st pc rm m => Ft c0_0 n0_0 n0_1 ⟨frgZ 32, frmZ c0_1 c0_2 n0_1, 0, 0, 0, 0⟩ i rg rm pc st mq nm ∧ (i ≤ p1 ∨ i = 0) ∧ m = (p1 - i).toNat,
  ⟨_, ft_nu rfl, .inr rfl, rfl⟩, fun i rg mq nm st pc rm m hb hI => ?_⟩
 obtain ⟨hF, hif, rfl⟩ := hI
 have hi3 : i ≤ 1000000 := by omega
 refine ⟨fun g1 => ?_, fun g1 => fin (ft_end hF (.inr (by split at g1 <;> omega)) hif hi3 hT.symm)⟩
 have g1 : i < p1 := by split at g1 <;> omega
 refine ⟨fun g2 => fin (ft_end hF (.inl g2) hif hi3 hT.symm), fun g2 => ?_⟩
 refine ⟨fun g3 => ⟨by omega, _, ?_, ft_fetch hF g2 (.inl g3), .inl (by omega), rfl⟩, fun g3 => ⟨fun g4 => ⟨by omega, _, ?_, ft_fetch hF g2 (.inr g4), .inl (by omega), rfl⟩, fun g4 => ⟨g3, g4, ?_⟩⟩⟩
 ·omega
 ·omega
 obtain ⟨e0, e1, e2, e3, e4⟩ := ins_rd (w := c0_0) g3 g4
 have hz := decZ_bd (IntKind.wrap .u32 (rdZ c0_0 pc))
 have hw : ∀ j, IntKind.wrap .i64 (decZ (IntKind.wrap .u32 (rdZ c0_0 pc)) j) = decZ (IntKind.wrap .u32 (rdZ c0_0 pc)) j := fun j => w64 (by have := hz j; omega) (by have := hz j; omega)
 rw [e0, e1, e2, e3, e4, hw, hw, hw, hw, hw]
 rintro op hop -
 refine ⟨fun g5 => ⟨by omega, _, ?_, ft_form hF g2 g3 g4 (hop ▸ g5), .inl (by omega), rfl⟩, fun g5 => ?_⟩
 ·omega
 rintro d hd - a ha - b hb' - n hn -
 obtain ⟨q0, q1, q2, q3, q4⟩ := dec_nz (hop ▸ g5)
 rw [← hop] at q0
 rw [← hd] at q1
 rw [← ha] at q2
 rw [← hb'] at q3
 rw [← hn] at q4
 have hnm : nm ≤ i := hF.2.2.2
 refine ⟨q0.1, q0.2, q1.1, by omega, q2.1, by omega, q3.1, by omega, q4.1, q4.2, by omega, by omega, by omega, fun t => fin (ft_stop hF g2 g3 g4 hop hd ha hb' g5 t g1 hi3 hT.symm), fun t => ?_⟩
 have hS := ft_does hF g2 g3 g4 hop hd ha hb' hn g5 t hi3 rfl
 have hN := ft_nm hS
 exact ⟨by omega, hN.1, by omega, _, by omega, hS, .inl (by omega), rfl⟩
theorem plain (i v ro p) : statR 2 rc tree ⟨i, fN, v, ro, p⟩ = P (i 0) (i 1) (i 2) (i 3) (i 4) (i 5) (i 6) (i 7) (i 8) (i 9) (i 10) (i 11) (i 12) (i 13) (i 14) (i 15) := by kernel_rfl
theorem ran : ranR us (fun _ _ => .auto) rc 2 tree = true := by kernel_rfl
theorem fineT : fineR 2 rc tree = true := by kernel_rfl
theorem ok : RcOk (cxOf 2) rc := okR us_ok ran fineT okb fun i v ro p hρ hcap hpre => by rw [plain]; have q := hρ.hi; exact holds _ _ _ _ _ _ _ _ _ _ _ _ _ _ _ _ (q 0 _ rfl).1 (q 0 _ rfl).2 (q 1 _ rfl).1 (q 1 _ rfl).2 (q 2 _ rfl).1 (q 2 _ rfl).2 (q 3 _ rfl).1 (q 3 _ rfl).2 (q 4 _ rfl).1 (q 4 _ rfl).2 (q 5 _ rfl).1 (q 5 _ rfl).2 (hcap _ (mg 0 rfl)) (hcap _ (mg 1 rfl)) (hcap _ (mg 2 rfl)) (hcap _ (mg 3 rfl)) (hcap _ (mg 4 rfl)) (hpre _ (mg 0 rfl))
end CFTell
namespace CAwake25
def rc : Rc := ⟨6, [], [], [], .one, [.bool (.c 1)]⟩
theorem okb : rc.ok = true := by kernel_rfl
noncomputable def us : SMs := fun Γ ins n => smH (cxG n Γ ins) [] (smR (cxG n Γ ins) [CFTell.rc])
theorem us_ok : SMsOk us := fun Γ ins n => qZp (tabsG n Γ ins) (qZj _) (qZm (tabsG n Γ ins) (qQo CFTell.okb (rc_n CFTell.ok) (qZx _)))
def Q0 : E := (tC (.c 0) (.c 0))
def Q1 : E := (tC (.c 0) Q0)
def Q2 : E := (tC (.c 0) Q1)
def Q3 : E := (tC (.c 0) Q2)
def Q4 : E := (tC (.c 1) Q3)
def Q5 : E := (.f 84 (.c 3) (.c 1) Q4)
def Q6 : E := (te Q5 (.c 0))
def Q7 : E := (tC (.c 2885681152) (.c 0))
def Q8 : E := (tC (.c 1344342016) Q7)
def Q9 : E := (tC (.c 2283798528) Q8)
def Q10 : E := (tC (.c 5) (.c 0))
def Q11 : E := (tC (.c 1) (.c 0))
def Q12 : E := (tC Q11 (.c 0))
def Q13 : E := (tC Q10 Q12)
def Q14 : E := (tC (.c 9) Q13)
def Q15 : E := (tC (.c 1) Q14)
def Q16 : E := (.f 97 Q9 (.c 3) Q15)
def Q17 : E := (.cl 1000 (-9223372036854775808) 9223372036854775807)
def tree : TT (List E) :=
 (.new 1000 (.ite Q6 (t6 (tR Q16 (.c 1))) (.c 0)) (.new 1001 (.ite Q6 (t6 (tR Q16 (.c 2))) (.c 0)) (.new 1002 (.ite Q6 (t6 (tR Q16 (.c 3))) (.c 0)) (.new 1003 (.ite Q6 (t6 (tR Q16 (.c 4))) Q5) (.br (tl (.c 0) Q17) (.br (te Q17 (.c 3)) (.br (te (.cl 1001 (-9223372036854775808) 9223372036854775807) (.c 1)) (.br (te (.cl 1002 (-9223372036854775808) 9223372036854775807) (.c 2)) (.br (te (.cl 1003 (-9223372036854775808) 9223372036854775807) (.c 0)) (.br (tk (.c 1) Q17) (.leaf [(te (t6 (tR (tR (tR Q16 (.c 0)) (.c 1)) (.c 2))) (.c 3))]) (.bad 200)) (.leaf [(.c 0)])) (.leaf [(.c 0)])) (.leaf [(.c 0)])) (.leaf [(.c 0)])) (.bad 200))))))
noncomputable def sq0 : Int := (ftlZ (kZ 2283798528 (kZ 1344342016 (kZ 2885681152 0))) 3 (kZ 1 (kZ 9 (kZ (kZ 5 0) (kZ (kZ 1 0) 0)))))
noncomputable def sq1 : Int := (chkZ 3 1 (kZ 1 (kZ 0 (kZ 0 (kZ 0 (kZ 0 0))))))
def P : Prop :=
 Pn (iteZ (Pe sq1 0) (W6 (rdZ sq0 1)) 0) (-9223372036854775808) 9223372036854775807 fun y0 => Pn (iteZ (Pe sq1 0) (W6 (rdZ sq0 2)) 0) (-9223372036854775808) 9223372036854775807 fun y1 => Pn (iteZ (Pe sq1 0) (W6 (rdZ sq0 3)) 0) (-9223372036854775808) 9223372036854775807 fun y2 => Pn (iteZ (Pe sq1 0) (W6 (rdZ sq0 4)) sq1) (-9223372036854775808) 9223372036854775807 fun y3 => (Pm (PL 0 y0) (Pb (Pe y0 3) (Pb (Pe y1 1) (Pb (Pe y2 2) (Pb (Pe y3 0) (Pm (Pl 1 y0) ((((Pe (W6 (rdZ (rdZ (rdZ sq0 0) 1) 2)) 3) : Int) ≠ 0 ↔ (1 : Int) ≠ 0) ∧ True)) Pf) Pf) Pf) Pf))
theorem holds : P := by
 delta P sq0 sq1 Pb Pm Pn Pf PL Pl Pe W6 kZ
 simp only [nrm, nro, Int.reduceEq, Int.reduceNeg, reduceIte]
 simp only [chk_ev, fo_chk]
 generalize hT : ftlZ (qQq 2283798528 (qQq 1344342016 (qQq 2885681152 0))) 3 (qQq 1 (qQq 9 (qQq (qQq 5 0) (qQq (qQq 1 0) 0)))) = T
 obtain ⟨r1, r2, r3, r4, r5⟩ := fo_T (T := T) hT.symm
 simp only [r1, r2, r3, r4, r5, if_true]
 have w0 : IntKind.wrap .i64 0 = 0 := by decide
 have w1 : IntKind.wrap .i64 1 = 1 := by decide
 have w2 : IntKind.wrap .i64 2 = 2 := by decide
 have w3 : IntKind.wrap .i64 3 = 3 := by decide
 simp only [w0, w1, w2, w3]
 rintro _ rfl - _ rfl - _ rfl - _ rfl -
 simp
theorem plain (i v ro p) : statR 2 rc tree ⟨i, fN, v, ro, p⟩ = P  := by kernel_rfl
theorem ran : ranR us (fun _ _ => .auto) rc 2 tree = true := by kernel_rfl
theorem fineT : fineR 2 rc tree = true := by kernel_rfl
theorem ok : RcOk (cxOf 2) rc := okR us_ok ran fineT okb fun i v ro p hρ hcap hpre => by rw [plain]; have q := hρ.hi; exact holds
end CAwake25
namespace CRAddrs
def rc : Rc := ⟨9, [none, none], [.row [.int .i64] 1000000, .int .i64], [], .one, [.bool (.f 85 (.v 2) (.v 0) (.v 1))]⟩
theorem okb : rc.ok = true := by kernel_rfl
noncomputable def us : SMs := fun Γ ins n => smH (cxG n Γ ins) [] (smR (cxG n Γ ins) [])
theorem us_ok : SMsOk us := fun Γ ins n => qZp (tabsG n Γ ins) (qZj _) (qZm (tabsG n Γ ins) (qZx _))
def tree : TT (List E) :=
(.loop ⟨1000, [some (0, 4611686018427387904)], [(.c 0)], 1002⟩
 (.br (.b .lt .i64 (.cl 1000 0 4611686018427387904) (.v 0))
 (.br (.b .lt .i64 (.w .i64 (.f 13 (.v 2) (.cl 1000 0 4611686018427387904) (.c 0))) (.c 0))
 (.exit 0)
 (.br (.b .le .i64 (.v 1) (.w .i64 (.f 13 (.v 2) (.cl 1000 0 4611686018427387904) (.c 0))))
 (.exit 1)
 (.br (.b .le .i64 (.b .padd .i64 (.cl 1000 0 4611686018427387904) (.c 1)) (.c 4611686018427387904))
 (.back [(.b .padd .i64 (.cl 1000 0 4611686018427387904) (.c 1))])
 (.bad 303))))
 (.exit 2))
 (.br (.b .eq .i64 (.v 1002) (.c 0))
 (.leaf [(.c 0)])
 (.br (.b .eq .i64 (.v 1002) (.c 1))
 (.leaf [(.c 0)])
 (.leaf [(.c 1)]))))
def P (n0 p1 c0 r0 : Int) : Prop :=
 ∃ I1000 : Int → Nat → Prop, (∃ m, I1000 0 m) ∧
 ∀ y1000 : Int, ∀ m1000, ((0 ≤ y1000 ∧ y1000 ≤ 4611686018427387904) ∧ True) → I1000 y1000 m1000 →
  (((qQz (decide (y1000 < n0))) ≠ 0 →
   (((qQz (decide ((IntKind.wrap .i64 (rdZ c0 y1000)) < 0))) ≠ 0 →
    (((qQz ((0 : Int) == 0)) ≠ 0 →
     ((0 : Int) ≠ 0 ↔ ((adZ c0 n0 p1) : Int) ≠ 0) ∧ True) ∧ ((qQz ((0 : Int) == 0)) = 0 →
     (((qQz ((0 : Int) == 1)) ≠ 0 →
      ((0 : Int) ≠ 0 ↔ ((adZ c0 n0 p1) : Int) ≠ 0) ∧ True) ∧ ((qQz ((0 : Int) == 1)) = 0 →
      ((1 : Int) ≠ 0 ↔ ((adZ c0 n0 p1) : Int) ≠ 0) ∧ True))))) ∧ ((qQz (decide ((IntKind.wrap .i64 (rdZ c0 y1000)) < 0))) = 0 →
    (((qQz (decide (p1 ≤ (IntKind.wrap .i64 (rdZ c0 y1000))))) ≠ 0 →
     (((qQz ((1 : Int) == 0)) ≠ 0 →
      ((0 : Int) ≠ 0 ↔ ((adZ c0 n0 p1) : Int) ≠ 0) ∧ True) ∧ ((qQz ((1 : Int) == 0)) = 0 →
      (((qQz ((1 : Int) == 1)) ≠ 0 →
       ((0 : Int) ≠ 0 ↔ ((adZ c0 n0 p1) : Int) ≠ 0) ∧ True) ∧ ((qQz ((1 : Int) == 1)) = 0 →
       ((1 : Int) ≠ 0 ↔ ((adZ c0 n0 p1) : Int) ≠ 0) ∧ True))))) ∧ ((qQz (decide (p1 ≤ (IntKind.wrap .i64 (rdZ c0 y1000))))) = 0 →
     (((qQz (decide ((y1000 + 1) ≤ 4611686018427387904))) ≠ 0 →
      ∃ m', m' < m1000 ∧ I1000 (y1000 + 1) m') ∧ ((qQz (decide ((y1000 + 1) ≤ 4611686018427387904))) = 0 →
      False))))))) ∧ ((qQz (decide (y1000 < n0))) = 0 →
   (((qQz ((2 : Int) == 0)) ≠ 0 →
    ((0 : Int) ≠ 0 ↔ ((adZ c0 n0 p1) : Int) ≠ 0) ∧ True) ∧ ((qQz ((2 : Int) == 0)) = 0 →
    (((qQz ((2 : Int) == 1)) ≠ 0 →
     ((0 : Int) ≠ 0 ↔ ((adZ c0 n0 p1) : Int) ≠ 0) ∧ True) ∧ ((qQz ((2 : Int) == 1)) = 0 →
     ((1 : Int) ≠ 0 ↔ ((adZ c0 n0 p1) : Int) ≠ 0) ∧ True))))))
theorem holds (n0 p1 c0 r0 : Int) (l_n0 : 0 ≤ n0) (u_n0 : n0 ≤ 1000000) (l_p1 : -9223372036854775808 ≤ p1) (u_p1 : p1 ≤ 9223372036854775807) (h_n0 : n0 ≤ r0) : P n0 p1 c0 r0 := by
 unfold P
 simp only [nrm, nro, Int.reduceEq, Int.reduceNeg, reduceIte]
 refine ⟨fun i m => adP c0 i p1 ∧ i ≤ n0 ∧ m = (n0 - i).toNat, ⟨_, ad_nil, l_n0, rfl⟩, fun i m hb hI => ?_⟩
 obtain ⟨hA, hi, rfl⟩ := hI
 refine ⟨fun h => ⟨fun h1 => adZ_eq.2 (ad_no hb.1 h (.inl h1)), fun h1 => ⟨fun h2 => adZ_eq.2 (ad_no hb.1 h (.inr h2)), fun h2 => ⟨by omega, _, ?_, ad_snoc hb.1 hA h1 h2, by omega, rfl⟩⟩⟩, fun h => ?_⟩
 ·omega
 ·have e : i = n0 := by omega
  subst e
  exact adZ_ne.2 hA
theorem plain (i v ro p) : statR 2 rc tree ⟨i, fN, v, ro, p⟩ = P (i 0) (i 1) (i 2) (i 3) := by kernel_rfl
theorem ran : ranR us (fun _ _ => .auto) rc 2 tree = true := by kernel_rfl
theorem fineT : fineR 2 rc tree = true := by kernel_rfl
theorem ok : RcOk (cxOf 2) rc := okR us_ok ran fineT okb fun i v ro p hρ hcap hpre => by rw [plain]; have q := hρ.hi; exact holds _ _ _ _ (q 0 _ rfl).1 (q 0 _ rfl).2 (q 1 _ rfl).1 (q 1 _ rfl).2 (hcap _ (mg 0 rfl))
end CRAddrs
namespace CRICheck
def rc : Rc := ⟨5, [some 5], [.row [.int .u32] 1000000, .row [.int .i32] 1000000, .row [.bool] 1000000, .row [.int .i64] 1000000, .row [.int .i64] 1000000], [], .one, [.int .i64 (.f 84 (.v 0) (.v 1) (qQv [(.v 2), (.v 3), (.v 4), (.v 8), (.v 9)]))]⟩
theorem okb : rc.ok = true := by kernel_rfl
noncomputable def us : SMs := fun Γ ins n => smH (cxG n Γ ins) [] (smR (cxG n Γ ins) [CRAddrs.rc])
theorem us_ok : SMsOk us := fun Γ ins n => qZp (tabsG n Γ ins) (qZj _) (qZm (tabsG n Γ ins) (qQo CRAddrs.okb (rc_n CRAddrs.ok) (qZx _)))
def Q0 : E := (.cl 1000 0 4611686018427387904)
def Q1 : E := (.cl 1002 0 4611686018427387904)
def Q2 : E := (tp Q1 (.c 1))
def Q3 : E := (tp Q0 (.c 1))
def tree : TT (List E) :=
 (.br (tk (.c 16384) (.v 0)) (.leaf [(.c 5)]) (.br (tk (.c 2048) (.v 1)) (.leaf [(.c 5)]) (.br (tk (.c 255) (.v 3)) (.leaf [(.c 5)]) (.br (tk (.c 255) (.v 4)) (.leaf [(.c 5)]) (.br (tn (.v 2) (.v 1)) (.leaf [(.c 2)]) (.br (tl (.v 3) (.v 13)) (.br (.nt (.f 85 (.v 8) (.v 3) (.v 1))) (.leaf [(.c 2)]) (.br (tl (.v 4) (.v 14)) (.br (.nt (.f 85 (.v 9) (.v 4) (.v 1))) (.leaf [(.c 2)]) (.loop ⟨1000, [some (0, 4611686018427387904)], [(.c 0)], 1005⟩ (.br (tk Q0 (.v 3)) (.loop ⟨1002, [some (0, 4611686018427387904)], [(.c 0)], 1004⟩ (.br (tk Q1 Q0) (.br (tk Q1 (.v 3)) (.br (te (t6 (tR (.v 8) Q0)) (t6 (tR (.v 8) Q1))) (.exit 0) (.br (tl Q2 (.c 4611686018427387904)) (.back [Q2]) (.bad 303))) (.bad 200)) (.exit 1)) (.br (te (.v 1004) (.c 0)) (.exit 0) (.br (tl Q3 (.c 4611686018427387904)) (.back [Q3])
 (.bad 303)))) (.exit 1)) (.br (te (.v 1005) (.c 0)) (.leaf [(.c 9)]) (.leaf [(.c 0)])))) (.bad 200))) (.bad 200)))))))
noncomputable def sq0 (a b c d e i j : Int) : Int := (chkZ a b (kZ c (kZ d (kZ e (kZ i (kZ j 0))))))
def P (a b c d e f g h i j k l n o p : Int) : Prop :=
 (Pb (Pl 16384 a) ((5 : Int) = (sq0 a b c d e i j) ∧ True) (Pb (Pl 2048 b) ((5 : Int) = (sq0 a b c d e i j) ∧ True) (Pb (Pl 255 d) ((5 : Int) = (sq0 a b c d e i j) ∧ True) (Pb (Pl 255 e) ((5 : Int) = (sq0 a b c d e i j) ∧ True) (Pb (Pd c b) ((2 : Int) = (sq0 a b c d e i j) ∧ True) (Pm (PL d o) (Pb (Pe (adZ i d b) 0) ((2 : Int) = (sq0 a b c d e i j) ∧ True) (Pm (PL e p) (Pb (Pe (adZ j e b) 0) ((2 : Int) = (sq0 a b c d e i j) ∧ True) (∃ I1000 : Int → Nat → Prop, (∃ m, I1000 0 m) ∧ ∀ y0 : Int, ∀ m0, ((0 ≤ y0 ∧ y0 ≤ 4611686018427387904) ∧ True) → I1000 y0 m0 → (Pb (Pl y0 d) (∃ I1002 : Int → Nat → Prop, (∃ m, I1002 0 m) ∧ ∀ y2 : Int, ∀ m2, ((0 ≤ y2 ∧ y2 ≤ 4611686018427387904) ∧ True) → I1002 y2 m2 → (Pb (Pl y2 y0) (Pm (Pl y2 d) (Pb (Pe (W6 (rdZ i y0)) (W6 (rdZ i y2))) (Pb (Pe (0 : Int) 0) (Pb
 (Pe (0 : Int) 0) ((9 : Int) = (sq0 a b c d e i j) ∧ True) ((0 : Int) = (sq0 a b c d e i j) ∧ True)) (Pm (PL (y0 + 1) 4611686018427387904) (∃ m', m' < m0 ∧ I1000 (y0 + 1) m'))) (Pm (PL (y2 + 1) 4611686018427387904) (∃ m', m' < m2 ∧ I1002 (y2 + 1) m')))) (Pb (Pe (1 : Int) 0) (Pb (Pe (0 : Int) 0) ((9 : Int) = (sq0 a b c d e i j) ∧ True) ((0 : Int) = (sq0 a b c d e i j) ∧ True)) (Pm (PL (y0 + 1) 4611686018427387904) (∃ m', m' < m0 ∧ I1000 (y0 + 1) m'))))) (Pb (Pe (1 : Int) 0) ((9 : Int) = (sq0 a b c d e i j) ∧ True) ((0 : Int) = (sq0 a b c d e i j) ∧ True)))))))))))))
theorem holds (n0_0 n0_1 n0_2 n0_3 n0_4 c0_0 c0_1 c0_2 c0_3 c0_4 r0_0 r0_1 r0_2 r0_3 r0_4 : Int) (l_n0_0 : 0 ≤ n0_0) (u_n0_0 : n0_0 ≤ 1000000) (l_n0_1 : 0 ≤ n0_1) (u_n0_1 : n0_1 ≤ 1000000) (l_n0_2 : 0 ≤ n0_2) (u_n0_2 : n0_2 ≤ 1000000) (l_n0_3 : 0 ≤ n0_3) (u_n0_3 : n0_3 ≤ 1000000) (l_n0_4 : 0 ≤ n0_4) (u_n0_4 : n0_4 ≤ 1000000) (h_n0_0 : n0_0 ≤ r0_0) (h_n0_1 : n0_1 ≤ r0_1) (h_n0_2 : n0_2 ≤ r0_2) (h_n0_3 : n0_3 ≤ r0_3) (h_n0_4 : n0_4 ≤ r0_4) : P n0_0 n0_1 n0_2 n0_3 n0_4 c0_0 c0_1 c0_2 c0_3 c0_4 r0_0 r0_1 r0_2 r0_3 r0_4 := by
 delta P sq0 Pb Pm PL Pl Pe Pd W6 kZ
 simp only [nrm, nro, Int.reduceEq, Int.reduceNeg, reduceIte]
 simp only [chk_ev]
 refine ⟨fun h1 => qKa (.inl h1), fun h1 => ⟨fun h2 => qKa (.inr (.inl h2)), fun h2 => ⟨fun h3 => qKa (.inr (.inr (.inl h3))), fun h3 => ⟨fun h4 => qKa (.inr (.inr (.inr h4))), fun h4 => ?_⟩⟩⟩⟩
 have hl : ¬ (16384 < n0_0 ∨ 2048 < n0_1 ∨ 255 < n0_3 ∨ 255 < n0_4) := by omega
 refine ⟨fun h5 => chk_arg hl (.inl h5), fun h5 => ⟨by omega, fun h6 => chk_arg hl (.inr (.inl (adZ_eq.1 h6))), fun h6 => ⟨by omega, fun h7 => chk_arg hl (.inr (.inr (adZ_eq.1 h7))), fun h7 => ?_⟩⟩⟩
 refine ⟨fun i m => (∀ a b : Int, 0 ≤ b → b < a → a < i → ¬ IntKind.wrap .i64 (rdZ c0_3 a) = IntKind.wrap .i64 (rdZ c0_3 b)) ∧ i ≤ n0_3 ∧ m = (n0_3 - i).toNat, ⟨_, fun a b _ _ _ => by omega, l_n0_3, rfl⟩, fun i m hb hI => ?_⟩
 obtain ⟨hA, hi, rfl⟩ := hI
 refine ⟨fun h => ?_, fun h => ?_⟩
 ·refine ⟨fun k m => (∀ b : Int, 0 ≤ b → b < k → ¬ IntKind.wrap .i64 (rdZ c0_3 i) = IntKind.wrap .i64 (rdZ c0_3 b)) ∧ k ≤ i ∧ m = (i - k).toNat, ⟨_, fun b _ _ => by omega, hb.1, rfl⟩, fun k m hk hI => ?_⟩
  obtain ⟨hB, hki, rfl⟩ := hI
  refine ⟨fun g => ⟨by omega, fun g1 => chk_twice hl h5 (adZ_ne.1 h6) (adZ_ne.1 h7) (tw_of hk.1 g h g1), fun g1 => ⟨by omega, _, ?_, fun b b0 b1 => ?_, by omega, rfl⟩⟩, fun g => ⟨by omega, _, ?_, fun a b b0 b1 b2 => ?_, by omega, rfl⟩⟩
  ·omega
  ·by_cases e : b = k
   ·subst e; exact g1
   ·exact hB b b0 (by omega)
  ·omega
  ·by_cases e : a = i
   ·subst e; exact hB b b0 (by omega)
   ·exact hA a b b0 b1 (by omega)
 ·refine chk_ok hl h5 (adZ_ne.1 h6) (adZ_ne.1 h7) ?_
  rintro ⟨a, b, g1, g2, g3⟩
  exact hA a b (by omega) (by omega) (by omega) g3
theorem plain (i v ro p) : statR 2 rc tree ⟨i, fN, v, ro, p⟩ = P (i 0) (i 1) (i 2) (i 3) (i 4) (i 5) (i 6) (i 7) (i 8) (i 9) (i 10) (i 11) (i 12) (i 13) (i 14) := by kernel_rfl
theorem ran : ranR us (fun _ _ => .auto) rc 2 tree = true := by kernel_rfl
theorem fineT : fineR 2 rc tree = true := by kernel_rfl
theorem ok : RcOk (cxOf 2) rc := okR us_ok ran fineT okb fun i v ro p hρ hcap hpre => by rw [plain]; have q := hρ.hi; exact holds _ _ _ _ _ _ _ _ _ _ _ _ _ _ _ (q 0 _ rfl).1 (q 0 _ rfl).2 (q 1 _ rfl).1 (q 1 _ rfl).2 (q 2 _ rfl).1 (q 2 _ rfl).2 (q 3 _ rfl).1 (q 3 _ rfl).2 (q 4 _ rfl).1 (q 4 _ rfl).2 (hcap _ (mg 0 rfl)) (hcap _ (mg 1 rfl)) (hcap _ (mg 2 rfl)) (hcap _ (mg 3 rfl)) (hcap _ (mg 4 rfl))
end CRICheck
end Go.Proofs.YteimodjkllldlaaGreatDoor
