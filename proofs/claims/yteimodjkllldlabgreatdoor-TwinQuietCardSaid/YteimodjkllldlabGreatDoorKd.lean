/-
  What functions of the program answer, as numbers of what they are handed: their runs by the engine, the plain statements behind them. No condition.
-/
import Derived.Test.YteimodjkllldlabGreatDoorKa
import Derived.Test.YteimodjkllldlabGreatDoorKc
import Derived.Test.YteimodjkllldlabGreatDoorGab
import Derived.Test.YteimodjkllldlabGreatDoorGib
import Derived.Test.YteimodjkllldlabGreatDoorGmC
import Derived.Test.YteimodjkllldlabGreatDoorGmE
import Derived.Test.YteimodjkllldlabGreatDoorGmH
import Derived.Test.YteimodjkllldlabGreatDoorGmT
import Derived.Test.YteimodjkllldlabGreatDoorGmI
set_option linter.unusedVariables false
set_option linter.unusedSimpArgs false
set_option maxRecDepth 100000
namespace Go.Proofs.YteimodjkllldlabGreatDoor
open Go.Eng Go.RowKit
namespace CTRun
def rk : Rk := ⟨24, [(-9223372036854775808, 300), (0, 16384), (0, 2048), (0, 1000000), (0, 255), (0, 255), (0, 255)], 19, [.sl (.inp 5) 1 (.c 0) (.v 5) (some (.v 18)), .ptr 0 0, .ptr 1 0], [.cells [.sl (.inp 0) 1 (.c 0) (.v 1) (some (.v 13)), .sl (.inp 1) 1 (.c 0) (.v 2) (some (.v 14)), .sl (.inp 2) 1 (.c 0) (.v 3) (some (.v 15)), .sl (.inp 3) 1 (.c 0) (.v 4) (some (.v 16)), .sl (.inp 4) 1 (.c 0) (.v 6) (some (.v 17))] 27 none, .cells [.int .i64 (.v 0)] 3 none], [(.f 85 (.v 10) (.v 4) (.v 2)), (.b .eq .i64 (.v 5) (.v 4)), (.f 85 (.v 11) (.v 6) (.v 2))], .agg [.int .i64 (.v 1000000), .sl (.own 2) 3 (.c 0) (.v 1000001) none, .sl (.own 3) 1 (.c 0) (.v 1000003) none], [.cells [.sl (.inp 0) 1 (.c 0) (.v 1) (some (.v 13)), .sl (.inp 1) 1 (.c 0) (.v 2) (some (.v 14)), .sl (.inp 2) 1 (.c 0) (.v 3) (some (.v 15)), .sl (.inp 3) 1 (.c 0) (.v 4) (some (.v 16)), .sl (.inp 4) 1 (.c 0) (.v 6) (some (.v 17))] 27 none, .cells [.int .i64 (.v 0)] 3 none, .arr [.int .i64, .int .i64, .int .i64] 78 (.v 1000002) (.v 1000001), .arr [.int .i32] 21 (.v 1000004) (.v 1000003)], [.num (.w .i64 (.f 13 (.f 73 (.f 88 (.v 7) (.v 1) (.c 0)) (.v 1) (qQx [(.v 2), (.v 0), (.f 74 (.f 86 (.v 10) (.v 4) (qQx [(.v 12), (.v 8)])) (.c 0) (.c 0))])) (.c 3) (.c 0))), .num (.f 75 (.f 73 (.f 88 (.v 7) (.v 1) (.c 0)) (.v 1) (qQx [(.v 2), (.v 0), (.f 74 (.f 86 (.v 10) (.v 4) (qQx [(.v 12), (.v 8)])) (.c 0) (.c 0))])) (.c 0) (.c 0)), .code [.int .i64, .int .i64, .int .i64] (.f 13 (.f 73 (.f 88 (.v 7) (.v 1) (.c 0)) (.v 1) (qQx [(.v 2), (.v 0), (.f 74 (.f 86 (.v 10) (.v 4) (qQx [(.v 12), (.v 8)])) (.c 0) (.c 0))])) (.c 5) (.c 0)) (.f 75 (.f 73 (.f 88 (.v 7) (.v 1) (.c 0)) (.v 1) (qQx [(.v 2), (.v 0), (.f 74 (.f 86 (.v 10) (.v 4) (qQx [(.v 12), (.v 8)])) (.c 0) (.c 0))])) (.c 0) (.c 0)), .num (.v 6), .code [.int .i32] (.f 87 (.v 11) (.v 6) (.f 13 (.f 73 (.f 88 (.v 7) (.v 1) (.c 0)) (.v 1) (qQx [(.v 2), (.v 0), (.f 74 (.f 86 (.v 10) (.v 4) (qQx [(.v 12), (.v 8)])) (.c 0) (.c 0))])) (.c 1) (.c 0))) (.v 6)], [⟨[.int .u32], (.v 7), (.v 1), (.v 13), none⟩, ⟨[.int .i32], (.v 8), (.v 2), (.v 14), none⟩, ⟨[.bool], (.v 9), (.v 3), (.v 15), none⟩, ⟨[.int .i64], (.v 10), (.v 4), (.v 16), none⟩, ⟨[.int .i64], (.v 11), (.v 6), (.v 17), none⟩, ⟨[.int .i32], (.v 12), (.v 5), (.v 18), none⟩]⟩
theorem okk : rk.ok = true := by kernel_rfl
theorem okh : rk.rh.ok = true := by kernel_rfl
noncomputable def us : SMs := fun Γ ins n => smH (cxG n Γ ins) [CCNew.rk.rh, CCRun0.rk.rh] (smAnd 45 (libClone45 Γ ins n) (smR (cxG n Γ ins) []))
theorem us_ok : SMsOk us := fun Γ ins n => qJk (tabsG n Γ ins) (rhs_cons CCNew.okh (rh_n CCNew.ok) (rhs_cons CCRun0.okh (rh_n CCRun0.ok) (qZb _))) (smAnd_ok (libClone45_ok Γ ins n) (qZt (tabsG n Γ ins) (qZc _)))
def Q0 : E := (.cl 1000 0 4611686018427387904)
def Q1 : E := (tR (.v 10) Q0)
def Q2 : E := (t6 Q1)
def Q3 : E := (t3 Q1)
def Q4 : E := (tp Q0 (.c 1))
def Q5 : E := (tl Q4 (.c 4611686018427387904))
def Q6 : E := (.f 88 (.v 7) (.v 1) (.c 0))
def Q7 : E := (.cl 1005 0 4611686018427387904)
def Q8 : E := (tR (.v 11) Q7)
def Q9 : E := (t6 Q8)
def Q10 : E := (.cl 1007 0 1000000)
def Q11 : E := (tp Q10 (.c 1))
def Q12 : E := (tl Q11 (.c 1000000))
def Q13 : E := (tp Q7 (.c 1))
def Q14 : E := (tl Q13 (.c 4611686018427387904))
def Q15 : E := (.f 14 (.v 1006) Q10 (.c 0))
def Q16 : E := (t3 Q8)
def Q17 : E := (.f 74 (.v 1001) (.c 0) (.c 0))
def Q18 : E := (tC Q17 (.c 0))
def Q19 : E := (tC (.v 0) Q18)
def Q20 : E := (tC (.v 2) Q19)
def Q21 : E := (.f 73 Q6 (.v 1) Q20)
def tree : TT (List E) :=
 (.loop ⟨1000, [some (0, 4611686018427387904), none], [(.c 0), (.v 8)], 1003⟩ (.br (tk Q0 (.v 5)) (.br (tk Q0 (.v 4)) (.br (tl (.c 0) Q2) (.br (tk Q2 (.c 2048)) (.br (tk Q3 (.c 0)) (.br Q5 (.back [Q4, (.v 1001)]) (.bad 303)) (.br (tl (.v 2) Q3) (.br Q5 (.back [Q4, (.v 1001)]) (.bad 303)) (.br (tl (.c 0) Q3) (.br (tk Q3 (.v 2)) (.br Q5 (.back [Q4, (.f 14 (.v 1001) Q3 (t3 (tR (.v 12) Q0)))]) (.bad 303)) (.bad 200)) (.bad 200)))) (.br Q5 (.back [Q4, (.v 1001)]) (.bad 303))) (.br Q5 (.back [Q4, (.v 1001)]) (.bad 303))) (.bad 200)) (.exit 0)) (.br (.f 68 Q6 (.v 1) (.c 0)) (.loop ⟨1005, [some (0, 4611686018427387904), none, some (0, 1000000)], [(.c 0), (.c 0), (.c 0)], 1009⟩ (.br (tk Q7 (.v 6)) (.br (tl (.c 0) Q9) (.br (.nt (tk Q9 (.c 2048))) (.br Q12 (.br Q14 (.br Q12 (.back [Q13, Q15, Q11])
 (.bad 303)) (.bad 303)) (.bad 200)) (.br (tk Q16 (.c 0)) (.br Q12 (.br Q14 (.br Q12 (.back [Q13, Q15, Q11]) (.bad 303)) (.bad 303)) (.bad 200)) (.br (tl (.v 2) Q16) (.br Q12 (.br Q14 (.br Q12 (.back [Q13, Q15, Q11]) (.bad 303)) (.bad 303)) (.bad 200)) (.br (tl (.c 0) Q16) (.br (tk Q16 (.v 2)) (.br Q12 (.br Q14 (.br Q12 (.back [Q13, (.f 14 (.v 1006) Q10 (t3 (tR (tR Q21 (.c 1)) Q16))), Q11]) (.bad 303)) (.bad 303)) (.bad 200)) (.bad 200)) (.bad 200))))) (.br Q12 (.br Q14 (.br Q12 (.back [Q13, Q15, Q11]) (.bad 303)) (.bad 303)) (.bad 200))) (.exit 0)) (.leaf [(t6 (tR Q21 (.c 3))), (.f 75 Q21 (.c 0) (.c 0)), (tR Q21 (.c 5)), Q10, (.v 1006)])) (.bad 200)))
def sq0 (y7 y5 y6 : Int) (m5 : Nat) (I1005 : Int → Int → Int → Nat → Prop) : Prop := (Pm (PL (y7 + 1) 1000000) (Pm (PL (y5 + 1) 4611686018427387904) (Pm (PL (y7 + 1) 1000000) (∃ m', m' < m5 ∧ I1005 (y5 + 1) (updZ y6 y7 0) (y7 + 1) m'))))
def P (a b c d e f g h i j k l n o p q r s t : Int) : Prop :=
 ∃ I1000 : Int → Int → Nat → Prop, (∃ m, I1000 0 i m) ∧ ∀ y0 y1 : Int, ∀ m0, ((0 ≤ y0 ∧ y0 ≤ 4611686018427387904) ∧ True ∧ True) → I1000 y0 y1 m0 → (Pb (Pl y0 f) (Pm (Pl y0 e) (Pb (PL 0 (W6 (rdZ k y0))) (Pb (Pl (W6 (rdZ k y0)) 2048) (Pb (Pl (W3 (rdZ k y0)) 0) (Pm (PL (y0 + 1) 4611686018427387904) (∃ m', m' < m0 ∧ I1000 (y0 + 1) y1 m')) (Pb (PL c (W3 (rdZ k y0))) (Pm (PL (y0 + 1) 4611686018427387904) (∃ m', m' < m0 ∧ I1000 (y0 + 1) y1 m')) (Pm (PL 0 (W3 (rdZ k y0))) (Pm (Pl (W3 (rdZ k y0)) c) (Pm (PL (y0 + 1) 4611686018427387904) (∃ m', m' < m0 ∧ I1000 (y0 + 1) (updZ y1 (W3 (rdZ k y0)) (W3 (rdZ n y0))) m')))))) (Pm (PL (y0 + 1) 4611686018427387904) (∃ m', m' < m0 ∧ I1000 (y0 + 1) y1 m'))) (Pm (PL (y0 + 1) 4611686018427387904) (∃ m', m' < m0 ∧ I1000 (y0 + 1) y1 m')))) (Pm (okC (decW h b) b)
 (∃ I1005 : Int → Int → Int → Nat → Prop, (∃ m, I1005 0 0 0 m) ∧ ∀ y5 y6 y7 : Int, ∀ m5, ((0 ≤ y5 ∧ y5 ≤ 4611686018427387904) ∧ True ∧ (0 ≤ y7 ∧ y7 ≤ 1000000) ∧ True) → I1005 y5 y6 y7 m5 → (Pb (Pl y5 g) (Pb (PL 0 (W6 (rdZ l y5))) (Pb (Pe (Pl (W6 (rdZ l y5)) 2048) 0) (sq0 y7 y5 y6 m5 I1005) (Pb (Pl (W3 (rdZ l y5)) 0) (sq0 y7 y5 y6 m5 I1005) (Pb (PL c (W3 (rdZ l y5))) (sq0 y7 y5 y6 m5 I1005) (Pm (PL 0 (W3 (rdZ l y5))) (Pm (Pl (W3 (rdZ l y5)) c) (Pm (PL (y7 + 1) 1000000) (Pm (PL (y5 + 1) 4611686018427387904) (Pm (PL (y7 + 1) 1000000) (∃ m', m' < m5 ∧ I1005 (y5 + 1) (updZ y6 y7 (W3 (rdZ (rdZ (runP (decW h b) b (kZ c (kZ a (kZ (nuP y1) 0)))) 1) (W3 (rdZ l y5))))) (y7 + 1) m'))))))))) (sq0 y7 y5 y6 m5 I1005)) (((W6 (rdZ (runP (decW h b) b (kZ c (kZ a (kZ (nuP y1) 0)))) 3)) : Int) = (W6 (rdZ
 (runP (decW h b) b (kZ c (kZ a (kZ (nuP (pokZ k e (kZ n (kZ i 0)))) 0)))) 3)) ∧ ((mkN (runP (decW h b) b (kZ c (kZ a (kZ (nuP y1) 0))))) : Int) = (mkN (runP (decW h b) b (kZ c (kZ a (kZ (nuP (pokZ k e (kZ n (kZ i 0)))) 0))))) ∧ qZh [.int .i64, .int .i64, .int .i64] (rdZ (runP (decW h b) b (kZ c (kZ a (kZ (nuP y1) 0)))) 5) (rdZ (runP (decW h b) b (kZ c (kZ a (kZ (nuP (pokZ k e (kZ n (kZ i 0)))) 0)))) 5) (mkN (runP (decW h b) b (kZ c (kZ a (kZ (nuP (pokZ k e (kZ n (kZ i 0)))) 0))))) ∧ (y7 : Int) = g ∧ qZh [.int .i32] y6 (outZ l g (rdZ (runP (decW h b) b (kZ c (kZ a (kZ (nuP (pokZ k e (kZ n (kZ i 0)))) 0)))) 1)) g ∧ True)))))
set_option maxHeartbeats 4000000 in
theorem holds (fuel nK nD nS nI nA nO cK cD cS cI cO cA rK rD rS rI rO rA : Int) (l_fuel : -9223372036854775808 ≤ fuel) (u_fuel : fuel ≤ 300) (l_nK : 0 ≤ nK) (u_nK : nK ≤ 16384) (l_nD : 0 ≤ nD) (u_nD : nD ≤ 2048) (l_nS : 0 ≤ nS) (u_nS : nS ≤ 1000000) (l_nI : 0 ≤ nI) (u_nI : nI ≤ 255) (l_nA : 0 ≤ nA) (u_nA : nA ≤ 255) (l_nO : 0 ≤ nO) (u_nO : nO ≤ 255) (h_pre0 : (adZ cI nI nD) ≠ 0) (h_pre1 : qQz (nA  ==  nI) ≠ 0) (h_pre2 : (adZ cO nO nD) ≠ 0) : P fuel nK nD nS nI nA nO cK cD cS cI cO cA rK rD rS rI rO rA := by
 delta P sq0 Pb Pm PL Pl Pe W6 W3 kZ
 have hA : nA = nI := by simpa [qQz] using h_pre1
 subst hA
 have hI := adZ_ne.1 h_pre0
 have hO := adZ_ne.1 h_pre2
 have hp : pokZ cI nA (qQq cA (qQq cD 0)) = pokF cI cA cD nA.toNat := pokZ_ev _ _ _ _
 simp only [nrm, nro, Int.reduceEq, Int.reduceNeg, reduceIte]
 refine ⟨fun i q m => i ≤ nA ∧ q = pokF cI cA cD i.toNat ∧ m = (nA - i).toNat, ⟨_, l_nA, rfl, rfl⟩, fun i q m hb hJ => ?_⟩
 obtain ⟨hi, rfl, rfl⟩ := hJ
 refine ⟨fun h => ?_, fun h => ?_⟩
 ·obtain ⟨a0, a1, a2⟩ := ad_at hI hb h u_nD
  rw [a2]
  refine ⟨h, fun _ => ⟨fun _ => ⟨fun g => by omega, fun _ => ⟨fun g => by omega, fun _ => ⟨by omega, by omega, by omega, _, ?_, by omega, ?_, rfl⟩⟩⟩, fun g => by omega⟩, fun g => by omega⟩
  ·omega
  ·rw [show (i + 1).toNat = i.toNat + 1 by omega, pokF, show ((i.toNat : Nat) : Int) = i by omega]
 rw [show i = nA by omega, hp]
 have hok : okC (decW cK nK) nK ≠ 0 := by
  have := okC_dec cK nK.toNat
  rwa [show ((nK.toNat : Nat) : Int) = nK by omega] at this
 refine ⟨hok, ?_⟩
 generalize runP (decW cK nK) nK _ = R
 refine ⟨fun i q n m => n = i ∧ i ≤ nO ∧ q = outF cO (rdZ R 1) i.toNat ∧ m = (nO - i).toNat, ⟨_, rfl, l_nO, rfl, rfl⟩, fun i q n m hb2 hJ => ?_⟩
 obtain ⟨rfl, hi2, rfl, rfl⟩ := hJ
 refine ⟨fun h => ?_, fun h => ?_⟩
 ·obtain ⟨a0, a1, a2⟩ := ad_at hO hb2.1 h u_nD
  rw [a2]
  refine ⟨fun _ => ⟨fun g => by omega, fun _ => ⟨fun g => by omega, fun _ => ⟨fun g => by omega, fun _ => ⟨by omega, by omega, by omega, by omega, by omega, _, ?_, rfl, by omega, ?_, rfl⟩⟩⟩⟩, fun g => by omega⟩
  ·omega
  ·rw [show (n + 1).toNat = n.toNat + 1 by omega, outF, show ((n.toNat : Nat) : Int) = n by omega]
 rw [show n = nO by omega]
 exact ⟨rfl, rfl, qZf _ _ _, rfl, qZf _ _ _⟩
theorem plain (i v ro p) : statH 2 rk tree ⟨i, fN, v, ro, p⟩ = P (i 0) (i 1) (i 2) (i 3) (i 4) (i 5) (i 6) (i 7) (i 8) (i 9) (i 10) (i 11) (i 12) (i 13) (i 14) (i 15) (i 16) (i 17) (i 18) := by kernel_rfl
theorem ran : ranH us (fun _ _ => .auto) rk 2 tree = true := by kernel_rfl
theorem fineT : fineH 2 rk tree = true := by kernel_rfl
theorem ok : RhOk (cxOf 2) rk.rh := okH us_ok ran fineT (by kernel_rfl) okk fun i v ro p hρ hpre => by rw [plain]; have q := hρ.hi; exact holds _ _ _ _ _ _ _ _ _ _ _ _ _ _ _ _ _ _ _ (q 0 _ rfl).1 (q 0 _ rfl).2 (q 1 _ rfl).1 (q 1 _ rfl).2 (q 2 _ rfl).1 (q 2 _ rfl).2 (q 3 _ rfl).1 (q 3 _ rfl).2 (q 4 _ rfl).1 (q 4 _ rfl).2 (q 5 _ rfl).1 (q 5 _ rfl).2 (q 6 _ rfl).1 (q 6 _ rfl).2 (hpre _ (mg 0 rfl)) (hpre _ (mg 1 rfl)) (hpre _ (mg 2 rfl))
end CTRun
namespace CTFirst
def rc : Rc := ⟨14, [none, none], [.row [.int .i64, .int .i64, .int .i64] 1000000, .row [.int .i64, .int .i64, .int .i64] 1000000], [], .one, [.int .i64 (.f 37 (.v 2) (.v 3) (qQx [(.v 0), (.v 1)]))]⟩
theorem okb : rc.ok = true := by kernel_rfl
noncomputable def us : SMs := fun Γ ins n => smH (cxG n Γ ins) [] (smR (cxG n Γ ins) [])
theorem us_ok : SMsOk us := fun Γ ins n => qJk (tabsG n Γ ins) (qZb _) (qZt (tabsG n Γ ins) (qZc _))
def Q0 : E := (.cl 1000 0 4611686018427387904)
def Q1 : E := (tR (.v 2) Q0)
def Q2 : E := (tR (.v 3) Q0)
def Q3 : E := (tp Q0 (.c 1))
def tree : TT (List E) :=
 (.loop ⟨1000, [some (0, 4611686018427387904)], [(.c 0)], 1008⟩ (.br (tk Q0 (.b .min .i64 (.v 0) (.v 1))) (.br (tk Q0 (.v 0)) (.new 1002 (t6 (tR Q1 (.c 0))) (.new 1003 (t6 (tR Q1 (.c 1))) (.new 1004 (t6 (tR Q1 (.c 2))) (.br (tk Q0 (.v 1)) (.new 1005 (t6 (tR Q2 (.c 0))) (.new 1006 (t6 (tR Q2 (.c 1))) (.new 1007 (t6 (tR Q2 (.c 2))) (.br (.nt (.ite (te (.cl 1002 (-9223372036854775808) 9223372036854775807) (.cl 1005 (-9223372036854775808) 9223372036854775807)) (.ite (te (.cl 1003 (-9223372036854775808) 9223372036854775807) (.cl 1006 (-9223372036854775808) 9223372036854775807)) (te (.cl 1004 (-9223372036854775808) 9223372036854775807) (.cl 1007 (-9223372036854775808) 9223372036854775807)) (.c 0)) (.c 0))) (.exit 0) (.br (tl Q3 (.c 4611686018427387904)) (.back [Q3]) (.bad 303)))))) (.bad
 200))))) (.bad 200)) (.exit 1)) (.br (te (.v 1008) (.c 0)) (.leaf [Q0]) (.br (tn (.v 0) (.v 1)) (.leaf [(.b .min .i64 (.v 0) (.v 1))]) (.leaf [(.c (-1))]))))
def P (a b c d e f : Int) : Prop :=
 ∃ I1000 : Int → Nat → Prop, (∃ m, I1000 0 m) ∧ ∀ y0 : Int, ∀ m0, ((0 ≤ y0 ∧ y0 ≤ 4611686018427387904) ∧ True) → I1000 y0 m0 → (Pb (Pl y0 (minZ a b)) (Pm (Pl y0 a) (Pn (W6 (rdZ (rdZ c y0) 0)) (-9223372036854775808) 9223372036854775807 fun y2 => Pn (W6 (rdZ (rdZ c y0) 1)) (-9223372036854775808) 9223372036854775807 fun y3 => Pn (W6 (rdZ (rdZ c y0) 2)) (-9223372036854775808) 9223372036854775807 fun y4 => (Pm (Pl y0 b) (Pn (W6 (rdZ (rdZ d y0) 0)) (-9223372036854775808) 9223372036854775807 fun y5 => Pn (W6 (rdZ (rdZ d y0) 1)) (-9223372036854775808) 9223372036854775807 fun y6 => Pn (W6 (rdZ (rdZ d y0) 2)) (-9223372036854775808) 9223372036854775807 fun y7 => (Pb (Pe (iteZ (Pe y2 y5) (iteZ (Pe y3 y6) (Pe y4 y7) 0) 0) 0) (Pb (Pe (0 : Int) 0) ((y0 : Int) = (qZu c d (kZ a (kZ b 0))) ∧ True) (Pb
 (Pd a b) (((minZ a b) : Int) = (qZu c d (kZ a (kZ b 0))) ∧ True) (((-1) : Int) = (qZu c d (kZ a (kZ b 0))) ∧ True))) (Pm (PL (y0 + 1) 4611686018427387904) (∃ m', m' < m0 ∧ I1000 (y0 + 1) m'))))))) (Pb (Pe (1 : Int) 0) ((y0 : Int) = (qZu c d (kZ a (kZ b 0))) ∧ True) (Pb (Pd a b) (((minZ a b) : Int) = (qZu c d (kZ a (kZ b 0))) ∧ True) (((-1) : Int) = (qZu c d (kZ a (kZ b 0))) ∧ True))))
theorem holds (n0 n1 c0 c1 r0 r1 : Int) (l_n0 : 0 ≤ n0) (u_n0 : n0 ≤ 1000000) (l_n1 : 0 ≤ n1) (u_n1 : n1 ≤ 1000000) (h_n0 : n0 ≤ r0) (h_n1 : n1 ≤ r1) : P n0 n1 c0 c1 r0 r1 := by
 delta P Pb Pm Pn PL Pl Pe Pd W6 kZ
 simp only [nrm, Int.reduceEq, Int.reduceNeg, reduceIte, mk_fold, mark_ne]
 refine ⟨fun i m => (∀ j : Nat, (j : Int) < i → ¬ qJu c0 c1 n0 n1 j) ∧ i ≤ minZ n0 n1 ∧ m = (n0 - i).toNat, ⟨_, fun j h => by omega, by unfold minZ; split <;> omega, rfl⟩, fun i m hb hI => ?_⟩
 obtain ⟨hl, hi, rfl⟩ := hI
 have hi0 := nat_i hb.1
 have hmin : minZ n0 n1 ≤ n0 ∧ minZ n0 n1 ≤ n1 ∧ (minZ n0 n1 = n0 ∨ minZ n0 n1 = n1) := by unfold minZ; split <;> omega
 refine ⟨fun h1 => ⟨fun h2 y2 e2 _ y3 e3 _ y4 e4 _ => ⟨fun h3 y5 e5 _ y6 e6 _ y7 e7 _ => ⟨fun h4 => ?_, fun h4 => ?_⟩, fun h3 => by omega⟩, fun h2 => by omega⟩, fun h1 => ?_⟩
 ·refine firstZ_some hb.1 ?_ (.inl h2) hl
  unfold qJu
  rw [hi0]
  subst e2; subst e3; subst e4; subst e5; subst e6; subst e7
  exact .inr (.inr h4)
 ·refine ⟨fun h5 => ⟨_, ?_, ?_, by omega, rfl⟩, fun h5 => by omega⟩
  ·omega
  ·intro j hj
   by_cases e : (j : Int) = i
   ·subst e2; subst e3; subst e4; subst e5; subst e6; subst e7
    unfold qJu
    rw [e]
    rintro (h | h | h)
    ·omega
    ·omega
    ·exact h4 h
   ·exact hl j (by omega)
 ·refine ⟨fun h2 => ?_, fun h2 => ?_⟩
  ·refine firstZ_some (by omega) ?_ (by omega) (fun j hj => hl j (by omega))
   unfold qJu; omega
  ·exact firstZ_none h2 fun j hj => hl j (by omega)
theorem plain (i v ro p) : statR 2 rc tree ⟨i, fN, v, ro, p⟩ = P (i 0) (i 1) (i 2) (i 3) (i 4) (i 5) := by kernel_rfl
theorem ran : ranR us (fun _ _ => .auto) rc 2 tree = true := by kernel_rfl
theorem fineT : fineR 2 rc tree = true := by kernel_rfl
theorem ok : RcOk (cxOf 2) rc := okR us_ok ran fineT okb fun i v ro p hρ hcap hpre => by rw [plain]; have q := hρ.hi; exact holds _ _ _ _ _ _ (q 0 _ rfl).1 (q 0 _ rfl).2 (q 1 _ rfl).1 (q 1 _ rfl).2 (hcap _ (mg 0 rfl)) (hcap _ (mg 1 rfl))
end CTFirst
namespace CTCost
def rc : Rc := ⟨15, [none], [.row [.int .i64, .int .i64, .int .i64] 1000000], [], .one, [.int .i64 (.f 35 (.v 1) (.v 0) (.c 0))]⟩
theorem okb : rc.ok = true := by kernel_rfl
noncomputable def us : SMs := fun Γ ins n => smH (cxG n Γ ins) [] (smR (cxG n Γ ins) [])
theorem us_ok : SMsOk us := fun Γ ins n => qJk (tabsG n Γ ins) (qZb _) (qZt (tabsG n Γ ins) (qZc _))
def tree : TT (List E) :=
(.loop ⟨1000, [some (-9223372036854775808, 9223372036854775807), some (0, 4611686018427387904)], [(.c 0), (.c 0)], 1003⟩
 (.br (.b .lt .i64 (.cl 1001 0 4611686018427387904) (.v 0))
 (.br (.b .le .i64 (.b .padd .i64 (.cl 1001 0 4611686018427387904) (.c 1)) (.c 4611686018427387904))
 (.back [(.w .i64 (.b .padd .i64 (.cl 1000 (-9223372036854775808) 9223372036854775807) (.w .i64 (.f 13 (.f 13 (.v 1) (.cl 1001 0 4611686018427387904) (.c 0)) (.c 2) (.c 0))))), (.b .padd .i64 (.cl 1001 0 4611686018427387904) (.c 1))])
 (.bad 303))
 (.exit 0))
 (.leaf [(.cl 1000 (-9223372036854775808) 9223372036854775807)]))
def P (n0 c0 r0 : Int) : Prop :=
 ∃ I1000 : Int → Int → Nat → Prop, (∃ m, I1000 0 0 m) ∧
 ∀ y1000 y1001 : Int, ∀ m1000, (((-9223372036854775808) ≤ y1000 ∧ y1000 ≤ 9223372036854775807) ∧ (0 ≤ y1001 ∧ y1001 ≤ 4611686018427387904) ∧ True) → I1000 y1000 y1001 m1000 →
  (((qQz (decide (y1001 < n0))) ≠ 0 →
   (((qQz (decide ((y1001 + 1) ≤ 4611686018427387904))) ≠ 0 →
    ∃ m', m' < m1000 ∧ I1000 (IntKind.wrap .i64 (y1000 + (IntKind.wrap .i64 (rdZ (rdZ c0 y1001) 2)))) (y1001 + 1) m') ∧ ((qQz (decide ((y1001 + 1) ≤ 4611686018427387904))) = 0 →
    False))) ∧ ((qQz (decide (y1001 < n0))) = 0 →
   (y1000 : Int) = (costZ c0 n0) ∧ True))
theorem holds (n0 c0 r0 : Int) (l_n0 : 0 ≤ n0) (u_n0 : n0 ≤ 1000000) (h_n0 : n0 ≤ r0) : P n0 c0 r0 := by
 unfold P
 simp only [nrm, Int.reduceEq, Int.reduceNeg, reduceIte, mk_fold]
 refine ⟨fun s i m => s = costF c0 i.toNat ∧ i ≤ n0 ∧ m = (n0 - i).toNat, ⟨_, rfl, l_n0, rfl⟩, fun s i m hb hI => ?_⟩
 obtain ⟨rfl, hi, rfl⟩ := hI
 have hi0 := nat_i hb.2.1
 refine ⟨fun h1 => ⟨fun h2 => ⟨_, ?_, ?_, by omega, rfl⟩, fun h2 => by omega⟩, fun h1 => ?_⟩
 ·omega
 ·rw [succ_i hb.2.1, costF, hi0]
 ·rw [show i = n0 by omega]; rfl
theorem plain (i v ro p) : statR 2 rc tree ⟨i, fN, v, ro, p⟩ = P (i 0) (i 1) (i 2) := by kernel_rfl
theorem ran : ranR us (fun _ _ => .auto) rc 2 tree = true := by kernel_rfl
theorem fineT : fineR 2 rc tree = true := by kernel_rfl
theorem ok : RcOk (cxOf 2) rc := okR us_ok ran fineT okb fun i v ro p hρ hcap hpre => by rw [plain]; have q := hρ.hi; exact holds _ _ _ (q 0 _ rfl).1 (q 0 _ rfl).2 (hcap _ (mg 0 rfl))
end CTCost
namespace CTwRun
def rc : Rc := ⟨7, [some 5, none, none, none], [.row [.int .u32] 1000000, .row [.int .i32] 1000000, .row [.bool] 1000000, .row [.int .i64] 1000000, .row [.int .i64] 1000000, .row [.int .i32] 1000000, .row [.int .i32] 1000000, .int .i64], [(.b .le .i64 (.v 7) (.c 300))], .tup [some 10, none], [.bool (.ite (.b .pmul .i64 (.b .pmul .i64 (.b .eq .i64 (.f 84 (.v 0) (.v 1) (qQx [(.v 2), (.v 3), (.v 4), (.v 11), (.v 12)])) (.c 0)) (.b .eq .i64 (.v 5) (.v 3))) (.b .eq .i64 (.v 6) (.v 3))) (.b .pmul .i64 (.b .eq .i64 (.f 37 (.f 13 (.f 73 (.f 88 (.v 8) (.v 0) (.c 0)) (.v 0) (qQx [(.v 1), (.v 7), (.f 74 (.f 86 (.v 11) (.v 3) (qQx [(.v 13), (.v 9)])) (.c 0) (.c 0))])) (.c 5) (.c 0)) (.f 13 (.f 73 (.f 88 (.v 8) (.v 0) (.c 0)) (.v 0) (qQx [(.v 1), (.v 7), (.f 74 (.f 86 (.v 11) (.v 3) (qQx [(.v 14), (.v 9)])) (.c 0) (.c 0))])) (.c 5) (.c 0)) (qQx [(.f 75 (.f 73 (.f 88 (.v 8) (.v 0) (.c 0)) (.v 0) (qQx [(.v 1), (.v 7), (.f 74 (.f 86 (.v 11) (.v 3) (qQx [(.v 13), (.v 9)])) (.c 0) (.c 0))])) (.c 0) (.c 0)), (.f 75 (.f 73 (.f 88 (.v 8) (.v 0) (.c 0)) (.v 0) (qQx [(.v 1), (.v 7), (.f 74 (.f 86 (.v 11) (.v 3) (qQx [(.v 14), (.v 9)])) (.c 0) (.c 0))])) (.c 0) (.c 0))])) (.c (-1))) (.b .eq .i64 (.w .i64 (.f 13 (.f 73 (.f 88 (.v 8) (.v 0) (.c 0)) (.v 0) (qQx [(.v 1), (.v 7), (.f 74 (.f 86 (.v 11) (.v 3) (qQx [(.v 13), (.v 9)])) (.c 0) (.c 0))])) (.c 3) (.c 0))) (.w .i64 (.f 13 (.f 73 (.f 88 (.v 8) (.v 0) (.c 0)) (.v 0) (qQx [(.v 1), (.v 7), (.f 74 (.f 86 (.v 11) (.v 3) (qQx [(.v 14), (.v 9)])) (.c 0) (.c 0))])) (.c 3) (.c 0))))) (.c 0)), .int .i64 (.ite (.b .pmul .i64 (.b .pmul .i64 (.b .eq .i64 (.f 84 (.v 0) (.v 1) (qQx [(.v 2), (.v 3), (.v 4), (.v 11), (.v 12)])) (.c 0)) (.b .eq .i64 (.v 5) (.v 3))) (.b .eq .i64 (.v 6) (.v 3))) (.f 37 (.f 13 (.f 73 (.f 88 (.v 8) (.v 0) (.c 0)) (.v 0) (qQx [(.v 1), (.v 7), (.f 74 (.f 86 (.v 11) (.v 3) (qQx [(.v 13), (.v 9)])) (.c 0) (.c 0))])) (.c 5) (.c 0)) (.f 13 (.f 73 (.f 88 (.v 8) (.v 0) (.c 0)) (.v 0) (qQx [(.v 1), (.v 7), (.f 74 (.f 86 (.v 11) (.v 3) (qQx [(.v 14), (.v 9)])) (.c 0) (.c 0))])) (.c 5) (.c 0)) (qQx [(.f 75 (.f 73 (.f 88 (.v 8) (.v 0) (.c 0)) (.v 0) (qQx [(.v 1), (.v 7), (.f 74 (.f 86 (.v 11) (.v 3) (qQx [(.v 13), (.v 9)])) (.c 0) (.c 0))])) (.c 0) (.c 0)), (.f 75 (.f 73 (.f 88 (.v 8) (.v 0) (.c 0)) (.v 0) (qQx [(.v 1), (.v 7), (.f 74 (.f 86 (.v 11) (.v 3) (qQx [(.v 14), (.v 9)])) (.c 0) (.c 0))])) (.c 0) (.c 0))])) (.c 0)), .int .i64 (.ite (.b .pmul .i64 (.b .pmul .i64 (.b .eq .i64 (.f 84 (.v 0) (.v 1) (qQx [(.v 2), (.v 3), (.v 4), (.v 11), (.v 12)])) (.c 0)) (.b .eq .i64 (.v 5) (.v 3))) (.b .eq .i64 (.v 6) (.v 3))) (.w .i64 (.f 13 (.f 73 (.f 88 (.v 8) (.v 0) (.c 0)) (.v 0) (qQx [(.v 1), (.v 7), (.f 74 (.f 86 (.v 11) (.v 3) (qQx [(.v 13), (.v 9)])) (.c 0) (.c 0))])) (.c 3) (.c 0))) (.c 0)), .int .i64 (.ite (.b .pmul .i64 (.b .pmul .i64 (.b .eq .i64 (.f 84 (.v 0) (.v 1) (qQx [(.v 2), (.v 3), (.v 4), (.v 11), (.v 12)])) (.c 0)) (.b .eq .i64 (.v 5) (.v 3))) (.b .eq .i64 (.v 6) (.v 3))) (.w .i64 (.f 13 (.f 73 (.f 88 (.v 8) (.v 0) (.c 0)) (.v 0) (qQx [(.v 1), (.v 7), (.f 74 (.f 86 (.v 11) (.v 3) (qQx [(.v 14), (.v 9)])) (.c 0) (.c 0))])) (.c 3) (.c 0))) (.c 0)), .int .i64 (.ite (.b .pmul .i64 (.b .pmul .i64 (.b .eq .i64 (.f 84 (.v 0) (.v 1) (qQx [(.v 2), (.v 3), (.v 4), (.v 11), (.v 12)])) (.c 0)) (.b .eq .i64 (.v 5) (.v 3))) (.b .eq .i64 (.v 6) (.v 3))) (.f 35 (.f 13 (.f 73 (.f 88 (.v 8) (.v 0) (.c 0)) (.v 0) (qQx [(.v 1), (.v 7), (.f 74 (.f 86 (.v 11) (.v 3) (qQx [(.v 13), (.v 9)])) (.c 0) (.c 0))])) (.c 5) (.c 0)) (.f 75 (.f 73 (.f 88 (.v 8) (.v 0) (.c 0)) (.v 0) (qQx [(.v 1), (.v 7), (.f 74 (.f 86 (.v 11) (.v 3) (qQx [(.v 13), (.v 9)])) (.c 0) (.c 0))])) (.c 0) (.c 0)) (.c 0)) (.c 0)), .int .i64 (.ite (.b .pmul .i64 (.b .pmul .i64 (.b .eq .i64 (.f 84 (.v 0) (.v 1) (qQx [(.v 2), (.v 3), (.v 4), (.v 11), (.v 12)])) (.c 0)) (.b .eq .i64 (.v 5) (.v 3))) (.b .eq .i64 (.v 6) (.v 3))) (.f 35 (.f 13 (.f 73 (.f 88 (.v 8) (.v 0) (.c 0)) (.v 0) (qQx [(.v 1), (.v 7), (.f 74 (.f 86 (.v 11) (.v 3) (qQx [(.v 14), (.v 9)])) (.c 0) (.c 0))])) (.c 5) (.c 0)) (.f 75 (.f 73 (.f 88 (.v 8) (.v 0) (.c 0)) (.v 0) (qQx [(.v 1), (.v 7), (.f 74 (.f 86 (.v 11) (.v 3) (qQx [(.v 14), (.v 9)])) (.c 0) (.c 0))])) (.c 0) (.c 0)) (.c 0)) (.c 0)), .row [.int .i32] 21 (.f 87 (.v 12) (.v 4) (.f 13 (.f 73 (.f 88 (.v 8) (.v 0) (.c 0)) (.v 0) (qQx [(.v 1), (.v 7), (.f 74 (.f 86 (.v 11) (.v 3) (qQx [(.v 13), (.v 9)])) (.c 0) (.c 0))])) (.c 1) (.c 0))) (.ite (.b .pmul .i64 (.b .pmul .i64 (.b .eq .i64 (.f 84 (.v 0) (.v 1) (qQx [(.v 2), (.v 3), (.v 4), (.v 11), (.v 12)])) (.c 0)) (.b .eq .i64 (.v 5) (.v 3))) (.b .eq .i64 (.v 6) (.v 3))) (.v 4) (.c 0)), .row [.int .i32] 21 (.f 87 (.v 12) (.v 4) (.f 13 (.f 73 (.f 88 (.v 8) (.v 0) (.c 0)) (.v 0) (qQx [(.v 1), (.v 7), (.f 74 (.f 86 (.v 11) (.v 3) (qQx [(.v 14), (.v 9)])) (.c 0) (.c 0))])) (.c 1) (.c 0))) (.ite (.b .pmul .i64 (.b .pmul .i64 (.b .eq .i64 (.f 84 (.v 0) (.v 1) (qQx [(.v 2), (.v 3), (.v 4), (.v 11), (.v 12)])) (.c 0)) (.b .eq .i64 (.v 5) (.v 3))) (.b .eq .i64 (.v 6) (.v 3))) (.v 4) (.c 0)), .int .i64 (.ite (.b .pmul .i64 (.b .pmul .i64 (.b .eq .i64 (.f 84 (.v 0) (.v 1) (qQx [(.v 2), (.v 3), (.v 4), (.v 11), (.v 12)])) (.c 0)) (.b .eq .i64 (.v 5) (.v 3))) (.b .eq .i64 (.v 6) (.v 3))) (.f 75 (.f 73 (.f 88 (.v 8) (.v 0) (.c 0)) (.v 0) (qQx [(.v 1), (.v 7), (.f 74 (.f 86 (.v 11) (.v 3) (qQx [(.v 13), (.v 9)])) (.c 0) (.c 0))])) (.c 0) (.c 0)) (.c 0)), .int .i64 (.ite (.b .pmul .i64 (.b .pmul .i64 (.b .eq .i64 (.f 84 (.v 0) (.v 1) (qQx [(.v 2), (.v 3), (.v 4), (.v 11), (.v 12)])) (.c 0)) (.b .eq .i64 (.v 5) (.v 3))) (.b .eq .i64 (.v 6) (.v 3))) (.f 75 (.f 73 (.f 88 (.v 8) (.v 0) (.c 0)) (.v 0) (qQx [(.v 1), (.v 7), (.f 74 (.f 86 (.v 11) (.v 3) (qQx [(.v 14), (.v 9)])) (.c 0) (.c 0))])) (.c 0) (.c 0)) (.c 0)), .int .i64 (.ite (.b .ne .i64 (.f 84 (.v 0) (.v 1) (qQx [(.v 2), (.v 3), (.v 4), (.v 11), (.v 12)])) (.c 0)) (.f 84 (.v 0) (.v 1) (qQx [(.v 2), (.v 3), (.v 4), (.v 11), (.v 12)])) (.ite (.b .pmul .i64 (.b .eq .i64 (.v 5) (.v 3)) (.b .eq .i64 (.v 6) (.v 3))) (.c 0) (.c 2)))]⟩
theorem okb : rc.ok = true := by kernel_rfl
noncomputable def us : SMs := fun Γ ins n => smH (cxG n Γ ins) [CTRun.rk.rh] (smR (cxG n Γ ins) [CICheck.rc, CTFirst.rc, CTCost.rc])
theorem us_ok : SMsOk us := fun Γ ins n => qJk (tabsG n Γ ins) (rhs_cons CTRun.okh (rh_n CTRun.ok) (qZb _)) (qZt (tabsG n Γ ins) (qZq CICheck.okb (rc_n CICheck.ok) (qZq CTFirst.okb (rc_n CTFirst.ok) (qZq CTCost.okb (rc_n CTCost.ok) (qZc _)))))
def Q0 : E := (.f 88 (.v 8) (.v 0) (.c 0))
def Q1 : E := (tC (.v 9) (.c 0))
def Q2 : E := (tC (.v 13) Q1)
def Q3 : E := (.f 86 (.v 11) (.v 3) Q2)
def Q4 : E := (.f 74 Q3 (.c 0) (.c 0))
def Q5 : E := (tC Q4 (.c 0))
def Q6 : E := (tC (.v 7) Q5)
def Q7 : E := (tC (.v 1) Q6)
def Q8 : E := (.f 73 Q0 (.v 0) Q7)
def Q9 : E := (tC (.v 14) Q1)
def Q10 : E := (.f 86 (.v 11) (.v 3) Q9)
def Q11 : E := (.f 74 Q10 (.c 0) (.c 0))
def Q12 : E := (tC Q11 (.c 0))
def Q13 : E := (tC (.v 7) Q12)
def Q14 : E := (tC (.v 1) Q13)
def Q15 : E := (.f 73 Q0 (.v 0) Q14)
def Q16 : E := (tR Q8 (.c 5))
def Q17 : E := (tR Q15 (.c 5))
def Q18 : E := (tC (.cl 1002 0 999999) (.c 0))
def Q19 : E := (tC (.cl 1001 0 999999) Q18)
def Q20 : E := (.f 37 Q16 Q17 Q19)
def Q21 : E := (tR Q8 (.c 3))
def Q22 : E := (t6 Q21)
def Q23 : E := (tR Q15 (.c 3))
def Q24 : E := (t6 Q23)
def Q25 : E := (.f 35 Q16 (.cl 1001 0 999999) (.c 0))
def Q26 : E := (.f 35 Q17 (.cl 1002 0 999999) (.c 0))
def Q27 : E := (.cl 1003 (-9223372036854775808) 9223372036854775807)
def Q28 : E := (.cl 1004 (-9223372036854775808) 9223372036854775807)
def Q29 : E := (.cl 1005 (-9223372036854775808) 9223372036854775807)
def Q30 : E := (.cl 1006 (-9223372036854775808) 9223372036854775807)
def Q31 : E := (tR Q8 (.c 1))
def Q32 : E := (.f 87 (.v 12) (.v 4) Q31)
def Q33 : E := (tR Q15 (.c 1))
def Q34 : E := (.f 87 (.v 12) (.v 4) Q33)
def tree : TT (List E) :=
 (.br (tl (.v 0) (.v 15)) (.br (tl (.v 1) (.v 16)) (.br (tl (.v 2) (.v 17)) (.br (tl (.v 3) (.v 18)) (.br (tl (.v 4) (.v 19)) (.new 1000 (.f 84 (.v 0) (.v 1) (tC (.v 2) (tC (.v 3) (tC (.v 4) (tC (.v 11) (tC (.v 12) (.c 0))))))) (.br (tn (.cl 1000 0 9) (.c 0)) (.leaf [(.c 0), (.c 0), (.c 0), (.c 0), (.c 0), (.c 0), (.c 0), (.c 0), (.c 0), (.c 0), (.c 0), (.c 0), (.cl 1000 0 9)]) (.br (tn (.v 5) (.v 3)) (.leaf [(.c 0), (.c 0), (.c 0), (.c 0), (.c 0), (.c 0), (.c 0), (.c 0), (.c 0), (.c 0), (.c 0), (.c 0), (.c 2)]) (.br (tn (.v 6) (.v 3)) (.leaf [(.c 0), (.c 0), (.c 0), (.c 0), (.c 0), (.c 0), (.c 0), (.c 0), (.c 0), (.c 0), (.c 0), (.c 0), (.c 2)]) (.br (tl (.v 7) (.c 300)) (.br (tl (.v 0) (.c 16384)) (.br (tl (.v 1) (.c 2048)) (.br (tl (.v 3) (.c 255)) (.br (tl (.v 5) (.c 255)) (.br (tl
 (.v 4) (.c 255)) (.br (.f 85 (.v 11) (.v 3) (.v 1)) (.br (te (.v 5) (.v 3)) (.br (.f 85 (.v 12) (.v 4) (.v 1)) (.br (tl (.v 6) (.c 255)) (.br (te (.v 6) (.v 3)) (.new 1001 (.f 75 Q8 (.c 0) (.c 0)) (.new 1002 (.f 75 Q15 (.c 0) (.c 0)) (.br (te Q20 (.c (-1))) (.new 1003 Q22 (.new 1004 Q24 (.new 1005 Q25 (.new 1006 Q26 (.leaf [(te Q27 Q28), Q20, Q27, Q28, Q29, Q30, (.v 4), Q32, (.v 4), Q34, (.cl 1001 0 999999), (.cl 1002 0 999999), (.c 0)]))))) (.new 1003 Q22 (.new 1004 Q24 (.new 1005 Q25 (.new 1006 Q26 (.leaf [(.c 0), Q20, Q27, Q28, Q29, Q30, (.v 4), Q32, (.v 4), Q34, (.cl 1001 0 999999), (.cl 1002 0 999999), (.c 0)])))))))) (.bad 200)) (.bad 200)) (.bad 200)) (.bad 200)) (.bad 200)) (.bad 200)) (.bad 200)) (.bad 200)) (.bad 200)) (.bad 200)) (.bad 200)))))) (.bad 200)) (.bad 200)) (.bad
 200)) (.bad 200)) (.bad 200))
noncomputable def sq0 (i a b h l d p j : Int) : Int := (runP (decW i a) a (kZ b (kZ h (kZ (nuP (pokZ l d (kZ p (kZ j 0)))) 0))))
noncomputable def sq1 (i a b h l d o j : Int) : Int := (runP (decW i a) a (kZ b (kZ h (kZ (nuP (pokZ l d (kZ o (kZ j 0)))) 0))))
noncomputable def sq2 (a b c d e l n : Int) : Int := (chkZ a b (kZ c (kZ d (kZ e (kZ l (kZ n 0))))))
def sL0 (a b c d e l n f g i h o j p z0 z2 z4 z6 z8 z10 z12 z14 z16 z17 z19 z21 z22 z24 z26 : Int) : Prop := ((z0 : Int) ≠ 0 ↔ ((iteZ (((Pe (sq2 a b c d e l n) 0) * (Pe f d)) * (Pe g d)) ((Pe (qZu (rdZ (sq1 i a b h l d o j) 5) (rdZ (sq0 i a b h l d p j) 5) (kZ (mkN (sq1 i a b h l d o j)) (kZ (mkN (sq0 i a b h l d p j)) 0))) (-1)) * (Pe (W6 (rdZ (sq1 i a b h l d o j) 3)) (W6 (rdZ (sq0 i a b h l d p j) 3)))) 0) : Int) ≠ 0) ∧ (z2 : Int) = (iteZ (((Pe (sq2 a b c d e l n) 0) * (Pe f d)) * (Pe g d)) (qZu (rdZ (sq1 i a b h l d o j) 5) (rdZ (sq0 i a b h l d p j) 5) (kZ (mkN (sq1 i a b h l d o j)) (kZ (mkN (sq0 i a b h l d p j)) 0))) 0) ∧ (z4 : Int) = (iteZ (((Pe (sq2 a b c d e l n) 0) * (Pe f d)) * (Pe g d)) (W6 (rdZ (sq1 i a b h l d o j) 3)) 0) ∧ (z6 : Int) = (iteZ (((Pe (sq2 a b c d e l
 n) 0) * (Pe f d)) * (Pe g d)) (W6 (rdZ (sq0 i a b h l d p j) 3)) 0) ∧ (z8 : Int) = (iteZ (((Pe (sq2 a b c d e l n) 0) * (Pe f d)) * (Pe g d)) (costZ (rdZ (sq1 i a b h l d o j) 5) (mkN (sq1 i a b h l d o j))) 0) ∧ (z10 : Int) = (iteZ (((Pe (sq2 a b c d e l n) 0) * (Pe f d)) * (Pe g d)) (costZ (rdZ (sq0 i a b h l d p j) 5) (mkN (sq0 i a b h l d p j))) 0) ∧ (z12 : Int) = (iteZ (((Pe (sq2 a b c d e l n) 0) * (Pe f d)) * (Pe g d)) e 0) ∧ qZh [.int .i32] z14 (outZ n e (rdZ (sq1 i a b h l d o j) 1)) z16 ∧ (z17 : Int) = (iteZ (((Pe (sq2 a b c d e l n) 0) * (Pe f d)) * (Pe g d)) e 0) ∧ qZh [.int .i32] z19 (outZ n e (rdZ (sq0 i a b h l d p j) 1)) z21 ∧ (z22 : Int) = (iteZ (((Pe (sq2 a b c d e l n) 0) * (Pe f d)) * (Pe g d)) (mkN (sq1 i a b h l d o j)) 0) ∧ (z24 : Int) = (iteZ (((Pe (sq2 a b c
 d e l n) 0) * (Pe f d)) * (Pe g d)) (mkN (sq0 i a b h l d p j)) 0) ∧ (z26 : Int) = (iteZ (Pd (sq2 a b c d e l n) 0) (sq2 a b c d e l n) (iteZ ((Pe f d) * (Pe g d)) 0 2)) ∧ True
def P (a b c d e f g h i j k l n o p q r s t u v w : Int) : Prop :=
 (Pm (PL a q) (Pm (PL b r) (Pm (PL c s) (Pm (PL d t) (Pm (PL e u) (Pn (sq2 a b c d e l n) 0 9 fun y0 => (Pb (Pd y0 0) (sL0 a b c d e l n f g i h o j p 0 0 0 0 0 0 0 0 0 0 0 0 0 0 y0) (Pb (Pd f d) (sL0 a b c d e l n f g i h o j p 0 0 0 0 0 0 0 0 0 0 0 0 0 0 2) (Pb (Pd g d) (sL0 a b c d e l n f g i h o j p 0 0 0 0 0 0 0 0 0 0 0 0 0 0 2) (Pm (PL h 300) (Pm (PL a 16384) (Pm (PL b 2048) (Pm (PL d 255) (Pm (PL f 255) (Pm (PL e 255) (Pm (adZ l d b) (Pm (Pe f d) (Pm (adZ n e b) (Pm (PL g 255) (Pm (Pe g d) (Pn (mkN (sq1 i a b h l d o j)) 0 999999 fun y1 => Pn (mkN (sq0 i a b h l d p j)) 0 999999 fun y2 => (Pb (Pe (qZu (rdZ (sq1 i a b h l d o j) 5) (rdZ (sq0 i a b h l d p j) 5) (kZ y1 (kZ y2 0))) (-1)) (Pn (W6 (rdZ (sq1 i a b h l d o j) 3)) (-9223372036854775808) 9223372036854775807 fun y3 => Pn
 (W6 (rdZ (sq0 i a b h l d p j) 3)) (-9223372036854775808) 9223372036854775807 fun y4 => Pn (costZ (rdZ (sq1 i a b h l d o j) 5) y1) (-9223372036854775808) 9223372036854775807 fun y5 => Pn (costZ (rdZ (sq0 i a b h l d p j) 5) y2) (-9223372036854775808) 9223372036854775807 fun y6 => (sL0 a b c d e l n f g i h o j p (Pe y3 y4) (qZu (rdZ (sq1 i a b h l d o j) 5) (rdZ (sq0 i a b h l d p j) 5) (kZ y1 (kZ y2 0))) y3 y4 y5 y6 e (outZ n e (rdZ (sq1 i a b h l d o j) 1)) e e (outZ n e (rdZ (sq0 i a b h l d p j) 1)) e y1 y2 0)) (Pn (W6 (rdZ (sq1 i a b h l d o j) 3)) (-9223372036854775808) 9223372036854775807 fun y3 => Pn (W6 (rdZ (sq0 i a b h l d p j) 3)) (-9223372036854775808) 9223372036854775807 fun y4 => Pn (costZ (rdZ (sq1 i a b h l d o j) 5) y1) (-9223372036854775808) 9223372036854775807 fun
 y5 => Pn (costZ (rdZ (sq0 i a b h l d p j) 5) y2) (-9223372036854775808) 9223372036854775807 fun y6 => (sL0 a b c d e l n f g i h o j p 0 (qZu (rdZ (sq1 i a b h l d o j) 5) (rdZ (sq0 i a b h l d p j) 5) (kZ y1 (kZ y2 0))) y3 y4 y5 y6 e (outZ n e (rdZ (sq1 i a b h l d o j) 1)) e e (outZ n e (rdZ (sq0 i a b h l d p j) 1)) e y1 y2 0))))))))))))))))))))))))
set_option maxHeartbeats 4000000 in
theorem holds (n0_0 n0_1 n0_2 n0_3 n0_4 n1 n2 p3 c0_0 c0_1 c0_2 c0_3 c0_4 c1 c2 r0_0 r0_1 r0_2 r0_3 r0_4 r1 r2 : Int) (l_n0_0 : 0 ≤ n0_0) (u_n0_0 : n0_0 ≤ 1000000) (l_n0_1 : 0 ≤ n0_1) (u_n0_1 : n0_1 ≤ 1000000) (l_n0_2 : 0 ≤ n0_2) (u_n0_2 : n0_2 ≤ 1000000) (l_n0_3 : 0 ≤ n0_3) (u_n0_3 : n0_3 ≤ 1000000) (l_n0_4 : 0 ≤ n0_4) (u_n0_4 : n0_4 ≤ 1000000) (l_n1 : 0 ≤ n1) (u_n1 : n1 ≤ 1000000) (l_n2 : 0 ≤ n2) (u_n2 : n2 ≤ 1000000) (l_p3 : -9223372036854775808 ≤ p3) (u_p3 : p3 ≤ 9223372036854775807) (h_n0_0 : n0_0 ≤ r0_0) (h_n0_1 : n0_1 ≤ r0_1) (h_n0_2 : n0_2 ≤ r0_2) (h_n0_3 : n0_3 ≤ r0_3) (h_n0_4 : n0_4 ≤ r0_4) (h_n1 : n1 ≤ r1) (h_n2 : n2 ≤ r2) (h_pre0 : qQz (decide (p3  ≤  300)) ≠ 0) : P n0_0 n0_1 n0_2 n0_3 n0_4 n1 n2 p3 c0_0 c0_1 c0_2 c0_3 c0_4 c1 c2 r0_0 r0_1 r0_2 r0_3 r0_4 r1 r2 := by
 delta P sq0 sq1 sq2 sL0 Pb Pm Pn PL Pe Pd W6 kZ
 have hp : p3 ≤ 300 := by simpa [qQz] using h_pre0
 simp only [nrm, nro, Int.reduceEq, Int.reduceNeg, reduceIte]
 simp only [chk_ev]
 have s1 : ¬ (1 : Int) = 0 := by decide
 have s4 : qQz ((0 : Int) == 0) = 1 := by decide
 have rn : ∀ c q, qZh [.int .i32] c q 0 := fun c q => rowEq_nil _ _ _ (Int.le_refl _)
 generalize runP (decW c0_0 n0_0) n0_0 (qQq n0_1 (qQq p3 (qQq (nuP (pokZ c0_3 n0_3 (qQq c1 (qQq c0_1 0)))) 0))) = A
 generalize runP (decW c0_0 n0_0) n0_0 (qQq n0_1 (qQq p3 (qQq (nuP (pokZ c0_3 n0_3 (qQq c2 (qQq c0_1 0)))) 0))) = B
 refine ⟨h_n0_0, h_n0_1, h_n0_2, h_n0_3, h_n0_4, ?_⟩
 rintro x rfl -
 refine ⟨fun h => ?_, fun h => ?_⟩
 ·have hb : qQz (chk7 n0_0 n0_1 n0_2 n0_3 n0_4 c0_3 c0_4 == 0) = 0 := by simp [qQz, h]
  simp only [hb, h, Int.zero_mul, not_true_eq_false, not_false_eq_true, if_false, if_true, rn, true_and, and_true]
 have hb : qQz (chk7 n0_0 n0_1 n0_2 n0_3 n0_4 c0_3 c0_4 == 0) = 1 := by simp [qQz, h]
 obtain ⟨k1, k2, k3, k4, k5, k6, k7, k8⟩ := chk_zero h
 refine ⟨fun g => ?_, fun g => ?_⟩
 ·have hc : qQz (n1 == n0_3) = 0 := by simp [qQz, g]
  simp only [hb, hc, h, s4, Int.zero_mul, Int.mul_zero, not_true_eq_false, not_false_eq_true, if_false, if_true, rn, true_and, and_true]
 have hc : qQz (n1 == n0_3) = 1 := by simp [qQz, g]
 refine ⟨fun g2 => ?_, fun g2 => ?_⟩
 ·have hd : qQz (n2 == n0_3) = 0 := by simp [qQz, g2]
  simp only [hb, hc, hd, h, s4, Int.zero_mul, Int.mul_zero, not_true_eq_false, not_false_eq_true, if_false, if_true, rn, true_and, and_true]
 have hd : qQz (n2 == n0_3) = 1 := by simp [qQz, g2]
 have s2 : ¬ (1 : Int) * 1 * 1 = 0 := by decide
 have s3 : ¬ (1 : Int) * 1 = 0 := by decide
 simp only [hb, hc, hd, h, s2, s3, s4, not_true_eq_false, not_false_eq_true, if_false, if_true]
 refine ⟨hp, k1, k2, k3, by omega, k4, adZ_ne.2 k6, g, adZ_ne.2 k7, by omega, g2, ?_⟩
 rintro _ rfl - _ rfl -
 generalize qZu (rdZ A 5) (rdZ B 5) (qQq (mkN A) (qQq (mkN B) 0)) = F
 refine ⟨fun hF => ?_, fun hF => ?_⟩
 all_goals
  rintro _ rfl - _ rfl - _ rfl - _ rfl -
  simp [qQz, hF, qZf]
theorem plain (i v ro p) : statR 2 rc tree ⟨i, fN, v, ro, p⟩ = P (i 0) (i 1) (i 2) (i 3) (i 4) (i 5) (i 6) (i 7) (i 8) (i 9) (i 10) (i 11) (i 12) (i 13) (i 14) (i 15) (i 16) (i 17) (i 18) (i 19) (i 20) (i 21) := by kernel_rfl
theorem ran : ranR us (fun _ _ => .auto) rc 2 tree = true := by kernel_rfl
theorem fineT : fineR 2 rc tree = true := by kernel_rfl
theorem ok : RcOk (cxOf 2) rc := okR us_ok ran fineT okb fun i v ro p hρ hcap hpre => by rw [plain]; have q := hρ.hi; exact holds _ _ _ _ _ _ _ _ _ _ _ _ _ _ _ _ _ _ _ _ _ _ (q 0 _ rfl).1 (q 0 _ rfl).2 (q 1 _ rfl).1 (q 1 _ rfl).2 (q 2 _ rfl).1 (q 2 _ rfl).2 (q 3 _ rfl).1 (q 3 _ rfl).2 (q 4 _ rfl).1 (q 4 _ rfl).2 (q 5 _ rfl).1 (q 5 _ rfl).2 (q 6 _ rfl).1 (q 6 _ rfl).2 (q 7 _ rfl).1 (q 7 _ rfl).2 (hcap _ (mg 0 rfl)) (hcap _ (mg 1 rfl)) (hcap _ (mg 2 rfl)) (hcap _ (mg 3 rfl)) (hcap _ (mg 4 rfl)) (hcap _ (mg 5 rfl)) (hcap _ (mg 6 rfl)) (hpre _ (mg 0 rfl))
end CTwRun
end Go.Proofs.YteimodjkllldlabGreatDoor
