/-
  What functions of the program answer, as numbers of what they are handed: their runs by the engine, the plain statements behind them. No condition.
-/
import Derived.Test.YtemcjakecoceaaaGreatDoorKe
import Derived.Test.YtemcjakecoceaaaGreatDoorGab
import Derived.Test.YtemcjakecoceaaaGreatDoorGmC
import Derived.Test.YtemcjakecoceaaaGreatDoorGmE
import Derived.Test.YtemcjakecoceaaaGreatDoorGmH
import Derived.Test.YtemcjakecoceaaaGreatDoorGmI
import Derived.Test.YtemcjakecoceaaaGreatDoorGmT
set_option linter.unusedVariables false
set_option linter.unusedSimpArgs false
set_option maxRecDepth 100000
namespace Go.Proofs.YtemcjakecoceaaaGreatDoor
open Go.Eng Go.RowKit
namespace CRCore
def rk : Rk := ⟨15, [(-9223372036854775808, 300), (0, 16384), (0, 2048), (0, 1000000), (0, 255), (0, 255), (0, 1000000)], 19, [.agg [.sl (.inp 0) 1 (.c 0) (.v 1) (some (.v 13)), .sl (.inp 1) 1 (.c 0) (.v 2) (some (.v 14)), .sl (.inp 2) 1 (.c 0) (.v 3) (some (.v 15)), .sl (.inp 3) 1 (.c 0) (.v 4) (some (.v 16)), .sl (.inp 4) 1 (.c 0) (.v 6) (some (.v 17))], .sl (.inp 5) 1 (.c 0) (.v 5) (some (.v 18)), .int .i64 (.v 0)], [], [(.f 85 (.v 10) (.v 4) (.v 2)), (.b .eq .i64 (.v 5) (.v 4))], .ptr 0 0, [.cells ([.sl (.inp 0) 1 (.c 0) (.v 1) (some (.v 13)), .sl (.own 1) 1 (.c 0) (.v 1000000) none] ++ bk32 (.v 1000001) ++ [.int .i64 (.v 1000003), .int .i64 (.v 1000004), .sl (.own 2) 3 (.c 0) (.v 1000005) none]) 50 none, .arr [.int .i32] 21 (.v 1000002) (.v 1000000), .arr [.int .i64, .int .i64, .int .i64] 70 (.v 1000006) (.v 1000005)], [.num (.v 2), .code [.int .i32] (.f 13 (.f 73 (.f 88 (.v 7) (.v 1) (.c 0)) (.v 1) (listE [(.v 2), (.v 0), (.f 74 (.f 86 (.v 10) (.v 4) (listE [(.v 12), (.v 8)])) (.c 0) (.c 0))])) (.c 0) (.c 0)) (.c 32), .code [.int .i32] (.f 13 (.f 73 (.f 88 (.v 7) (.v 1) (.c 0)) (.v 1) (listE [(.v 2), (.v 0), (.f 74 (.f 86 (.v 10) (.v 4) (listE [(.v 12), (.v 8)])) (.c 0) (.c 0))])) (.c 1) (.c 0)) (.v 2), .num (.w .i64 (.f 13 (.f 73 (.f 88 (.v 7) (.v 1) (.c 0)) (.v 1) (listE [(.v 2), (.v 0), (.f 74 (.f 86 (.v 10) (.v 4) (listE [(.v 12), (.v 8)])) (.c 0) (.c 0))])) (.c 2) (.c 0))), .num (.w .i64 (.f 13 (.f 73 (.f 88 (.v 7) (.v 1) (.c 0)) (.v 1) (listE [(.v 2), (.v 0), (.f 74 (.f 86 (.v 10) (.v 4) (listE [(.v 12), (.v 8)])) (.c 0) (.c 0))])) (.c 3) (.c 0))), .num (.f 75 (.f 73 (.f 88 (.v 7) (.v 1) (.c 0)) (.v 1) (listE [(.v 2), (.v 0), (.f 74 (.f 86 (.v 10) (.v 4) (listE [(.v 12), (.v 8)])) (.c 0) (.c 0))])) (.c 0) (.c 0)), .code [.int .i64, .int .i64, .int .i64] (.f 13 (.f 73 (.f 88 (.v 7) (.v 1) (.c 0)) (.v 1) (listE [(.v 2), (.v 0), (.f 74 (.f 86 (.v 10) (.v 4) (listE [(.v 12), (.v 8)])) (.c 0) (.c 0))])) (.c 5) (.c 0)) (.f 75 (.f 73 (.f 88 (.v 7) (.v 1) (.c 0)) (.v 1) (listE [(.v 2), (.v 0), (.f 74 (.f 86 (.v 10) (.v 4) (listE [(.v 12), (.v 8)])) (.c 0) (.c 0))])) (.c 0) (.c 0))], [⟨[.int .u32], (.v 7), (.v 1), (.v 13), none⟩, ⟨[.int .i32], (.v 8), (.v 2), (.v 14), none⟩, ⟨[.bool], (.v 9), (.v 3), (.v 15), none⟩, ⟨[.int .i64], (.v 10), (.v 4), (.v 16), none⟩, ⟨[.int .i64], (.v 11), (.v 6), (.v 17), none⟩, ⟨[.int .i32], (.v 12), (.v 5), (.v 18), none⟩]⟩
theorem okk : rk.ok = true := by kernel_rfl
theorem okh : rk.rh.ok = true := by kernel_rfl
noncomputable def us : SMs := fun Γ ins n => smH (cxG n Γ ins) [CRStep.rk.rh] (smR (cxG n Γ ins) [])
theorem us_ok : SMsOk us := fun Γ ins n => smH_ok (tabsG n Γ ins) (rhs_cons CRStep.okh (rh_n CRStep.ok) (rhs_nil _)) (smR_ok (tabsG n Γ ins) (rcs_nil _))
def Q0 : E := (.cl 1000 0 4611686018427387904)
def Q1 : E := (tR (.v 10) Q0)
def Q2 : E := (t6 Q1)
def Q3 : E := (tp Q0 (.c 1))
def Q4 : E := (.cl 1005 0 4611686018427387904)
def Q5 : E := (.cl 1010 (-9223372036854775808) 9223372036854775807)
def Q6 : E := (.cl 1012 0 1000000)
def Q7 : E := (.cl 1007 0 1000000)
def Q8 : E := (tp Q4 (.c 1))
def Q9 : E := (.cl 1009 (-9223372036854775808) 9223372036854775807)
def Q10 : E := (tC Q6 (.c 0))
def Q11 : E := (tC (.v 1011) Q10)
def Q12 : E := (tC Q5 Q11)
def Q13 : E := (tC Q9 Q12)
def Q14 : E := (tC Q7 Q13)
def Q15 : E := (tC (.v 1006) Q14)
def Q16 : E := (tC (.v 1008) Q15)
def Q17 : E := (.f 80 (.v 7) (.v 1) Q16)
def Q18 : E := (tR Q17 (.c 5))
def Q19 : E := (t6 Q18)
def tree : TT (List E) :=
 (.loop ⟨1000, [some (0, 4611686018427387904), none], [(.c 0), (.f 16 (.c 0) (.c 0) (.v 8))], 1003⟩ (.br (tk Q0 (.v 5)) (.br (tk Q0 (.v 4)) (.br (tl (.c 0) Q2) (.br (tk Q2 (.v 2)) (.br (tl Q3 (.c 4611686018427387904)) (.back [Q3, (.f 14 (.v 1001) Q2 (t3 (tR (.v 12) Q0)))]) (.bad 303)) (.bad 200)) (.bad 200)) (.bad 200)) (.exit 0)) (.loop ⟨1005, [some (0, 4611686018427387904), none, some (0, 1000000), none, some (-9223372036854775808, 9223372036854775807), some (-9223372036854775808, 9223372036854775807), none, some (0, 1000000)], [(.c 0), (.v 1001), (.v 2), (tC (.c 0) (tC (.c 0) (tC (.c 0) (tC (.c 0) (tC (.c 0) (tC (.c 0) (tC (.c 0) (tC (.c 0) (tC (.c 0) (tC (.c 0) (tC (.c 0) (tC (.c 0) (tC (.c 0) (tC (.c 0) (tC (.c 0) (tC (.c 0) (tC (.c 0) (tC (.c 0) (tC (.c 0) (tC (.c 0) (tC (.c 0) (tC
 (.c 0) (tC (.c 0) (tC (.c 0) (tC (.c 0) (tC (.c 0) (tC (.c 0) (tC (.c 0) (tC (.c 0) (tC (.c 0) (tC (.c 0) (tC (.c 0) (.c 0))))))))))))))))))))))))))))))))), (.c 0), (.c 0), (.c 0), (.c 0)], 1014⟩ (.br (tk Q4 (.v 0)) (.br (tk Q4 (.c 1048576)) (.br (te Q5 (.c 0)) (.br (tl (.c 0) Q5) (.br (tl Q5 (.c 0)) (.br (tl Q6 (.c 999999)) (.br (tl Q7 (.c 2048)) (.br (tl Q8 (.c 4611686018427387904)) (.br (tl (.c 0) Q19) (.br (tl Q19 (.c 1000000)) (.back [Q8, (tR Q17 (.c 1)), Q7, (tR Q17 (.c 0)), (t6 (tR Q17 (.c 2))), (t6 (tR Q17 (.c 3))), (tR Q17 (.c 4)), Q19]) (.bad 303)) (.bad 303)) (.bad 303)) (.bad 200)) (.bad 200)) (.bad 200)) (.bad 200)) (.exit 0)) (.exit 1)) (.exit 2)) (.br (te (.v 1014) (.c 0)) (.leaf [Q7, (.v 1008), (.v 1006), Q9, Q5, Q6, (.v 1011)]) (.br (te (.v 1014) (.c 1)) (.leaf [Q7, (.v
 1008), (.v 1006), Q9, Q5, Q6, (.v 1011)]) (.leaf [Q7, (.v 1008), (.v 1006), Q9, Q5, Q6, (.v 1011)])))))
noncomputable def sq0 (h b c a k e n i : Int) : Int := (runP (decW h b) b (kZ c (kZ a (kZ (nuP (pokZ k e (kZ n (kZ i 0)))) 0))))
noncomputable def sq1 (h b y8 y6 y7 y9 y10 y11 y12 : Int) : Int := (rstZ h b (kZ y8 (kZ y6 (kZ y7 (kZ y9 (kZ y10 (kZ y11 (kZ y12 0))))))))
def P (a b c d e f g h i j k l n o p q r s t : Int) : Prop :=
 ∃ I1000 : Int → Int → Nat → Prop, (∃ m, I1000 0 (appZ 0 0 i) m) ∧ ∀ y0 y1 : Int, ∀ m0, ((0 ≤ y0 ∧ y0 ≤ 4611686018427387904) ∧ True ∧ True) → I1000 y0 y1 m0 → (Pb (Pl y0 f) (Pm (Pl y0 e) (Pm (PL 0 (W6 (rdZ k y0))) (Pm (Pl (W6 (rdZ k y0)) c) (Pm (PL (y0 + 1) 4611686018427387904) (∃ m', m' < m0 ∧ I1000 (y0 + 1) (updZ y1 (W6 (rdZ k y0)) (W3 (rdZ n y0))) m'))))) (∃ I1005 : Int → Int → Int → Int → Int → Int → Int → Int → Nat → Prop, (∃ m, I1005 0 y1 c z32 0 0 0 0 m) ∧ ∀ y5 y6 y7 y8 y9 y10 y11 y12 : Int, ∀ m5, ((0 ≤ y5 ∧ y5 ≤ 4611686018427387904) ∧ True ∧ (0 ≤ y7 ∧ y7 ≤ 1000000) ∧ True ∧ ((-9223372036854775808) ≤ y9 ∧ y9 ≤ 9223372036854775807) ∧ ((-9223372036854775808) ≤ y10 ∧ y10 ≤ 9223372036854775807) ∧ True ∧ (0 ≤ y12 ∧ y12 ≤ 1000000) ∧ True) → I1005 y5 y6 y7 y8 y9 y10 y11 y12 m5 → (Pb (Pl
 y5 a) (Pb (Pl y5 1048576) (Pb (Pe y10 0) (Pm (PL 0 y10) (Pm (PL y10 0) (Pm (PL y12 999999) (Pm (PL y7 2048) (Pm (PL (y5 + 1) 4611686018427387904) (Pm (PL 0 (W6 (rdZ (sq1 h b y8 y6 y7 y9 y10 y11 y12) 5))) (Pm (PL (W6 (rdZ (sq1 h b y8 y6 y7 y9 y10 y11 y12) 5)) 1000000) (∃ m', m' < m5 ∧ I1005 (y5 + 1) (rdZ (sq1 h b y8 y6 y7 y9 y10 y11 y12) 1) y7 (rdZ (sq1 h b y8 y6 y7 y9 y10 y11 y12) 0) (W6 (rdZ (sq1 h b y8 y6 y7 y9 y10 y11 y12) 2)) (W6 (rdZ (sq1 h b y8 y6 y7 y9 y10 y11 y12) 3)) (rdZ (sq1 h b y8 y6 y7 y9 y10 y11 y12) 4) (W6 (rdZ (sq1 h b y8 y6 y7 y9 y10 y11 y12) 5)) m')))))))) (Pb (Pe (0 : Int) 0) ((y7 : Int) = c ∧ rowEq [.int .i32] y8 (rdZ (sq0 h b c a k e n i) 0) 32 ∧ rowEq [.int .i32] y6 (rdZ (sq0 h b c a k e n i) 1) c ∧ (y9 : Int) = (W6 (rdZ (sq0 h b c a k e n i) 2)) ∧ (y10 : Int) = (W6
 (rdZ (sq0 h b c a k e n i) 3)) ∧ (y12 : Int) = (mkN (sq0 h b c a k e n i)) ∧ rowEq [.int .i64, .int .i64, .int .i64] y11 (rdZ (sq0 h b c a k e n i) 5) (mkN (sq0 h b c a k e n i)) ∧ True) (Pb (Pe (0 : Int) 1) ((y7 : Int) = c ∧ rowEq [.int .i32] y8 (rdZ (sq0 h b c a k e n i) 0) 32 ∧ rowEq [.int .i32] y6 (rdZ (sq0 h b c a k e n i) 1) c ∧ (y9 : Int) = (W6 (rdZ (sq0 h b c a k e n i) 2)) ∧ (y10 : Int) = (W6 (rdZ (sq0 h b c a k e n i) 3)) ∧ (y12 : Int) = (mkN (sq0 h b c a k e n i)) ∧ rowEq [.int .i64, .int .i64, .int .i64] y11 (rdZ (sq0 h b c a k e n i) 5) (mkN (sq0 h b c a k e n i)) ∧ True) ((y7 : Int) = c ∧ rowEq [.int .i32] y8 (rdZ (sq0 h b c a k e n i) 0) 32 ∧ rowEq [.int .i32] y6 (rdZ (sq0 h b c a k e n i) 1) c ∧ (y9 : Int) = (W6 (rdZ (sq0 h b c a k e n i) 2)) ∧ (y10 : Int) = (W6 (rdZ (sq0
 h b c a k e n i) 3)) ∧ (y12 : Int) = (mkN (sq0 h b c a k e n i)) ∧ rowEq [.int .i64, .int .i64, .int .i64] y11 (rdZ (sq0 h b c a k e n i) 5) (mkN (sq0 h b c a k e n i)) ∧ True)))) (Pb (Pe (1 : Int) 0) ((y7 : Int) = c ∧ rowEq [.int .i32] y8 (rdZ (sq0 h b c a k e n i) 0) 32 ∧ rowEq [.int .i32] y6 (rdZ (sq0 h b c a k e n i) 1) c ∧ (y9 : Int) = (W6 (rdZ (sq0 h b c a k e n i) 2)) ∧ (y10 : Int) = (W6 (rdZ (sq0 h b c a k e n i) 3)) ∧ (y12 : Int) = (mkN (sq0 h b c a k e n i)) ∧ rowEq [.int .i64, .int .i64, .int .i64] y11 (rdZ (sq0 h b c a k e n i) 5) (mkN (sq0 h b c a k e n i)) ∧ True) (Pb (Pe (1 : Int) 1) ((y7 : Int) = c ∧ rowEq [.int .i32] y8 (rdZ (sq0 h b c a k e n i) 0) 32 ∧ rowEq [.int .i32] y6 (rdZ (sq0 h b c a k e n i) 1) c ∧ (y9 : Int) = (W6 (rdZ (sq0 h b c a k e n i) 2)) ∧ (y10 : Int) =
 (W6 (rdZ (sq0 h b c a k e n i) 3)) ∧ (y12 : Int) = (mkN (sq0 h b c a k e n i)) ∧ rowEq [.int .i64, .int .i64, .int .i64] y11 (rdZ (sq0 h b c a k e n i) 5) (mkN (sq0 h b c a k e n i)) ∧ True) ((y7 : Int) = c ∧ rowEq [.int .i32] y8 (rdZ (sq0 h b c a k e n i) 0) 32 ∧ rowEq [.int .i32] y6 (rdZ (sq0 h b c a k e n i) 1) c ∧ (y9 : Int) = (W6 (rdZ (sq0 h b c a k e n i) 2)) ∧ (y10 : Int) = (W6 (rdZ (sq0 h b c a k e n i) 3)) ∧ (y12 : Int) = (mkN (sq0 h b c a k e n i)) ∧ rowEq [.int .i64, .int .i64, .int .i64] y11 (rdZ (sq0 h b c a k e n i) 5) (mkN (sq0 h b c a k e n i)) ∧ True)))) (Pb (Pe (2 : Int) 0) ((y7 : Int) = c ∧ rowEq [.int .i32] y8 (rdZ (sq0 h b c a k e n i) 0) 32 ∧ rowEq [.int .i32] y6 (rdZ (sq0 h b c a k e n i) 1) c ∧ (y9 : Int) = (W6 (rdZ (sq0 h b c a k e n i) 2)) ∧ (y10 : Int) = (W6
 (rdZ (sq0 h b c a k e n i) 3)) ∧ (y12 : Int) = (mkN (sq0 h b c a k e n i)) ∧ rowEq [.int .i64, .int .i64, .int .i64] y11 (rdZ (sq0 h b c a k e n i) 5) (mkN (sq0 h b c a k e n i)) ∧ True) (Pb (Pe (2 : Int) 1) ((y7 : Int) = c ∧ rowEq [.int .i32] y8 (rdZ (sq0 h b c a k e n i) 0) 32 ∧ rowEq [.int .i32] y6 (rdZ (sq0 h b c a k e n i) 1) c ∧ (y9 : Int) = (W6 (rdZ (sq0 h b c a k e n i) 2)) ∧ (y10 : Int) = (W6 (rdZ (sq0 h b c a k e n i) 3)) ∧ (y12 : Int) = (mkN (sq0 h b c a k e n i)) ∧ rowEq [.int .i64, .int .i64, .int .i64] y11 (rdZ (sq0 h b c a k e n i) 5) (mkN (sq0 h b c a k e n i)) ∧ True) ((y7 : Int) = c ∧ rowEq [.int .i32] y8 (rdZ (sq0 h b c a k e n i) 0) 32 ∧ rowEq [.int .i32] y6 (rdZ (sq0 h b c a k e n i) 1) c ∧ (y9 : Int) = (W6 (rdZ (sq0 h b c a k e n i) 2)) ∧ (y10 : Int) = (W6 (rdZ (sq0
 h b c a k e n i) 3)) ∧ (y12 : Int) = (mkN (sq0 h b c a k e n i)) ∧ rowEq [.int .i64, .int .i64, .int .i64] y11 (rdZ (sq0 h b c a k e n i) 5) (mkN (sq0 h b c a k e n i)) ∧ True))))))
set_option maxHeartbeats 4000000 in
theorem holds (fuel nK nD nS nI nA nO cK cD cS cI cO cA rK rD rS rI rO rA : Int) (l_fuel : -9223372036854775808 ≤ fuel) (u_fuel : fuel ≤ 300) (l_nK : 0 ≤ nK) (u_nK : nK ≤ 16384) (l_nD : 0 ≤ nD) (u_nD : nD ≤ 2048) (l_nS : 0 ≤ nS) (u_nS : nS ≤ 1000000) (l_nI : 0 ≤ nI) (u_nI : nI ≤ 255) (l_nA : 0 ≤ nA) (u_nA : nA ≤ 255) (l_nO : 0 ≤ nO) (u_nO : nO ≤ 1000000) (h_pre0 : (adZ cI nI nD) ≠ 0) (h_pre1 : bool01 (nA  ==  nI) ≠ 0) : P fuel nK nD nS nI nA nO cK cD cS cI cO cA rK rD rS rI rO rA := by
 delta P sq0 sq1 Pb Pm PL Pl Pe W6 W3 kZ z32
 have hA : nA = nI := by simpa [bool01] using h_pre1
 subst hA
 have hI := adZ_ne.1 h_pre0
 have hp : pokZ cI nA (consZ cA (consZ cD 0)) = pokF cI cA cD nA.toNat := pokZ_ev _ _ _ _
 obtain ⟨k, rfl⟩ : ∃ k : Nat, nK = k := ⟨nK.toNat, by omega⟩
 have hz : consZ 0 (zeroZ 31) = zeroZ 32 := rfl
 simp only [nrm, nro, Int.reduceEq, Int.reduceNeg, reduceIte]
 refine ⟨fun i q m => i ≤ nA ∧ q = pokF cI cA (appZ 0 0 cD) i.toNat ∧ m = (nA - i).toNat, ⟨_, l_nA, rfl, rfl⟩, fun i q m hb hJ => ?_⟩
 obtain ⟨hi, rfl, rfl⟩ := hJ
 refine ⟨fun h => ?_, fun h => ?_⟩
 ·obtain ⟨a0, a1, a2⟩ := ad_at hI hb h u_nD
  refine ⟨h, a0, a1, by omega, _, ?_, by omega, ?_, rfl⟩
  ·omega
  ·rw [show (i + 1).toNat = i.toNat + 1 by omega, pokF, show ((i.toNat : Nat) : Int) = i by omega]
 rw [show i = nA by omega]
 refine ⟨fun i rm nr rg pc st mq nm m => nr = nD ∧ (i ≤ fuel ∨ i = 0) ∧ Cq cK (pokF cI cA cD nA.toNat) k nD i rg rm pc st mq nm ∧ m = (fuel - i).toNat,
  ⟨_, rfl, .inr rfl, cq_nu rfl (fun j j0 => pok_rd (fun j j0 => (app0_rd _ _ j0).symm) _ _ j0), rfl⟩, fun i rm nr rg pc st mq nm m hb2 hJ => ?_⟩
 obtain ⟨rfl, hif, hC, rfl⟩ := hJ
 have hn := cq_nm hC
 have hi3 : i ≤ 300 := by omega
 have hd : decW cK k = decC cK k := by unfold decW; rw [Int.toNat_natCast]
 rw [hp, hd]
 have fin : ∀ h1 : st ≠ 0 ∨ fuel.toNat ≤ i.toNat, _ := fun h1 => cq_end hi3 hC h1 hif rfl
 refine ⟨fun h1 => ⟨fun h2 => ⟨fun h3 => ?_, fun h3 => ⟨rfl, fin (.inl h3)⟩⟩, fun h2 => by omega⟩, fun h1 => ⟨rfl, fin (.inr (by omega))⟩⟩
 have hS := cq_step hi3 hC rfl
 have hn2 := cq_nm hS
 exact ⟨by omega, by omega, by omega, by omega, by omega, by omega, by omega, _, by omega, rfl, .inl (by omega), hS, rfl⟩
theorem plain (i v ro p) : statH 2 rk tree ⟨i, fN, v, ro, p⟩ = P (i 0) (i 1) (i 2) (i 3) (i 4) (i 5) (i 6) (i 7) (i 8) (i 9) (i 10) (i 11) (i 12) (i 13) (i 14) (i 15) (i 16) (i 17) (i 18) := by kernel_rfl
theorem ran : ranH us (fun _ _ => .auto) rk 2 tree = true := by kernel_rfl
theorem fineT : fineH 2 rk tree = true := by kernel_rfl
theorem fineB : blVb 1000 rk.inb = true := by kernel_rfl
theorem ok : RhOk (cxOf 2) rk.rh := okH us_ok ran fineT fineB okk fun i v ro p hρ hpre => by rw [plain]; have q := hρ.hi; exact holds (i 0) (i 1) (i 2) (i 3) (i 4) (i 5) (i 6) (i 7) (i 8) (i 9) (i 10) (i 11) (i 12) (i 13) (i 14) (i 15) (i 16) (i 17) (i 18) (q 0 _ rfl).1 (q 0 _ rfl).2 (q 1 _ rfl).1 (q 1 _ rfl).2 (q 2 _ rfl).1 (q 2 _ rfl).2 (q 3 _ rfl).1 (q 3 _ rfl).2 (q 4 _ rfl).1 (q 4 _ rfl).2 (q 5 _ rfl).1 (q 5 _ rfl).2 (q 6 _ rfl).1 (q 6 _ rfl).2 (hpre _ (mg 0 rfl)) (hpre _ (mg 1 rfl))
end CRCore
namespace CRLoad
def rc : Rc := ⟨34, [none, none], [.row [.int .i32] 1000000, .int .i32], [], .tup [none, none], [.int .i32 (.ite (.b .pmul .i64 (.b .le .i64 (.c 0) (.v 1)) (.b .lt .i64 (.v 1) (.v 0))) (.w .i32 (.f 13 (.v 2) (.v 1) (.c 0))) (.c 0)), .bool (.b .pmul .i64 (.b .le .i64 (.c 0) (.v 1)) (.b .lt .i64 (.v 1) (.v 0)))]⟩
theorem okb : rc.ok = true := by kernel_rfl
noncomputable def us : SMs := fun Γ ins n => smH (cxG n Γ ins) [] (smR (cxG n Γ ins) [])
theorem us_ok : SMsOk us := fun Γ ins n => smH_ok (tabsG n Γ ins) (rhs_nil _) (smR_ok (tabsG n Γ ins) (rcs_nil _))
def tree : TT (List E) :=
(.br (.b .lt .i64 (.v 1) (.c 0))
 (.leaf [(.c 0), (.c 0)])
 (.br (.b .le .i64 (.v 0) (.v 1))
 (.leaf [(.c 0), (.c 0)])
 (.br (.b .le .i64 (.c 0) (.v 1))
 (.br (.b .lt .i64 (.v 1) (.v 0))
 (.leaf [(.w .i32 (.f 13 (.v 2) (.v 1) (.c 0))), (.c 1)])
 (.bad 200))
 (.bad 200))))
def P (n0 p1 c0 r0 : Int) : Prop :=
 (((bool01 (decide (p1 < 0))) ≠ 0 →
  (0 : Int) = (iteZ ((bool01 (decide (0 ≤ p1))) * (bool01 (decide (p1 < n0)))) (IntKind.wrap .i32 (rdZ c0 p1)) 0) ∧ ((0 : Int) ≠ 0 ↔ (((bool01 (decide (0 ≤ p1))) * (bool01 (decide (p1 < n0)))) : Int) ≠ 0) ∧ True) ∧ ((bool01 (decide (p1 < 0))) = 0 →
  (((bool01 (decide (n0 ≤ p1))) ≠ 0 →
   (0 : Int) = (iteZ ((bool01 (decide (0 ≤ p1))) * (bool01 (decide (p1 < n0)))) (IntKind.wrap .i32 (rdZ c0 p1)) 0) ∧ ((0 : Int) ≠ 0 ↔ (((bool01 (decide (0 ≤ p1))) * (bool01 (decide (p1 < n0)))) : Int) ≠ 0) ∧ True) ∧ ((bool01 (decide (n0 ≤ p1))) = 0 →
   (((bool01 (decide (0 ≤ p1))) ≠ 0 →
    (((bool01 (decide (p1 < n0))) ≠ 0 →
     ((IntKind.wrap .i32 (rdZ c0 p1)) : Int) = (iteZ ((bool01 (decide (0 ≤ p1))) * (bool01 (decide (p1 < n0)))) (IntKind.wrap .i32 (rdZ c0 p1)) 0) ∧ ((1 : Int) ≠ 0 ↔ (((bool01 (decide (0 ≤ p1))) * (bool01 (decide (p1 < n0)))) : Int) ≠ 0) ∧ True) ∧ ((bool01 (decide (p1 < n0))) = 0 →
     False))) ∧ ((bool01 (decide (0 ≤ p1))) = 0 →
    False))))))
theorem holds (n0 p1 c0 r0 : Int) (l_n0 : 0 ≤ n0) (u_n0 : n0 ≤ 1000000) (l_p1 : -2147483648 ≤ p1) (u_p1 : p1 ≤ 2147483647) (h_n0 : n0 ≤ r0) : P n0 p1 c0 r0 := by
 unfold P
 by_cases h1 : p1 < 0
 ·have h2 : ¬ 0 ≤ p1 := by omega
  simp [bool01, h1, h2, iteZ]
 ·have h2 : 0 ≤ p1 := by omega
  by_cases h3 : p1 < n0
  ·have h4 : ¬ n0 ≤ p1 := by omega
   simp [bool01, h1, h2, h3, h4, iteZ]
  ·have h4 : n0 ≤ p1 := by omega
   simp [bool01, h1, h2, h3, h4, iteZ]
theorem plain (i v ro p) : statR 2 rc tree ⟨i, fN, v, ro, p⟩ = P (i 0) (i 1) (i 2) (i 3) := by kernel_rfl
theorem ran : ranR us (fun _ _ => .auto) rc 2 tree = true := by kernel_rfl
theorem fineT : fineR 2 rc tree = true := by kernel_rfl
theorem ok : RcOk (cxOf 2) rc := okR us_ok ran fineT okb fun i v ro p hρ hcap hpre => by rw [plain]; have q := hρ.hi; exact holds (i 0) (i 1) (i 2) (i 3) (q 0 _ rfl).1 (q 0 _ rfl).2 (q 1 _ rfl).1 (q 1 _ rfl).2 (hcap _ (mg 0 rfl))
end CRLoad
namespace CROut
def rk : Rk := ⟨18, [(0, 1000000), (0, 1000000), (0, 1000000), (0, 1000000), (0, 2048), (0, 255)], 17, [.agg [.sl (.inp 0) 1 (.c 0) (.v 2) (some (.v 12)), .sl (.inp 1) 1 (.c 0) (.v 3) (some (.v 13)), .sl (.inp 2) 1 (.c 0) (.v 0) (some (.v 14)), .sl (.inp 3) 1 (.c 0) (.v 1) (some (.v 15)), .sl (.inp 4) 1 (.c 0) (.v 5) (some (.v 16))], .ptr 0 0], [.cells [.wild 1, .sl (.own 37) 1 (.c 0) (.v 4) none, .wild 2, .wild 3, .wild 4, .wild 5, .wild 6, .wild 7, .wild 8, .wild 9, .wild 10, .wild 11, .wild 12, .wild 13, .wild 14, .wild 15, .wild 16, .wild 17, .wild 18, .wild 19, .wild 20, .wild 21, .wild 22, .wild 23, .wild 24, .wild 25, .wild 26, .wild 27, .wild 28, .wild 29, .wild 30, .wild 31, .wild 32, .wild 33, .wild 34, .wild 35, .wild 36] 50 none, .gone, .gone, .gone, .gone, .gone, .gone, .gone, .gone, .gone, .gone, .gone, .gone, .gone, .gone, .gone, .gone, .gone, .gone, .gone, .gone, .gone, .gone, .gone, .gone, .gone, .gone, .gone, .gone, .gone, .gone, .gone, .gone, .gone, .gone, .gone, .gone, .arr [.int .i32] 21 (.v 11) (.v 4)], [(.f 85 (.v 10) (.v 5) (.v 4))], .sl (.own 38) 1 (.c 0) (.v 1000000) none, [.cells [.wild 1, .sl (.own 37) 1 (.c 0) (.v 4) none, .wild 2, .wild 3, .wild 4, .wild 5, .wild 6, .wild 7, .wild 8, .wild 9, .wild 10, .wild 11, .wild 12, .wild 13, .wild 14, .wild 15, .wild 16, .wild 17, .wild 18, .wild 19, .wild 20, .wild 21, .wild 22, .wild 23, .wild 24, .wild 25, .wild 26, .wild 27, .wild 28, .wild 29, .wild 30, .wild 31, .wild 32, .wild 33, .wild 34, .wild 35, .wild 36] 50 none, .gone, .gone, .gone, .gone, .gone, .gone, .gone, .gone, .gone, .gone, .gone, .gone, .gone, .gone, .gone, .gone, .gone, .gone, .gone, .gone, .gone, .gone, .gone, .gone, .gone, .gone, .gone, .gone, .gone, .gone, .gone, .gone, .gone, .gone, .gone, .gone, .arr [.int .i32] 21 (.v 11) (.v 4), .arr [.int .i32] 21 (.v 1000001) (.v 1000000)], [.num (.v 5), .code [.int .i32] (.f 87 (.v 10) (.v 5) (.v 11)) (.v 5)], [⟨[.int .u32], (.v 6), (.v 2), (.v 12), none⟩, ⟨[.int .i32], (.v 7), (.v 3), (.v 13), none⟩, ⟨[.bool], (.v 8), (.v 0), (.v 14), none⟩, ⟨[.int .i64], (.v 9), (.v 1), (.v 15), none⟩, ⟨[.int .i64], (.v 10), (.v 5), (.v 16), none⟩]⟩
theorem okk : rk.ok = true := by kernel_rfl
theorem okh : rk.rh.ok = true := by kernel_rfl
noncomputable def us : SMs := fun Γ ins n => smH (cxG n Γ ins) [] (smR (cxG n Γ ins) [CRLoad.rc])
theorem us_ok : SMsOk us := fun Γ ins n => smH_ok (tabsG n Γ ins) (rhs_nil _) (smR_ok (tabsG n Γ ins) (rcs_cons CRLoad.okb (rc_n CRLoad.ok) (rcs_nil _)))
def tree : TT (List E) :=
(.loop ⟨1000, [none, some (0, 1000000), some (0, 4611686018427387904)], [(.c 0), (.c 0), (.c 0)], 1006⟩
 (.br (.b .lt .i64 (.cl 1002 0 4611686018427387904) (.v 5))
 (.new 1004 (.ite (.b .pmul .i64 (.b .le .i64 (.c 0) (.w .i32 (.f 13 (.v 10) (.cl 1002 0 4611686018427387904) (.c 0)))) (.b .lt .i64 (.w .i32 (.f 13 (.v 10) (.cl 1002 0 4611686018427387904) (.c 0))) (.v 4))) (.w .i32 (.f 13 (.v 11) (.w .i32 (.f 13 (.v 10) (.cl 1002 0 4611686018427387904) (.c 0))) (.c 0))) (.c 0))
 (.new 1005 (.b .pmul .i64 (.b .le .i64 (.c 0) (.w .i32 (.f 13 (.v 10) (.cl 1002 0 4611686018427387904) (.c 0)))) (.b .lt .i64 (.w .i32 (.f 13 (.v 10) (.cl 1002 0 4611686018427387904) (.c 0))) (.v 4)))
 (.br (.b .le .i64 (.b .padd .i64 (.cl 1001 0 1000000) (.c 1)) (.c 1000000))
 (.br (.b .le .i64 (.b .padd .i64 (.cl 1001 0 1000000) (.c 1)) (.c 1000000))
 (.br (.b .le .i64 (.b .padd .i64 (.cl 1002 0 4611686018427387904) (.c 1)) (.c 4611686018427387904))
 (.back [(.f 14 (.v 1000) (.cl 1001 0 1000000) (.cl 1004 (-2147483648) 2147483647)), (.b .padd .i64 (.cl 1001 0 1000000) (.c 1)), (.b .padd .i64 (.cl 1002 0 4611686018427387904) (.c 1))])
 (.bad 303))
 (.bad 303))
 (.bad 200))))
 (.exit 0))
 (.leaf [(.cl 1001 0 1000000), (.v 1000)]))
def P (nS nI nK nD0 nD nO cK cD cS cI cO rm rK rD rS rI rO : Int) : Prop :=
 ∃ I1000 : Int → Int → Int → Nat → Prop, (∃ m, I1000 0 0 0 m) ∧
 ∀ y1000 y1001 y1002 : Int, ∀ m1000, (True ∧ (0 ≤ y1001 ∧ y1001 ≤ 1000000) ∧ (0 ≤ y1002 ∧ y1002 ≤ 4611686018427387904) ∧ True) → I1000 y1000 y1001 y1002 m1000 →
  (((bool01 (decide (y1002 < nO))) ≠ 0 →
   ∀ y1004 : Int, y1004 = (iteZ ((bool01 (decide (0 ≤ (IntKind.wrap .i32 (rdZ cO y1002))))) * (bool01 (decide ((IntKind.wrap .i32 (rdZ cO y1002)) < nD)))) (IntKind.wrap .i32 (rdZ rm (IntKind.wrap .i32 (rdZ cO y1002)))) 0) → ((-2147483648) ≤ y1004 ∧ y1004 ≤ 2147483647) →
   ∀ y1005 : Int, y1005 = ((bool01 (decide (0 ≤ (IntKind.wrap .i32 (rdZ cO y1002))))) * (bool01 (decide ((IntKind.wrap .i32 (rdZ cO y1002)) < nD)))) → (0 ≤ y1005 ∧ y1005 ≤ 1) →
   (((bool01 (decide ((y1001 + 1) ≤ 1000000))) ≠ 0 →
    (((bool01 (decide ((y1001 + 1) ≤ 1000000))) ≠ 0 →
     (((bool01 (decide ((y1002 + 1) ≤ 4611686018427387904))) ≠ 0 →
      ∃ m', m' < m1000 ∧ I1000 (updZ y1000 y1001 y1004) (y1001 + 1) (y1002 + 1) m') ∧ ((bool01 (decide ((y1002 + 1) ≤ 4611686018427387904))) = 0 →
      False))) ∧ ((bool01 (decide ((y1001 + 1) ≤ 1000000))) = 0 →
     False))) ∧ ((bool01 (decide ((y1001 + 1) ≤ 1000000))) = 0 →
    False))) ∧ ((bool01 (decide (y1002 < nO))) = 0 →
   (y1001 : Int) = nO ∧ rowEq [.int .i32] y1000 (outZ cO nO rm) nO ∧ True))
theorem holds (nS nI nK nD0 nD nO cK cD cS cI cO rm rK rD rS rI rO : Int) (l_nS : 0 ≤ nS) (u_nS : nS ≤ 1000000) (l_nI : 0 ≤ nI) (u_nI : nI ≤ 1000000) (l_nK : 0 ≤ nK) (u_nK : nK ≤ 1000000) (l_nD0 : 0 ≤ nD0) (u_nD0 : nD0 ≤ 1000000) (l_nD : 0 ≤ nD) (u_nD : nD ≤ 2048) (l_nO : 0 ≤ nO) (u_nO : nO ≤ 255) (h_pre0 : (adZ cO nO nD) ≠ 0) : P nS nI nK nD0 nD nO cK cD cS cI cO rm rK rD rS rI rO := by
 unfold P
 have hO := adZ_ne.1 h_pre0
 simp only [nrm, nro, Int.reduceEq, Int.reduceNeg, reduceIte]
 refine ⟨fun q n i m => n = i ∧ i ≤ nO ∧ q = outF cO rm i.toNat ∧ m = (nO - i).toNat, ⟨_, rfl, l_nO, rfl, rfl⟩, fun q n i m hb2 hJ => ?_⟩
 obtain ⟨rfl, hi2, rfl, rfl⟩ := hJ
 refine ⟨fun h => ?_, fun h => ?_⟩
 ·obtain ⟨a0, a1, a2⟩ := ad_at hO ⟨hb2.1.1, by omega⟩ h u_nD
  rw [a2]
  rintro y e _ _ - _
  rw [show bool01 (decide (0 ≤ IntKind.wrap .i64 (rdZ cO n))) * bool01 (decide (IntKind.wrap .i64 (rdZ cO n) < nD)) = 1 by simp [bool01, a0, a1]] at e
  have e : y = IntKind.wrap .i32 (rdZ rm (IntKind.wrap .i64 (rdZ cO n))) := by rw [e]; rfl
  refine ⟨by omega, by omega, by omega, _, ?_, rfl, by omega, ?_, rfl⟩
  ·omega
  ·rw [show (n + 1).toNat = n.toNat + 1 by omega, outF, show ((n.toNat : Nat) : Int) = n by omega, e]
 ·rw [show n = nO by omega]
  exact ⟨rfl, rowEq_refl _ _ _⟩
theorem plain (i v ro p) : statH 2 rk tree ⟨i, fN, v, ro, p⟩ = P (i 0) (i 1) (i 2) (i 3) (i 4) (i 5) (i 6) (i 7) (i 8) (i 9) (i 10) (i 11) (i 12) (i 13) (i 14) (i 15) (i 16) := by kernel_rfl
theorem ran : ranH us (fun _ _ => .auto) rk 2 tree = true := by kernel_rfl
theorem fineT : fineH 2 rk tree = true := by kernel_rfl
theorem fineB : blVb 1000 rk.inb = true := by kernel_rfl
theorem ok : RhOk (cxOf 2) rk.rh := okH us_ok ran fineT fineB okk fun i v ro p hρ hpre => by rw [plain]; have q := hρ.hi; exact holds (i 0) (i 1) (i 2) (i 3) (i 4) (i 5) (i 6) (i 7) (i 8) (i 9) (i 10) (i 11) (i 12) (i 13) (i 14) (i 15) (i 16) (q 0 _ rfl).1 (q 0 _ rfl).2 (q 1 _ rfl).1 (q 1 _ rfl).2 (q 2 _ rfl).1 (q 2 _ rfl).2 (q 3 _ rfl).1 (q 3 _ rfl).2 (q 4 _ rfl).1 (q 4 _ rfl).2 (q 5 _ rfl).1 (q 5 _ rfl).2 (hpre _ (mg 0 rfl))
end CROut
namespace CRTFirst
def rc : Rc := ⟨16, [none, none], [.row [.int .i64, .int .i64, .int .i64] 1000000, .row [.int .i64, .int .i64, .int .i64] 1000000], [], .one, [.int .i64 (.f 37 (.v 2) (.v 3) (listE [(.v 0), (.v 1)]))]⟩
theorem okb : rc.ok = true := by kernel_rfl
noncomputable def us : SMs := fun Γ ins n => smH (cxG n Γ ins) [] (smR (cxG n Γ ins) [])
theorem us_ok : SMsOk us := fun Γ ins n => smH_ok (tabsG n Γ ins) (rhs_nil _) (smR_ok (tabsG n Γ ins) (rcs_nil _))
def tree : TT (List E) :=
(.loop ⟨1000, [some (0, 4611686018427387904)], [(.c 0)], 1008⟩
 (.br (.b .lt .i64 (.cl 1000 0 4611686018427387904) (.v 0))
 (.br (.b .le .i64 (.v 0) (.cl 1000 0 4611686018427387904))
 (.exit 0)
 (.br (.b .le .i64 (.v 1) (.cl 1000 0 4611686018427387904))
 (.exit 1)
 (.new 1002 (.w .i64 (.f 13 (.f 13 (.v 2) (.cl 1000 0 4611686018427387904) (.c 0)) (.c 0) (.c 0)))
 (.br (.b .lt .i64 (.cl 1000 0 4611686018427387904) (.v 1))
 (.new 1003 (.w .i64 (.f 13 (.f 13 (.v 3) (.cl 1000 0 4611686018427387904) (.c 0)) (.c 0) (.c 0)))
 (.br (.b .ne .i64 (.cl 1002 (-9223372036854775808) 9223372036854775807) (.cl 1003 (-9223372036854775808) 9223372036854775807))
 (.exit 2)
 (.new 1004 (.w .i64 (.f 13 (.f 13 (.v 2) (.cl 1000 0 4611686018427387904) (.c 0)) (.c 1) (.c 0)))
 (.new 1005 (.w .i64 (.f 13 (.f 13 (.v 3) (.cl 1000 0 4611686018427387904) (.c 0)) (.c 1) (.c 0)))
 (.br (.b .ne .i64 (.cl 1004 (-9223372036854775808) 9223372036854775807) (.cl 1005 (-9223372036854775808) 9223372036854775807))
 (.exit 3)
 (.new 1006 (.w .i64 (.f 13 (.f 13 (.v 2) (.cl 1000 0 4611686018427387904) (.c 0)) (.c 2) (.c 0)))
 (.new 1007 (.w .i64 (.f 13 (.f 13 (.v 3) (.cl 1000 0 4611686018427387904) (.c 0)) (.c 2) (.c 0)))
 (.br (.b .ne .i64 (.cl 1006 (-9223372036854775808) 9223372036854775807) (.cl 1007 (-9223372036854775808) 9223372036854775807))
 (.exit 4)
 (.br (.b .le .i64 (.b .padd .i64 (.cl 1000 0 4611686018427387904) (.c 1)) (.c 4611686018427387904))
 (.back [(.b .padd .i64 (.cl 1000 0 4611686018427387904) (.c 1))])
 (.bad 303))))))))))
 (.bad 200)))))
 (.br (.b .lt .i64 (.cl 1000 0 4611686018427387904) (.v 1))
 (.br (.b .le .i64 (.v 0) (.cl 1000 0 4611686018427387904))
 (.exit 5)
 (.br (.b .le .i64 (.v 1) (.cl 1000 0 4611686018427387904))
 (.exit 6)
 (.new 1002 (.w .i64 (.f 13 (.f 13 (.v 3) (.cl 1000 0 4611686018427387904) (.c 0)) (.c 0) (.c 0)))
 (.bad 200))))
 (.exit 7)))
 (.br (.b .eq .i64 (.v 1008) (.c 0))
 (.leaf [(.cl 1000 0 4611686018427387904)])
 (.br (.b .eq .i64 (.v 1008) (.c 1))
 (.leaf [(.cl 1000 0 4611686018427387904)])
 (.br (.b .eq .i64 (.v 1008) (.c 2))
 (.leaf [(.cl 1000 0 4611686018427387904)])
 (.br (.b .eq .i64 (.v 1008) (.c 3))
 (.leaf [(.cl 1000 0 4611686018427387904)])
 (.br (.b .eq .i64 (.v 1008) (.c 4))
 (.leaf [(.cl 1000 0 4611686018427387904)])
 (.br (.b .eq .i64 (.v 1008) (.c 5))
 (.leaf [(.cl 1000 0 4611686018427387904)])
 (.br (.b .eq .i64 (.v 1008) (.c 6))
 (.leaf [(.cl 1000 0 4611686018427387904)])
 (.leaf [(.c (-1))])))))))))
def P (n0 n1 c0 c1 r0 r1 : Int) : Prop :=
 ∃ I1000 : Int → Nat → Prop, (∃ m, I1000 0 m) ∧
 ∀ y1000 : Int, ∀ m1000, ((0 ≤ y1000 ∧ y1000 ≤ 4611686018427387904) ∧ True) → I1000 y1000 m1000 →
  (((bool01 (decide (y1000 < n0))) ≠ 0 →
   (((bool01 (decide (n0 ≤ y1000))) ≠ 0 →
    (y1000 : Int) = (firstZ c0 c1 (consZ n0 (consZ n1 0))) ∧ True) ∧ ((bool01 (decide (n0 ≤ y1000))) = 0 →
    (((bool01 (decide (n1 ≤ y1000))) ≠ 0 →
     (y1000 : Int) = (firstZ c0 c1 (consZ n0 (consZ n1 0))) ∧ True) ∧ ((bool01 (decide (n1 ≤ y1000))) = 0 →
     ∀ y1002 : Int, y1002 = (IntKind.wrap .i64 (rdZ (rdZ c0 y1000) 0)) → ((-9223372036854775808) ≤ y1002 ∧ y1002 ≤ 9223372036854775807) →
     (((bool01 (decide (y1000 < n1))) ≠ 0 →
      ∀ y1003 : Int, y1003 = (IntKind.wrap .i64 (rdZ (rdZ c1 y1000) 0)) → ((-9223372036854775808) ≤ y1003 ∧ y1003 ≤ 9223372036854775807) →
      (((bool01 (y1002 != y1003)) ≠ 0 →
       (y1000 : Int) = (firstZ c0 c1 (consZ n0 (consZ n1 0))) ∧ True) ∧ ((bool01 (y1002 != y1003)) = 0 →
       ∀ y1004 : Int, y1004 = (IntKind.wrap .i64 (rdZ (rdZ c0 y1000) 1)) → ((-9223372036854775808) ≤ y1004 ∧ y1004 ≤ 9223372036854775807) →
       ∀ y1005 : Int, y1005 = (IntKind.wrap .i64 (rdZ (rdZ c1 y1000) 1)) → ((-9223372036854775808) ≤ y1005 ∧ y1005 ≤ 9223372036854775807) →
       (((bool01 (y1004 != y1005)) ≠ 0 →
        (y1000 : Int) = (firstZ c0 c1 (consZ n0 (consZ n1 0))) ∧ True) ∧ ((bool01 (y1004 != y1005)) = 0 →
        ∀ y1006 : Int, y1006 = (IntKind.wrap .i64 (rdZ (rdZ c0 y1000) 2)) → ((-9223372036854775808) ≤ y1006 ∧ y1006 ≤ 9223372036854775807) →
        ∀ y1007 : Int, y1007 = (IntKind.wrap .i64 (rdZ (rdZ c1 y1000) 2)) → ((-9223372036854775808) ≤ y1007 ∧ y1007 ≤ 9223372036854775807) →
        (((bool01 (y1006 != y1007)) ≠ 0 →
         (y1000 : Int) = (firstZ c0 c1 (consZ n0 (consZ n1 0))) ∧ True) ∧ ((bool01 (y1006 != y1007)) = 0 →
         (((bool01 (decide ((y1000 + 1) ≤ 4611686018427387904))) ≠ 0 →
          ∃ m', m' < m1000 ∧ I1000 (y1000 + 1) m') ∧ ((bool01 (decide ((y1000 + 1) ≤ 4611686018427387904))) = 0 →
          False))))))))) ∧ ((bool01 (decide (y1000 < n1))) = 0 →
      False))))))) ∧ ((bool01 (decide (y1000 < n0))) = 0 →
   (((bool01 (decide (y1000 < n1))) ≠ 0 →
    (((bool01 (decide (n0 ≤ y1000))) ≠ 0 →
     (y1000 : Int) = (firstZ c0 c1 (consZ n0 (consZ n1 0))) ∧ True) ∧ ((bool01 (decide (n0 ≤ y1000))) = 0 →
     (((bool01 (decide (n1 ≤ y1000))) ≠ 0 →
      (y1000 : Int) = (firstZ c0 c1 (consZ n0 (consZ n1 0))) ∧ True) ∧ ((bool01 (decide (n1 ≤ y1000))) = 0 →
      ∀ y1002 : Int, y1002 = (IntKind.wrap .i64 (rdZ (rdZ c1 y1000) 0)) → ((-9223372036854775808) ≤ y1002 ∧ y1002 ≤ 9223372036854775807) →
      False))))) ∧ ((bool01 (decide (y1000 < n1))) = 0 →
    ((-1) : Int) = (firstZ c0 c1 (consZ n0 (consZ n1 0))) ∧ True))))
theorem holds (n0 n1 c0 c1 r0 r1 : Int) (l_n0 : 0 ≤ n0) (u_n0 : n0 ≤ 1000000) (l_n1 : 0 ≤ n1) (u_n1 : n1 ≤ 1000000) (h_n0 : n0 ≤ r0) (h_n1 : n1 ≤ r1) : P n0 n1 c0 c1 r0 r1 := by
 unfold P
 simp only [nrm, Int.reduceEq, Int.reduceNeg, reduceIte, mk_fold]
 refine ⟨fun i m => (∀ j : Nat, (j : Int) < i → ¬ diffAt c0 c1 n0 n1 j) ∧ (i ≤ n0 ∧ i ≤ n1) ∧ m = (n0 - i).toNat, ⟨_, fun j h => by omega, by omega, rfl⟩, fun i m hb hI => ?_⟩
 obtain ⟨hl, hi, rfl⟩ := hI
 have hi0 := nat_i hb.1
 have some : diffAt c0 c1 n0 n1 i.toNat → (i < n0 ∨ i < n1) → i = firstZ c0 c1 (consZ n0 (consZ n1 0)) := fun h1 h2 => firstZ_some hb.1 h1 h2 hl
 refine ⟨fun h1 => ⟨fun h2 => by omega, fun h2 => ⟨fun h3 => some (by unfold diffAt; omega) (by omega), fun h3 y2 e2 _ => ⟨fun h4 y3 e3 _ => ⟨fun h5 => some ?_ (by omega), fun h5 y4 e4 _ y5 e5 _ => ⟨fun h6 => some ?_ (by omega), fun h6 y6 e6 _ y7 e7 _ =>
  ⟨fun h7 => some ?_ (by omega), fun h7 => ⟨fun h8 => ⟨_, ?_, fun j hj => ?_, by omega, rfl⟩, fun h8 => by omega⟩⟩⟩⟩, fun h4 => by omega⟩⟩⟩, fun h1 => ⟨fun h2 => ⟨fun h3 => some (by unfold diffAt; omega) (by omega), fun h3 => by omega⟩, fun h2 => firstZ_none (by omega) fun j hj => hl j (by omega)⟩⟩
 ·unfold diffAt; rw [hi0, ← e2, ← e3]; exact .inr (.inr (.inl h5))
 ·unfold diffAt; rw [hi0, ← e4, ← e5]; exact .inr (.inr (.inr (.inl h6)))
 ·unfold diffAt; rw [hi0, ← e6, ← e7]; exact .inr (.inr (.inr (.inr h7)))
 ·omega
 ·by_cases e : (j : Int) = i
  ·unfold diffAt
   rw [e]
   subst e2; subst e3; subst e4; subst e5; subst e6; subst e7
   rintro (h | h | h | h | h)
   ·omega
   ·omega
   ·exact h h5
   ·exact h h6
   ·exact h h7
  ·exact hl j (by omega)
theorem plain (i v ro p) : statR 2 rc tree ⟨i, fN, v, ro, p⟩ = P (i 0) (i 1) (i 2) (i 3) (i 4) (i 5) := by kernel_rfl
theorem ran : ranR us (fun _ _ => .auto) rc 2 tree = true := by kernel_rfl
theorem fineT : fineR 2 rc tree = true := by kernel_rfl
theorem ok : RcOk (cxOf 2) rc := okR us_ok ran fineT okb fun i v ro p hρ hcap hpre => by rw [plain]; have q := hρ.hi; exact holds (i 0) (i 1) (i 2) (i 3) (i 4) (i 5) (q 0 _ rfl).1 (q 0 _ rfl).2 (q 1 _ rfl).1 (q 1 _ rfl).2 (hcap _ (mg 0 rfl)) (hcap _ (mg 1 rfl))
end CRTFirst
namespace CRCost16
def rc : Rc := ⟨17, [none], [.row [.int .i64, .int .i64, .int .i64] 1000000], [], .one, [.int .i64 (.f 35 (.v 1) (.v 0) (.c 0))]⟩
theorem okb : rc.ok = true := by kernel_rfl
noncomputable def us : SMs := fun Γ ins n => smH (cxG n Γ ins) [] (smR (cxG n Γ ins) [])
theorem us_ok : SMsOk us := fun Γ ins n => smH_ok (tabsG n Γ ins) (rhs_nil _) (smR_ok (tabsG n Γ ins) (rcs_nil _))
def tree : TT (List E) :=
(.loop ⟨1000, [some (-9223372036854775808, 9223372036854775807), some (0, 4611686018427387904)], [(.c 0), (.c 0)], 1003⟩
 (.br (.b .lt .i64 (.cl 1001 0 4611686018427387904) (.v 0))
 (.br (.b .le .i64 (.b .padd .i64 (.cl 1001 0 4611686018427387904) (.c 1)) (.c 4611686018427387904))
 (.back [(.w .i64 (.b .padd .i64 (.cl 1000 (-9223372036854775808) 9223372036854775807) (.w .i64 (.f 13 (.f 13 (.v 1) (.cl 1001 0 4611686018427387904) (.c 0)) (.c 2) (.c 0))))), (.b .padd .i64 (.cl 1001 0 4611686018427387904) (.c 1))])
 (.bad 303))
 (.exit 0))
 (.leaf [(.cl 1000 (-9223372036854775808) 9223372036854775807)]))
def P (n0 c0 r0 : Int) : Prop :=
 ∃ I1000 : Int → Int → Nat → Prop, (∃ m, I1000 0 0 m) ∧
 ∀ y1000 y1001 : Int, ∀ m1000, (((-9223372036854775808) ≤ y1000 ∧ y1000 ≤ 9223372036854775807) ∧ (0 ≤ y1001 ∧ y1001 ≤ 4611686018427387904) ∧ True) → I1000 y1000 y1001 m1000 →
  (((bool01 (decide (y1001 < n0))) ≠ 0 →
   (((bool01 (decide ((y1001 + 1) ≤ 4611686018427387904))) ≠ 0 →
    ∃ m', m' < m1000 ∧ I1000 (IntKind.wrap .i64 (y1000 + (IntKind.wrap .i64 (rdZ (rdZ c0 y1001) 2)))) (y1001 + 1) m') ∧ ((bool01 (decide ((y1001 + 1) ≤ 4611686018427387904))) = 0 →
    False))) ∧ ((bool01 (decide (y1001 < n0))) = 0 →
   (y1000 : Int) = (costZ c0 n0) ∧ True))
theorem holds (n0 c0 r0 : Int) (l_n0 : 0 ≤ n0) (u_n0 : n0 ≤ 1000000) (h_n0 : n0 ≤ r0) : P n0 c0 r0 := by
 unfold P
 simp only [nrm, Int.reduceEq, Int.reduceNeg, reduceIte, mk_fold]
 refine ⟨fun s i m => s = costF c0 i.toNat ∧ i ≤ n0 ∧ m = (n0 - i).toNat, ⟨_, rfl, l_n0, rfl⟩, fun s i m hb hI => ?_⟩
 obtain ⟨rfl, hi, rfl⟩ := hI
 have hi0 := nat_i hb.2.1
 refine ⟨fun h1 => ⟨fun h2 => ⟨_, ?_, ?_, by omega, rfl⟩, fun h2 => by omega⟩, fun h1 => ?_⟩
 ·omega
 ·rw [succ_i hb.2.1, costF, hi0]
 ·rw [show i = n0 by omega]; rfl
theorem plain (i v ro p) : statR 2 rc tree ⟨i, fN, v, ro, p⟩ = P (i 0) (i 1) (i 2) := by kernel_rfl
theorem ran : ranR us (fun _ _ => .auto) rc 2 tree = true := by kernel_rfl
theorem fineT : fineR 2 rc tree = true := by kernel_rfl
theorem ok : RcOk (cxOf 2) rc := okR us_ok ran fineT okb fun i v ro p hρ hcap hpre => by rw [plain]; have q := hρ.hi; exact holds (i 0) (i 1) (i 2) (q 0 _ rfl).1 (q 0 _ rfl).2 (hcap _ (mg 0 rfl))
end CRCost16
namespace CRSame15
def rc : Rc := ⟨19, [none, none], [.row [.int .i32] 1000000, .row [.int .i32] 1000000], [], .one, [.bool (.ite (.b .eq .i64 (.v 0) (.v 1)) (.f 72 (.v 2) (.v 3) (.v 0)) (.c 0))]⟩
theorem okb : rc.ok = true := by kernel_rfl
noncomputable def us : SMs := fun Γ ins n => smH (cxG n Γ ins) [] (smR (cxG n Γ ins) [])
theorem us_ok : SMsOk us := fun Γ ins n => smH_ok (tabsG n Γ ins) (rhs_nil _) (smR_ok (tabsG n Γ ins) (rcs_nil _))
def tree : TT (List E) :=
(.br (.b .ne .i64 (.v 0) (.v 1))
 (.leaf [(.c 0)])
 (.loop ⟨1000, [some (0, 4611686018427387904)], [(.c 0)], 1002⟩
 (.br (.b .lt .i64 (.cl 1000 0 4611686018427387904) (.v 0))
 (.br (.b .lt .i64 (.cl 1000 0 4611686018427387904) (.v 1))
 (.br (.b .ne .i64 (.w .i32 (.f 13 (.v 2) (.cl 1000 0 4611686018427387904) (.c 0))) (.w .i32 (.f 13 (.v 3) (.cl 1000 0 4611686018427387904) (.c 0))))
 (.exit 0)
 (.br (.b .le .i64 (.b .padd .i64 (.cl 1000 0 4611686018427387904) (.c 1)) (.c 4611686018427387904))
 (.back [(.b .padd .i64 (.cl 1000 0 4611686018427387904) (.c 1))])
 (.bad 303)))
 (.bad 200))
 (.exit 1))
 (.br (.b .eq .i64 (.v 1002) (.c 0))
 (.leaf [(.c 0)])
 (.leaf [(.c 1)]))))
def P (n0 n1 c0 c1 r0 r1 : Int) : Prop :=
 (((bool01 (n0 != n1)) ≠ 0 →
  ((0 : Int) ≠ 0 ↔ ((iteZ (bool01 (n0 == n1)) (sameW c0 c1 n0) 0) : Int) ≠ 0) ∧ True) ∧ ((bool01 (n0 != n1)) = 0 →
  ∃ I1000 : Int → Nat → Prop, (∃ m, I1000 0 m) ∧
  ∀ y1000 : Int, ∀ m1000, ((0 ≤ y1000 ∧ y1000 ≤ 4611686018427387904) ∧ True) → I1000 y1000 m1000 →
   (((bool01 (decide (y1000 < n0))) ≠ 0 →
    (((bool01 (decide (y1000 < n1))) ≠ 0 →
     (((bool01 ((IntKind.wrap .i32 (rdZ c0 y1000)) != (IntKind.wrap .i32 (rdZ c1 y1000)))) ≠ 0 →
      (((bool01 ((0 : Int) == 0)) ≠ 0 →
       ((0 : Int) ≠ 0 ↔ ((iteZ (bool01 (n0 == n1)) (sameW c0 c1 n0) 0) : Int) ≠ 0) ∧ True) ∧ ((bool01 ((0 : Int) == 0)) = 0 →
       ((1 : Int) ≠ 0 ↔ ((iteZ (bool01 (n0 == n1)) (sameW c0 c1 n0) 0) : Int) ≠ 0) ∧ True))) ∧ ((bool01 ((IntKind.wrap .i32 (rdZ c0 y1000)) != (IntKind.wrap .i32 (rdZ c1 y1000)))) = 0 →
      (((bool01 (decide ((y1000 + 1) ≤ 4611686018427387904))) ≠ 0 →
       ∃ m', m' < m1000 ∧ I1000 (y1000 + 1) m') ∧ ((bool01 (decide ((y1000 + 1) ≤ 4611686018427387904))) = 0 →
       False))))) ∧ ((bool01 (decide (y1000 < n1))) = 0 →
     False))) ∧ ((bool01 (decide (y1000 < n0))) = 0 →
    (((bool01 ((1 : Int) == 0)) ≠ 0 →
     ((0 : Int) ≠ 0 ↔ ((iteZ (bool01 (n0 == n1)) (sameW c0 c1 n0) 0) : Int) ≠ 0) ∧ True) ∧ ((bool01 ((1 : Int) == 0)) = 0 →
     ((1 : Int) ≠ 0 ↔ ((iteZ (bool01 (n0 == n1)) (sameW c0 c1 n0) 0) : Int) ≠ 0) ∧ True))))))
theorem sameW_iff (c d n : Int) : sameW c d n ≠ 0 ↔ ∀ i : Nat, (i : Int) < n → IntKind.wrap .i32 (rdZ c i) = IntKind.wrap .i32 (rdZ d i) := by
 unfold sameW; split <;> simp_all
theorem holds (n0 n1 c0 c1 r0 r1 : Int) (l_n0 : 0 ≤ n0) (u_n0 : n0 ≤ 1000000) (l_n1 : 0 ≤ n1) (u_n1 : n1 ≤ 1000000) (h_n0 : n0 ≤ r0) (h_n1 : n1 ≤ r1) : P n0 n1 c0 c1 r0 r1 := by
 unfold P
 simp only [nrm, Int.reduceEq, Int.reduceNeg, reduceIte]
 refine ⟨fun h => by simp [h], fun h => ?_⟩
 subst h
 simp only [if_true]
 have hs := sameW_iff c0 c1 n0
 refine ⟨fun i m => (∀ k : Nat, (k : Int) < i → IntKind.wrap .i32 (rdZ c0 k) = IntKind.wrap .i32 (rdZ c1 k)) ∧ i ≤ n0 ∧ m = (n0 - i).toNat, ⟨_, fun k hk => by omega, l_n0, rfl⟩, fun i m hb hI => ?_⟩
 obtain ⟨hI, hi, rfl⟩ := hI
 obtain ⟨j, rfl⟩ : ∃ j : Nat, i = j := ⟨i.toNat, by omega⟩
 refine ⟨fun h1 => ⟨fun h2 => ⟨fun h3 => by have : ¬ (sameW c0 c1 n0 ≠ 0) := fun h => h3 (hs.1 h j h1); simp_all, fun h3 => ⟨fun h4 => ⟨_, ?_, fun k hk => ?_, by omega, rfl⟩, fun h4 => by omega⟩⟩, fun h2 => by omega⟩, fun h1 => by have := hs.2 fun k hk => hI k (by omega); simp_all⟩
 ·omega
 ·by_cases e : k = j
  ·subst e; exact h3
  ·exact hI k (by omega)
theorem plain (i v ro p) : statR 2 rc tree ⟨i, fN, v, ro, p⟩ = P (i 0) (i 1) (i 2) (i 3) (i 4) (i 5) := by kernel_rfl
theorem ran : ranR us (fun _ _ => .auto) rc 2 tree = true := by kernel_rfl
theorem fineT : fineR 2 rc tree = true := by kernel_rfl
theorem ok : RcOk (cxOf 2) rc := okR us_ok ran fineT okb fun i v ro p hρ hcap hpre => by rw [plain]; have q := hρ.hi; exact holds (i 0) (i 1) (i 2) (i 3) (i 4) (i 5) (q 0 _ rfl).1 (q 0 _ rfl).2 (q 1 _ rfl).1 (q 1 _ rfl).2 (hcap _ (mg 0 rfl)) (hcap _ (mg 1 rfl))
end CRSame15
end Go.Proofs.YtemcjakecoceaaaGreatDoor
