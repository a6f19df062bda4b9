/-
  The law LabelTurned answers true at every input: the law is run by the engine (a symbolic run, proved sound), the tree of its answers, as a plain statement, is shown to hold. No condition.
-/
import Derived.Test.YtmehpgejkoaigabDoorKa
import Derived.Test.YtmehpgejkoaigabDoorGab
import Derived.Test.YtmehpgejkoaigabDoorGib
import Derived.Test.YtmehpgejkoaigabDoorGp1
import Derived.WalkKit
import Derived.ProofKit
import Derived.OpenShut
import Derived.LaidMore
import Derived.Stop.Joined
import Derived.SevenTiedAt
import Derived.SizedLaws
import Derived.Lay
import Derived.Test.YtmehpgejkoaigabDoorCards
import Derived.Test.YtmehpgejkoaigabDoorTie
import Derived.Shelf.Vars
import Derived.Stop.LaidErr
import Derived.LaidLaws
import Derived.Handed
import Derived.LaidHandle
namespace Go.Proofs.YtmehpgejkoaigabDoor.labelTurned
open Go.ChangeShapes Go.WideShapes Go.ChangeAt Go.Eng Go.RowKit
set_option linter.unusedVariables false
set_option linter.unusedSimpArgs false
set_option maxRecDepth 100000
def rc : Rc := ⟨3, [none], [.row [.bool, .str, .int .i64] 140737488355328], [], .one, [.bool (.c 1)]⟩
theorem okb : rc.ok = true := by kernel_rfl
noncomputable def us : SMs := fun Γ ins n => smH (cxG n Γ ins) [CLDef.rk.rh, CLUse.rk.rh, CLRes.rk.rh] (smAnd 11 (libNames Γ ins n) (smR (cxG n Γ ins) [CRSame19.rc, CRTexts14.rc, CAwake19.rc]))
theorem us_ok : SMsOk us := fun Γ ins n => smH_ok (tabsG n Γ ins) (qKq CLDef.okh (rh_n CLDef.ok) (qKq CLUse.okh (rh_n CLUse.ok) (qKq CLRes.okh (rh_n CLRes.ok) (rhs_nil _)))) (smAnd_ok (libNames_ok Γ ins n) (smR_ok (tabsG n Γ ins) (rcs_cons CRSame19.okb (rc_n CRSame19.ok) (rcs_cons CRTexts14.okb (rc_n CRTexts14.ok) (rcs_cons CAwake19.okb (rc_n CAwake19.ok) (rcs_nil _))))))
def Q0 : E := (.cl 1000 0 4611686018427387904)
def Q1 : E := (tR (.v 1) Q0)
def Q2 : E := (.cl 1002 0 1000000)
def Q3 : E := (tR Q1 (.c 1))
def Q4 : E := (.f 53 Q3 (.c 0) (.c 0))
def Q5 : E := (.f 26 (.v 1001) Q2 Q3)
def Q6 : E := (tl (.c 0) Q5)
def Q7 : E := (tp Q0 (.c 1))
def Q8 : E := (tl Q7 (.c 4611686018427387904))
def Q9 : E := (.ite Q6 (.c 0) (.c 1))
def Q10 : E := (.ite Q4 Q9 (.c 0))
def Q11 : E := (tp Q2 Q10)
def Q12 : E := (.cl 1004 0 1000000)
def Q13 : E := (.cl 1010 0 4611686018427387904)
def Q14 : E := (tR (.v 1) Q13)
def Q15 : E := (.cl 1012 0 1000000)
def Q16 : E := (tR Q14 (.c 1))
def Q17 : E := (.f 53 Q16 (.c 0) (.c 0))
def Q18 : E := (.cl 1014 0 1000000)
def Q19 : E := (tp Q13 (.c 1))
def Q20 : E := (tl Q19 (.c 4611686018427387904))
def Q21 : E := (tp Q15 Q17)
def Q22 : E := (tp Q18 Q17)
def Q23 : E := (.cl 1016 (-9223372036854775808) 9223372036854775807)
def Q24 : E := (tC Q23 (.c 0))
def Q25 : E := (tC Q16 Q24)
def Q26 : E := (.cl 1020 0 4611686018427387904)
def Q27 : E := (tR (.v 1) Q26)
def Q28 : E := (.cl 1022 0 1000000)
def Q29 : E := (tR Q27 (.c 1))
def Q30 : E := (.f 53 Q29 (.c 0) (.c 0))
def Q31 : E := (.f 26 (.v 1021) Q28 Q29)
def Q32 : E := (tl (.c 0) Q31)
def Q33 : E := (tp Q26 (.c 1))
def Q34 : E := (tl Q33 (.c 4611686018427387904))
def Q35 : E := (.ite Q32 (.c 0) (.c 1))
def Q36 : E := (.ite Q30 Q35 (.c 0))
def Q37 : E := (tp Q28 Q36)
def Q38 : E := (tC Q15 (.c 0))
def Q39 : E := (tC (.v 1011) Q38)
def Q40 : E := (.f 150 (.v 1001) Q2 Q39)
def Q41 : E := (tk Q40 (.c 0))
def Q42 : E := (tC Q18 (.c 0))
def Q43 : E := (tC (.v 1013) Q42)
def Q44 : E := (.f 150 (.v 1021) Q28 Q43)
def Q45 : E := (tk Q44 (.c 0))
def Q46 : E := (tC (.c 0) (tC (.c 0) (.c 0)))
def tree : TT (List E) :=
 (.br (tk (.c 100) (.v 0)) (.leaf [(.c 1)]) (.loop ⟨1000, [some (0, 4611686018427387904), none, some (0, 1000000), none, some (0, 1000000)], [(.c 0), (.c 0), (.c 0), (.c 0), (.c 0)], 1008⟩ (.br (tk Q0 (.v 0)) (.br (tR Q1 (.c 0)) (.new 1006 (t6 (tR Q1 (.c 2))) (.br (tl Q2 (.c 999999)) (.new 1007 (.ite Q4 (.ite Q6 (.c 9) (.c 0)) (.c 8)) (.br Q8 (.br (tl Q11 (.c 1000000)) (.back [Q7, (.ite Q10 (.f 14 (.v 1001) Q2 (tC Q3 (tC (.cl 1006 (-9223372036854775808) 9223372036854775807) (.c 0)))) (.v 1001)), Q11, (.v 1003), Q12]) (.bad 303)) (.bad 303))) (.bad 200))) (.br Q8 (.back [Q7, (.v 1001), Q2, (.v 1003), Q12]) (.bad 303))) (.exit 0)) (.loop ⟨1010, [some (0, 4611686018427387904), none, some (0, 1000000), none, some (0, 1000000)], [(.c 0), (.v 1003), Q12, (.c 0), (.c 0)], 1018⟩ (.br (tk Q13 (.v
 0)) (.br (.nt (tR Q14 (.c 0))) (.new 1016 (t6 (tR Q14 (.c 2))) (.br (tl Q15 (.c 999999)) (.new 1017 (.ite Q17 (.c 0) (.c 8)) (.br (tl Q18 (.c 999999)) (.br Q20 (.br (tl Q21 (.c 1000000)) (.br (tl Q22 (.c 1000000)) (.back [Q19, (.ite Q17 (.f 14 (.v 1011) Q15 Q25) (.v 1011)), Q21, (.ite Q17 (.f 14 (.v 1013) Q18 Q25) (.v 1013)), Q22]) (.bad 303)) (.bad 303)) (.bad 303)) (.bad 200))) (.bad 200))) (.br Q20 (.back [Q19, (.v 1011), Q15, (.v 1013), Q18]) (.bad 303))) (.exit 0)) (.loop ⟨1020, [some (0, 4611686018427387904), none, some (0, 1000000)], [(.c 0), (.c 0), (.c 0)], 1026⟩ (.br (tk Q26 (.v 0)) (.br (tR Q27 (.c 0)) (.new 1024 (t6 (tR Q27 (.c 2))) (.br (tl Q28 (.c 999999)) (.new 1025 (.ite Q30 (.ite Q32 (.c 9) (.c 0)) (.c 8)) (.br Q34 (.br (tl Q37 (.c 1000000)) (.back [Q33, (.ite Q36 (.f 14
 (.v 1021) Q28 (tC Q29 (tC (.cl 1024 (-9223372036854775808) 9223372036854775807) (.c 0)))) (.v 1021)), Q37]) (.bad 303)) (.bad 303))) (.bad 200))) (.br Q34 (.back [Q33, (.v 1021), Q28]) (.bad 303))) (.exit 0)) (.new 1028 (.ite Q41 Q15 (.c 0)) (.new 1029 (.ite Q45 Q18 (.c 0)) (.new 1030 (.ite (te (.cl 1028 0 1000000) (.cl 1029 0 1000000)) (.f 149 (.f 151 (.v 1001) Q2 Q39) (.f 151 (.v 1021) Q28 Q43) (.cl 1028 0 1000000)) (.c 0)) (.br (.cl 1030 0 1) (.br (.f 20 (.ite Q41 Q46 (tR (tR (.v 1011) Q40) (.c 0))) (.ite Q45 Q46 (tR (tR (.v 1013) Q44) (.c 0))) (.c 0)) (.br (te (.ite Q41 (.c 0) (.c 10)) (.ite Q45 (.c 0) (.c 10))) (.new 1031 (.ite (te Q2 Q28) (.f 145 (.f 152 (.v 1001) Q2 (.c 0)) (.f 152 (.v 1021) Q28 (.c 0)) Q2) (.c 0)) (.br (.cl 1031 0 1) (.leaf [(.c 1)]) (.leaf [(.c 0)]))) (.leaf
 [(.c 0)])) (.leaf [(.c 0)])) (.leaf [(.c 0)])))))))))


def P (a b c : Int) : Prop :=
 (Pb (Pl 100 a) Pt (∃ I1000 : Int → Int → Int → Int → Int → Nat → Prop, (∃ m, I1000 0 0 0 0 0 m) ∧ ∀ y0 y1 y2 y3 y4 : Int, ∀ m0, ((0 ≤ y0 ∧ y0 ≤ 4611686018427387904) ∧ True ∧ (0 ≤ y2 ∧ y2 ≤ 1000000) ∧ True ∧ (0 ≤ y4 ∧ y4 ≤ 1000000) ∧ True) → I1000 y0 y1 y2 y3 y4 m0 → (Pb (Pl y0 a) (Pb (rdZ (rdZ b y0) 0) (Pn (W6 (rdZ (rdZ b y0) 2)) (-9223372036854775808) 9223372036854775807 fun y6 => (Pm (PL y2 999999) (Pn (iteZ (isZ (rdZ (rdZ b y0) 1)) (iteZ (PL 0 (mfsZ y1 y2 (rdZ (rdZ b y0) 1))) 9 0) 8) 0 9 fun y7 => (Pm (PL (y0 + 1) 4611686018427387904) (Pm (PL (y2 + (iteZ (isZ (rdZ (rdZ b y0) 1)) (iteZ (PL 0 (mfsZ y1 y2 (rdZ (rdZ b y0) 1))) 0 1) 0)) 1000000) (∃ m', m' < m0 ∧ I1000 (y0 + 1) (iteZ (iteZ (isZ (rdZ (rdZ b y0) 1)) (iteZ (PL 0 (mfsZ y1 y2 (rdZ (rdZ b y0) 1))) 0 1) 0) (updZ y1 y2 (kZ (rdZ
 (rdZ b y0) 1) (kZ y6 0))) y1) (y2 + (iteZ (isZ (rdZ (rdZ b y0) 1)) (iteZ (PL 0 (mfsZ y1 y2 (rdZ (rdZ b y0) 1))) 0 1) 0)) y3 y4 m')))))) (Pm (PL (y0 + 1) 4611686018427387904) (∃ m', m' < m0 ∧ I1000 (y0 + 1) y1 y2 y3 y4 m'))) (∃ I1010 : Int → Int → Int → Int → Int → Nat → Prop, (∃ m, I1010 0 y3 y4 0 0 m) ∧ ∀ y10 y11 y12 y13 y14 : Int, ∀ m10, ((0 ≤ y10 ∧ y10 ≤ 4611686018427387904) ∧ True ∧ (0 ≤ y12 ∧ y12 ≤ 1000000) ∧ True ∧ (0 ≤ y14 ∧ y14 ≤ 1000000) ∧ True) → I1010 y10 y11 y12 y13 y14 m10 → (Pb (Pl y10 a) (Pb (Pe (rdZ (rdZ b y10) 0) 0) (Pn (W6 (rdZ (rdZ b y10) 2)) (-9223372036854775808) 9223372036854775807 fun y16 => (Pm (PL y12 999999) (Pn (iteZ (isZ (rdZ (rdZ b y10) 1)) 0 8) 0 8 fun y17 => (Pm (PL y14 999999) (Pm (PL (y10 + 1) 4611686018427387904) (Pm (PL (y12 + (isZ (rdZ (rdZ b y10) 1)))
 1000000) (Pm (PL (y14 + (isZ (rdZ (rdZ b y10) 1))) 1000000) (∃ m', m' < m10 ∧ I1010 (y10 + 1) (iteZ (isZ (rdZ (rdZ b y10) 1)) (updZ y11 y12 (kZ (rdZ (rdZ b y10) 1) (kZ y16 0))) y11) (y12 + (isZ (rdZ (rdZ b y10) 1))) (iteZ (isZ (rdZ (rdZ b y10) 1)) (updZ y13 y14 (kZ (rdZ (rdZ b y10) 1) (kZ y16 0))) y13) (y14 + (isZ (rdZ (rdZ b y10) 1))) m')))))))) (Pm (PL (y10 + 1) 4611686018427387904) (∃ m', m' < m10 ∧ I1010 (y10 + 1) y11 y12 y13 y14 m'))) (∃ I1020 : Int → Int → Int → Nat → Prop, (∃ m, I1020 0 0 0 m) ∧ ∀ y20 y21 y22 : Int, ∀ m20, ((0 ≤ y20 ∧ y20 ≤ 4611686018427387904) ∧ True ∧ (0 ≤ y22 ∧ y22 ≤ 1000000) ∧ True) → I1020 y20 y21 y22 m20 → (Pb (Pl y20 a) (Pb (rdZ (rdZ b y20) 0) (Pn (W6 (rdZ (rdZ b y20) 2)) (-9223372036854775808) 9223372036854775807 fun y24 => (Pm (PL y22 999999) (Pn (iteZ
 (isZ (rdZ (rdZ b y20) 1)) (iteZ (PL 0 (mfsZ y21 y22 (rdZ (rdZ b y20) 1))) 9 0) 8) 0 9 fun y25 => (Pm (PL (y20 + 1) 4611686018427387904) (Pm (PL (y22 + (iteZ (isZ (rdZ (rdZ b y20) 1)) (iteZ (PL 0 (mfsZ y21 y22 (rdZ (rdZ b y20) 1))) 0 1) 0)) 1000000) (∃ m', m' < m20 ∧ I1020 (y20 + 1) (iteZ (iteZ (isZ (rdZ (rdZ b y20) 1)) (iteZ (PL 0 (mfsZ y21 y22 (rdZ (rdZ b y20) 1))) 0 1) 0) (updZ y21 y22 (kZ (rdZ (rdZ b y20) 1) (kZ y24 0))) y21) (y22 + (iteZ (isZ (rdZ (rdZ b y20) 1)) (iteZ (PL 0 (mfsZ y21 y22 (rdZ (rdZ b y20) 1))) 0 1) 0)) m')))))) (Pm (PL (y20 + 1) 4611686018427387904) (∃ m', m' < m20 ∧ I1020 (y20 + 1) y21 y22 m'))) (Pn (iteZ (Pl (lckZ y1 y2 (kZ y11 (kZ y12 0))) 0) y12 0) 0 1000000 fun y28 => Pn (iteZ (Pl (lckZ y21 y22 (kZ y13 (kZ y14 0))) 0) y14 0) 0 1000000 fun y29 => Pn (iteZ (Pe y28
 y29) (smfZ (fixZ y1 y2 (kZ y11 (kZ y12 0))) (fixZ y21 y22 (kZ y13 (kZ y14 0))) y28) 0) 0 1 fun y30 => (Pb y30 (Pb (seqZ (iteZ (Pl (lckZ y1 y2 (kZ y11 (kZ y12 0))) 0) (kZ 0 (kZ 0 0)) (rdZ (rdZ y11 (lckZ y1 y2 (kZ y11 (kZ y12 0)))) 0)) (iteZ (Pl (lckZ y21 y22 (kZ y13 (kZ y14 0))) 0) (kZ 0 (kZ 0 0)) (rdZ (rdZ y13 (lckZ y21 y22 (kZ y13 (kZ y14 0)))) 0))) (Pb (Pe (iteZ (Pl (lckZ y1 y2 (kZ y11 (kZ y12 0))) 0) 0 10) (iteZ (Pl (lckZ y21 y22 (kZ y13 (kZ y14 0))) 0) 0 10)) (Pn (iteZ (Pe y2 y22) (samT (nmsZ y1 y2) (nmsZ y21 y22) y2) 0) 0 1 fun y31 => (Pb y31 Pt Pf)) Pf) Pf) Pf)))))))))

theorem l01 (a b : Prop) [Decidable a] [Decidable b] : 0 ≤ (if a then if b then (0 : Int) else 1 else 0) ∧ (if a then if b then (0 : Int) else 1 else 0) ≤ 1 := by
  by_cases ha : a <;> by_cases hb : b <;> simp [ha, hb]
/-- the names that have a place, when so many calls are through -/
noncomputable def dff (c : Int) : Nat → Int × Int
  | 0 => (0, 0)
  | i + 1 => if rdZ (rdZ c i) 0 = 0 then dff c i else
    ((if ¬(if ¬isZ (rdZ (rdZ c i) 1) = 0 then if 0 ≤ mfsZ (dff c i).1 (dff c i).2 (rdZ (rdZ c i) 1) then (0 : Int) else 1 else 0) = 0 then updZ (dff c i).1 (dff c i).2 (qQz (rdZ (rdZ c i) 1) (qQz (IntKind.wrap .i64 (rdZ (rdZ c i) 2)) 0)) else (dff c i).1),
      (dff c i).2 + (if ¬isZ (rdZ (rdZ c i) 1) = 0 then if 0 ≤ mfsZ (dff c i).1 (dff c i).2 (rdZ (rdZ c i) 1) then (0 : Int) else 1 else 0))
theorem dff_use {c i : Int} (h0 : 0 ≤ i) (h : rdZ (rdZ c i) 0 = 0) : dff c (i + 1).toNat = dff c i.toNat := by
  rw [show (i + 1).toNat = i.toNat + 1 by omega, dff, Int.toNat_of_nonneg h0, if_pos h]
theorem dff_def {c i q n y : Int} (h0 : 0 ≤ i) (h : ¬rdZ (rdZ c i) 0 = 0) (hd : dff c i.toNat = (q, n)) (hy : y = IntKind.wrap .i64 (rdZ (rdZ c i) 2)) :
    dff c (i + 1).toNat = ((if ¬(if ¬isZ (rdZ (rdZ c i) 1) = 0 then if 0 ≤ mfsZ q n (rdZ (rdZ c i) 1) then (0 : Int) else 1 else 0) = 0 then updZ q n (qQz (rdZ (rdZ c i) 1) (qQz y 0)) else q),
      n + (if ¬isZ (rdZ (rdZ c i) 1) = 0 then if 0 ≤ mfsZ q n (rdZ (rdZ c i) 1) then (0 : Int) else 1 else 0)) := by
  subst hy
  rw [show (i + 1).toNat = i.toNat + 1 by omega, dff, Int.toNat_of_nonneg h0, if_neg h, hd]
set_option maxHeartbeats 4000000 in
theorem holds (n0 c0 r0 : Int) (l_n0 : 0 ≤ n0) (u_n0 : n0 ≤ 140737488355328) (h_n0 : n0 ≤ r0) : P n0 c0 r0 := by
  delta P Pb Pm Pn Pf Pt PL Pl Pe W6 kZ
  simp only [nrm, Int.reduceEq, Int.reduceNeg, reduceIte]
  refine ⟨fun _ => trivial, fun hn => ?_⟩
  refine ⟨fun i q n uq u m => dff c0 i.toNat = (q, n) ∧ uq = 0 ∧ u = 0 ∧ 0 ≤ i ∧ i ≤ n0 ∧ n ≤ i ∧ m = (n0 - i).toNat, ⟨_, rfl, rfl, rfl, by omega, by omega, by omega, rfl⟩, ?_⟩
  rintro i q n uq u m hb ⟨hD, rfl, rfl, i0, i1, i2, rfl⟩
  refine ⟨fun hi => ⟨fun hk => ?_, fun hk => ?_⟩, fun hi => ?_⟩
  · intro y1 hy1 _
    refine ⟨fun _ => ?_, fun h => by omega⟩
    intro y2 _ _
    obtain ⟨g1, g2⟩ := l01 (¬isZ (rdZ (rdZ c0 i) 1) = 0) (0 ≤ mfsZ q n (rdZ (rdZ c0 i) 1))
    exact ⟨fun _ => ⟨fun _ => ⟨(n0 - (i + 1)).toNat, by omega, dff_def i0 hk hD hy1, rfl, rfl, by omega, by omega, by omega, rfl⟩, fun h => by omega⟩, fun h => by omega⟩
  · exact ⟨fun _ => ⟨(n0 - (i + 1)).toNat, by omega, (dff_use i0 hk).trans hD, rfl, rfl, by omega, by omega, by omega, rfl⟩, fun h => by omega⟩
  · have hin : i = n0 := by omega
    subst hin
    refine ⟨fun k uq u uq' u' m => uq' = uq ∧ u' = u ∧ 0 ≤ k ∧ k ≤ i ∧ u ≤ k ∧ m = (i - k).toNat, ⟨_, rfl, rfl, by omega, by omega, by omega, rfl⟩, ?_⟩
    rintro k uq u uq' u' m hb2 ⟨rfl, rfl, k0, k1, k2, rfl⟩
    refine ⟨fun hi => ⟨fun hk => ?_, fun hk => ?_⟩, fun hi => ?_⟩
    · intro y1 hy1 _
      refine ⟨fun _ => ?_, fun h => by omega⟩
      intro y2 _ _
      have g1 := isZ_bd (rdZ (rdZ c0 k) 1)
      exact ⟨fun _ => ⟨fun _ => ⟨fun _ => ⟨fun _ => ⟨(i - (k + 1)).toNat, by omega, rfl, rfl, by omega, by omega, by omega, rfl⟩, fun h => by omega⟩, fun h => by omega⟩, fun h => by omega⟩, fun h => by omega⟩
    · exact ⟨fun _ => ⟨(i - (k + 1)).toNat, by omega, rfl, rfl, by omega, by omega, by omega, rfl⟩, fun h => by omega⟩
    · refine ⟨fun j q n m => dff c0 j.toNat = (q, n) ∧ 0 ≤ j ∧ j ≤ i ∧ n ≤ j ∧ m = (i - j).toNat, ⟨_, rfl, by omega, by omega, by omega, rfl⟩, ?_⟩
      rintro j q' n' m hb3 ⟨hD', j0, j1, j2, rfl⟩
      refine ⟨fun hi => ⟨fun hk => ?_, fun hk => ?_⟩, fun hi => ?_⟩
      · intro y1 hy1 _
        refine ⟨fun _ => ?_, fun h => by omega⟩
        intro y2 _ _
        obtain ⟨g1, g2⟩ := l01 (¬isZ (rdZ (rdZ c0 j) 1) = 0) (0 ≤ mfsZ q' n' (rdZ (rdZ c0 j) 1))
        exact ⟨fun _ => ⟨fun _ => ⟨(i - (j + 1)).toNat, by omega, dff_def j0 hk hD' hy1, by omega, by omega, by omega, rfl⟩, fun h => by omega⟩, fun h => by omega⟩
      · exact ⟨fun _ => ⟨(i - (j + 1)).toNat, by omega, (dff_use j0 hk).trans hD', by omega, by omega, by omega, rfl⟩, fun h => by omega⟩
      · have hj : j = i := by omega
        subst hj
        rw [hD] at hD'
        obtain ⟨rfl, rfl⟩ := Prod.mk.inj hD'
        simp [smf_self, sam_self, seq_self]

theorem plain (i v ro p) : statR 2 rc tree ⟨i, fN, v, ro, p⟩ = P (i 0) (i 1) (i 2) := by kernel_rfl
theorem ran : ranR us (fun _ _ => .auto) rc 2 tree = true := by kernel_rfl
theorem fineT : fineR 2 rc tree = true := by kernel_rfl
theorem ok : RcOk (cxOf 2) rc := okR us_ok ran fineT okb fun i v ro p hρ hcap hpre => by rw [plain]; have q := hρ.hi; exact holds _ _ _ (q 0 _ rfl).1 (q 0 _ rfl).2 (hcap _ (mg 0 rfl))
theorem laidMet_tail {P : Program} {x : String × DataW Unit} {rest : List (String × DataW Unit)} {W : World} (h : laidMet P (x :: rest) W) : laidMet P rest W := by
  obtain ⟨ps, hl, hn, hf⟩ := h
  obtain ⟨n, d⟩ := x
  obtain ⟨g, t, cs, fuel, p, q, _, _, _, _, hq, rfl⟩ := hl
  exact ⟨q, hq, (List.nodup_append.1 hn).2.1, fun b off hm => hf b off (List.mem_append_right _ hm)⟩
theorem listE_LZ (P : Program) (l : List Int) (ro : List RO) : ∀ zs : List Int, (qZk (zs.map E.c)).ev (envR P l ro) = LZ zs
  | [] => rfl
  | z :: zs => by
    have h : (qZk ((z :: zs).map E.c)).ev (envR P l ro) = qQz z ((qZk (zs.map E.c)).ev (envR P l ro)) := rfl
    rw [h, listE_LZ P l ro zs]
    unfold qQz
    rw [ZL_LZ]
noncomputable def plainL : List (String × DataW Unit) := [("unicode/utf8.acceptRanges", Rows.laid_unicode_utf8_acceptRanges), ("unicode/utf8.first", Rows.laid_unicode_utf8_first)]
theorem laidP {W : World} (h : laidMetH Tryd.prog Rows.labelTurnedRow.laid W) : laidMet Tryd.prog plainL W ∧ handlesMet Tryd.prog [("errors.errorType", Rows.laid_errors_errorType)] W := h
theorem wrap_shaped {H : Type} {enc : TypeId × Value → H} {a : Assume} {C : Checked} {os : Os} {f : FuncId} {fn : Func} {s : ChangeSpec} {conds : List PathCond} {apart fresh handsOn again : Bool} {X : World → Array Value → Prop}
    (hX : ∀ (w w' : World) (args : Array Value), w.heap = w'.heap → X w args → X w' args)
    (own : ownKnob C.prog.godebug = none) (started : os.Started) (noInit : C.prog.inits.idxOf? f = none) (hfn : C.prog.funcs[f]? = some fn)
    (witness : ∃ (w : World) (tape : Tape) (i : Input), w.os = os ∧ (w.forCall tape i).Shaped C.prog ∧ i.vars = [] ∧ Input.okWide C.prog (w.forCall tape i) .any w.heap.size f i ∧
      ((s.pre enc C.prog fn conds apart (w.forCall tape i).memory i.args ∧ X (w.forCall tape i).memory i.args) ∧ sizedMet enc C.prog fn (OpenSpec.ofChange s) apart (w.forCall tape i).memory i.args) ∧ a.holds C.prog (lone (Frame.enter C.prog f i.args .normal) [] (w.forCall tape i)))
    (contract : ∀ (W : World) (base : Nat) (args : Array Value) (ds gs : List (DataW H)) (before : List MemPlace),
      (∀ (j : Nat) t v, fn.params[j]? = some t → args[j]? = some v → Value.okWide C.prog W .any base t v) →
      DataW.Whole enc C.prog fn.params.toList s.vars apart W args.toList ds gs before →
      conds.all (PathCond.test C.prog ⟨fn.params.toList, ds, s.plain.varTypes C.prog, gs⟩) = true →
      (DataW.weightsEach C.prog (fn.params.toList ++ s.plain.varTypes C.prog) (ds ++ gs)).all (· ≤ reachBytes) = true → X W args → W.ShapedOpen C.prog →
      a.holds C.prog (lone (Frame.enter C.prog f args .normal) [] W) →
      Calls C.prog f args W fun e W' => ∃ v, e = .returned v ∧ s.post enc C.prog fn apart fresh handsOn again W args v W') :
    ReturnsInHanded a C os f .any (fun w args => (s.pre enc C.prog fn conds apart w args ∧ X w args) ∧ sizedMet enc C.prog fn (OpenSpec.ofChange s) apart w args) (s.post enc C.prog fn apart fresh handsOn again) := by
  refine returnsInHanded_of_calls own started noInit witness ?_
  intro w tape i _ hsh _ hok hpre hholds
  obtain ⟨_, _, _, fn', hfn', _, _, _, _, hval⟩ := hok
  obtain rfl : fn' = fn := Option.some.inj (hfn'.symm.trans hfn)
  obtain ⟨⟨⟨ds, gs, before, hw, hc⟩, hx⟩, hz⟩ := hpre
  refine (contract (w.forCall tape i) w.heap.size i.args ds gs before hval (DataW.Whole.of_heap (w' := w.forCall tape i) (by rfl) hw) hc (hz.weights hw) (hX _ _ _ (by rfl) hx) hsh hholds).mono fun e W' ⟨v, he, hp⟩ => ?_
  subst he
  exact ChangeSpec.post_blind hp
theorem var0 {W : World} (h : W.ShapedOpen Tryd.prog) : ∃ m, W.cell? ⟨1, 0, none⟩ = some (.int .i64 m) :=
  cell_of_shapedOpen_int (P := Tryd.prog) (g := 1) (t := 3) (zero := #[.int .i64 0]) h (of_decide_eq_true (by kernel_rfl)) (by kernel_rfl) rfl (by kernel_rfl) (by kernel_rfl) Tryd.underlying3
theorem gnm1 : Tryd.prog.globalNamed "errors.errorType" = some 0 := by kernel_rfl
theorem hrt1 : (Tryd.prog.cutTypes.find? (·.1 == "internal/reflectlite.rtype")).map (·.2) = some 86 := by kernel_rfl
theorem hone1 : ((List.range 162).filter fun t => Tryd.prog.rowNamed t [101, 114, 114, 111, 114]) = [51] := by kernel_rfl
theorem hsz1 : Tryd.prog.types.size = 162 := by kernel_rfl
theorem var1 {W : World} (h : laidMetH Tryd.prog Rows.labelTurnedRow.laid W) : W.cell? ⟨0, 0, none⟩ = some (hndV 1004086051) := by
  have h2 := (laidP h).2
  obtain ⟨nm, u, ty, e1, e2, e3, e4, e5⟩ := h2 _ (List.mem_singleton.2 rfl)
  have en : nm = [101, 114, 114, 111, 114] := (Option.some.inj e1).symm
  subst en
  obtain rfl := Option.some.inj (hrt1.symm.trans e2)
  have hm : ty ∈ (List.range 162).filter fun t => Tryd.prog.rowNamed t [101, 114, 114, 111, 114] := List.mem_filter.2 ⟨List.mem_range.2 (by rw [← hsz1]; exact e3), e4⟩
  rw [hone1] at hm
  obtain rfl := List.mem_singleton.1 hm
  have hh : typeHandle Tryd.prog 51 = .pointer (some ⟨4, 51, none⟩) := by kernel_rfl
  rw [hh] at e5
  have hv : hndV 1004086051 = .iface 86 (.agg #[.pointer (some ⟨4, 51, none⟩)]) := rfl
  rw [hv]
  simpa using World.var?_cell gnm1 e5 0
/-- a world that meets the condition -/
noncomputable def lw (os : Os) : World :=
  let w0 := World.holding Tryd.prog os ⟨#[], #[], []⟩
  World.layVars Tryd.prog { w0 with heap := w0.heap.modify 0 fun
      | .cells _ t frozen => .cells #[.iface 86 (.agg #[.pointer (some ⟨4, 51, none⟩)])] t frozen
      | o => o } plainL
theorem lw_os (os : Os) : (lw os).os = os := World.layVars_os _ _ _
theorem lw_met (os : Os) (args : Array Value) : laidMetH Tryd.prog Rows.labelTurnedRow.laid ((lw os).forCall (fun _ _ => 0) ⟨#[], args, []⟩).memory := by
  refine laidMetH_of_parts ?_ (by kernel_rfl)
  have e1 : (plainL.filter fun x => (plainL.map (·.1)).contains x.1) = plainL := List.filter_eq_self.2 fun x hx => List.contains_iff_mem.2 (List.mem_map.2 ⟨x, hx, rfl⟩)
  have e2 : (plainL.filter fun x => !(plainL.map (·.1)).contains x.1) = [] := List.filter_eq_nil_iff.2 fun x hx => by rw [List.contains_iff_mem.2 (List.mem_map.2 ⟨x, hx, rfl⟩)]; simp
  have h : laidMet Tryd.prog plainL (lw os) := laidMet_layVars (w0 := _) (plainL.map (·.1)) [] (by rw [e1]; rfl) (by rw [e1]; kernel_rfl) (by rw [e1]; kernel_rfl) (by rw [e2]; exact LaidIn.none)
  exact h.of_heap (by simp [World.memory, World.forCall, Input.heap])

theorem walk (w : World) (a0 : RO) (k0 : a0.cks = [.bool, .str, .int .i64]) (n0 : a0.a = none → a0.n = 0) (m0 : a0.n ≤ a0.cap) (t0 : RoAt w a0) (b0 : (a0.n : Int) ≤ 140737488355328) (mv0 : Int) (hv0 : w.cell? ⟨1, 0, none⟩ = some (.int .i64 mv0)) (hv1 : w.cell? ⟨0, 0, none⟩ = some (hndV 1004086051)) :
    Calls Tryd.prog 3 #[.slice a0.a a0.n a0.cap] w fun e w' => e = .returned (.bool true) ∧ Below w.heap.size w w' := by
  refine law_of (cx := cxOf 2) ok ⟨rfl, rfl, rfl⟩ (ρ := envR Tryd.prog [(a0.n : Int), a0.c, (a0.cap : Int)] [a0, ⟨some ⟨1, 0, none⟩, 1, [], 0, 1, some (.int .i64 mv0)⟩, ⟨some ⟨0, 0, none⟩, 1004086051, [], 0, 1004086051, some (hndV 1004086051)⟩]) (envR_ok (cx := rc.cx (cxOf 2)) rfl rfl (bnd_cons ⟨Int.natCast_nonneg _, b0⟩ (bnd_nil _)) ⟨⟨k0, rfl, (Int.toNat_natCast _).symm, (Int.toNat_natCast _).symm, n0, fun g h => by cases h⟩, ⟨⟨rfl, rfl, rfl, rfl, (fun h => by cases h), fun g h => by cases h; exact ⟨rfl, ⟨mv0, rfl⟩⟩⟩, ⟨⟨rfl, rfl, rfl, rfl, (fun h => by cases h), fun g h => by cases h; exact ⟨rfl, ⟨by decide, rfl⟩⟩⟩, trivial⟩⟩⟩) (fun d hd => by
    simp only [show qXb rc.b rc.c rc.ls 0 0 0 = [⟨[.bool, .str, .int .i64], .v 1, .v 0, .v 2, none⟩] from rfl, List.mem_cons, List.not_mem_nil, or_false] at hd
    rcases hd with rfl
    · exact Int.ofNat_le.2 m0) (roOk_of ⟨t0, ⟨varRo_at hv0, ⟨varRo_at hv1, trivial⟩⟩⟩) ?_
  rw [show rc.args = [.sl (.inp 0) 3 (.c 0) (.v 0) (some (.v 2))] from rfl]
  simp only [SV.denL, SV.den, E.ev, map_addr_zero]
  rfl
theorem lifted (os : Os) (started : os.Started) (H : Type) (enc : TypeId × Value → H) :
    ReturnsInHanded {} Tryd.checked os 3 .any (fun w args => (Rows.labelTurnedSpec.pre enc Tryd.prog Tryd.f3 Rows.labelTurnedRow.domain false w args ∧ laidMetH Tryd.prog Rows.labelTurnedRow.laid w) ∧ sizedMet enc Tryd.prog Tryd.f3 (OpenSpec.ofChange Rows.labelTurnedSpec) false w args)
      (Rows.labelTurnedSpec.post enc Tryd.prog Tryd.f3 false true false false) := by
  refine wrap_shaped (C := Tryd.checked) (X := fun w _ => laidMetH Tryd.prog Rows.labelTurnedRow.laid w) (fun _ _ _ hh h => h.of_heap hh) own started (by kernel_rfl) Tryd.func3
    (ChangeSpec.witness_shaped (enc := enc) (C := Tryd.checked) (os := os) (X := fun w _ => laidMetH Tryd.prog Rows.labelTurnedRow.laid w) false (lw os) #[.slice none 0 0] 8 (lw_os _)
      (World.shaped_of_ZipB (by kernel_rfl) (by kernel_rfl)) (by kernel_rfl) (by kernel_rfl) (by kernel_rfl)
      (lw_met _ _)) ?_
  intro W base args ds gs before hval0 hW hcnd hw0 hL hsh _
  have hval : ∀ (j : Nat) t v, Tryd.f3.params[j]? = some t → args[j]? = some v → Value.okWide Tryd.prog W .any base t v := hval0
  have hW' := hW
  obtain ⟨p, q, hA0, hV, rfl, hfz, hnd⟩ := hW
  have hA : DataW.TrodAll enc Tryd.prog W 0 (fun _ => true) true Tryd.f3.params.toList args.toList ds p := hA0
  have hw := hw0
  rw [Tryd.params3] at hA hval hw
  obtain ⟨v0, vs0, d0, ds0, p0, q0, hargs, rfl, rfl, h0, r0⟩ := trodAll_cons hA
  have h0k := h0
  obtain ⟨rfl, rfl, rfl⟩ := trodAll_nil r0
  obtain rfl : args = #[v0] := by cases args; simp_all
  obtain ⟨rfl, rfl⟩ := trodVars_none hV
  obtain ⟨a0, k0, rfl, n0, m0, t0, b0, _⟩ := Go.Eng.open_row (ks := [.bool, .str, .int .i64]) Tryd.underlying22 (ElT.struct Tryd.underlying27 (by kernel_rfl) (by kernel_rfl) (by first | exact ⟨by simp only [CkT]; kernel_rfl, by simp only [CkT]; kernel_rfl, by simp only [CkT]; kernel_rfl, trivial⟩) (by decide)) (by decide) (of_decide_eq_true (by kernel_rfl)) (by kernel_rfl) (hval 0 22 v0 rfl rfl) h0 (weights_of (gs := []) hw (j := 0) (t := 22) rfl rfl)
  obtain ⟨mv0, hv0⟩ := var0 hsh
  have hv1 := var1 hL
  clear hA0 hval0
  refine (walk W a0 k0 n0 m0 t0 b0 mv0 hv0 hv1).mono fun e W' ⟨he, hg⟩ => ?_
  subst he
  have hin0 : ∀ x ∈ p0, x ∈ p0 ++ [] ++ [] := fun x hx => by simp [hx]
  have hlt0 : ∀ x ∈ p0, x.block < W.heap.size := fun x hx => by simpa using hW'.lt x (by simp [hx])
  exact ⟨_, rfl, post_below (pa := _) (pv := []) hW' hg (fun _ _ _ => (trodAll_cons_mk (shut_bool Tryd.underlying4 _) trodAll_mk0)) (fun sp hsp => (trodAll_cons_mk (WideElems.Trod_stays laidOut (by kernel_rfl) (of_decide_eq_true (by kernel_rfl)) h0k (fun x hx => hg.same (hlt0 x hx)) (fun x hx => hsp x (hin0 x hx))) trodAll_mk0)) (fun _ _ => rfl) (by simp)
    (ok_one (by kernel_rfl) rfl (okWide_bool_mk Tryd.underlying4 _))⟩

theorem over : Rows.labelTurnedRow.holds Tryd.pinned (OpenSpec.ofChange Rows.labelTurnedSpec) :=
  OpenClaim.holds_of_wide 3 Tryd.f3 rfl rfl rfl rfl rfl rfl rfl ⟨rfl, rfl, rfl, rfl, rfl⟩ rfl rfl rfl rfl rfl (by kernel_rfl) Tryd.func3 (by kernel_rfl)
    (of_decide_eq_true (by kernel_rfl)) (by unfold Func.isWrapper; first | (rw [if_pos (by decide +kernel)]; kernel_rfl) | (rw [if_neg (by decide +kernel)]; exact ⟨rfl, rfl⟩))
    (fun os started H enc _ => lifted os started H enc)

/-- the statement -/
theorem proved : Rows.LabelTurnedCardSaid :=
  Claim7.holds_tied_plain_at .later [] [.data, .handle, .pinned] true (true, "f53fc0dc15cb72465a67fe8f3958a6ca26e0616209bf6efa381213e96373cf12") true
    over (fun _ h => by cases h) (by kernel_rfl) (fun _ h => by cases h) labelTurned_row_tie rfl ⟨rfl, rfl⟩ (by kernel_rfl) rfl
    (fun f fn hf hfn => by
      obtain rfl : f = 3 := Option.some.inj ((show Tryd.prog.funcNamed "astrolabe/astrolabelaw19.LabelTurned" = some 3 by kernel_rfl).symm.trans hf) |>.symm
      obtain rfl : fn = Tryd.f3 := (Option.some.inj (Tryd.func3.symm.trans hfn)).symm
      exact ⟨by kernel_rfl, fun j t ht => by
        rw [Tryd.params3] at ht
        have h3 : t = 22 := by
          rcases j with _ | j
          · exact (by simpa using ht.symm)
          · simp at ht
        rcases h3 with rfl
        · exact (show Tryd.prog.wantsStandIn 22 = false by kernel_rfl)⟩)
    (by kernel_rfl)
#print axioms proved
end Go.Proofs.YtmehpgejkoaigabDoor.labelTurned
