/-
  What functions of the program answer, as numbers of what they are handed: their runs by the engine, the plain statements behind them. No condition.
-/
import Derived.Test.YtkjbmbmdmhfbeabDoorKa
import Derived.Test.YtkjbmbmdmhfbeabDoorKb
import Derived.Test.YtkjbmbmdmhfbeabDoorGab
import Derived.Test.YtkjbmbmdmhfbeabDoorGp1
import Derived.Test.YtkjbmbmdmhfbeabDoorGp4
set_option linter.unusedVariables false
set_option linter.unusedSimpArgs false
set_option maxRecDepth 100000
namespace Go.Proofs.YtkjbmbmdmhfbeabDoor
open Go.Eng Go.RowKit
namespace CRSame17
def rc : Rc := ⟨20, [none, none], [.row [.int .i64] 1000000, .row [.int .i64] 1000000], [], .one, [.bool (.ite (.b .eq .i64 (.v 0) (.v 1)) (.f 32 (.v 2) (.v 3) (.v 0)) (.c 0))]⟩
theorem okb : rc.ok = true := by kernel_rfl
noncomputable def us : SMs := fun Γ ins n => smH (cxG n Γ ins) [] (smR (cxG n Γ ins) [])
theorem us_ok : SMsOk us := fun Γ ins n => qXi (tabsG n Γ ins) (qJf _) (qXd (tabsG n Γ ins) (qJh _))
def tree : TT (List E) :=
(.br (.b .ne .i64 (.v 0) (.v 1))
 (.leaf [(.c 0)])
 (.loop ⟨1000, [some (0, 4611686018427387904)], [(.c 0)], 1002⟩
 (.br (.b .lt .i64 (.cl 1000 0 4611686018427387904) (.v 0))
 (.br (.b .lt .i64 (.cl 1000 0 4611686018427387904) (.v 1))
 (.br (.b .ne .i64 (.w .i64 (.f 13 (.v 2) (.cl 1000 0 4611686018427387904) (.c 0))) (.w .i64 (.f 13 (.v 3) (.cl 1000 0 4611686018427387904) (.c 0))))
 (.exit 0)
 (.br (.b .le .i64 (.b .padd .i64 (.cl 1000 0 4611686018427387904) (.c 1)) (.c 4611686018427387904))
 (.back [(.b .padd .i64 (.cl 1000 0 4611686018427387904) (.c 1))])
 (.bad 303)))
 (.bad 200))
 (.exit 1))
 (.br (.b .eq .i64 (.v 1002) (.c 0))
 (.leaf [(.c 0)])
 (.leaf [(.c 1)]))))
def P (n0 n1 c0 c1 r0 r1 : Int) : Prop :=
 (((qQq (n0 != n1)) ≠ 0 →
  ((0 : Int) ≠ 0 ↔ ((iteZ (qQq (n0 == n1)) (qXm c0 c1 n0) 0) : Int) ≠ 0) ∧ True) ∧ ((qQq (n0 != n1)) = 0 →
  ∃ I1000 : Int → Nat → Prop, (∃ m, I1000 0 m) ∧
  ∀ y1000 : Int, ∀ m1000, ((0 ≤ y1000 ∧ y1000 ≤ 4611686018427387904) ∧ True) → I1000 y1000 m1000 →
   (((qQq (decide (y1000 < n0))) ≠ 0 →
    (((qQq (decide (y1000 < n1))) ≠ 0 →
     (((qQq ((IntKind.wrap .i64 (rdZ c0 y1000)) != (IntKind.wrap .i64 (rdZ c1 y1000)))) ≠ 0 →
      (((qQq ((0 : Int) == 0)) ≠ 0 →
       ((0 : Int) ≠ 0 ↔ ((iteZ (qQq (n0 == n1)) (qXm c0 c1 n0) 0) : Int) ≠ 0) ∧ True) ∧ ((qQq ((0 : Int) == 0)) = 0 →
       ((1 : Int) ≠ 0 ↔ ((iteZ (qQq (n0 == n1)) (qXm c0 c1 n0) 0) : Int) ≠ 0) ∧ True))) ∧ ((qQq ((IntKind.wrap .i64 (rdZ c0 y1000)) != (IntKind.wrap .i64 (rdZ c1 y1000)))) = 0 →
      (((qQq (decide ((y1000 + 1) ≤ 4611686018427387904))) ≠ 0 →
       ∃ m', m' < m1000 ∧ I1000 (y1000 + 1) m') ∧ ((qQq (decide ((y1000 + 1) ≤ 4611686018427387904))) = 0 →
       False))))) ∧ ((qQq (decide (y1000 < n1))) = 0 →
     False))) ∧ ((qQq (decide (y1000 < n0))) = 0 →
    (((qQq ((1 : Int) == 0)) ≠ 0 →
     ((0 : Int) ≠ 0 ↔ ((iteZ (qQq (n0 == n1)) (qXm c0 c1 n0) 0) : Int) ≠ 0) ∧ True) ∧ ((qQq ((1 : Int) == 0)) = 0 →
     ((1 : Int) ≠ 0 ↔ ((iteZ (qQq (n0 == n1)) (qXm c0 c1 n0) 0) : Int) ≠ 0) ∧ True))))))
theorem holds (n0 n1 c0 c1 r0 r1 : Int) (l_n0 : 0 ≤ n0) (u_n0 : n0 ≤ 1000000) (l_n1 : 0 ≤ n1) (u_n1 : n1 ≤ 1000000) (h_n0 : n0 ≤ r0) (h_n1 : n1 ≤ r1) : P n0 n1 c0 c1 r0 r1 := by
 unfold P
 simp only [nrm, Int.reduceEq, Int.reduceNeg, reduceIte]
 refine ⟨fun h => by simp [h], fun h => ?_⟩
 subst h
 simp only [if_true]
 have hs := sameZ_iff c0 c1 n0
 refine ⟨fun i m => (∀ k : Nat, (k : Int) < i → IntKind.wrap .i64 (rdZ c0 k) = IntKind.wrap .i64 (rdZ c1 k)) ∧ i ≤ n0 ∧ m = (n0 - i).toNat, ⟨_, fun k hk => by omega, l_n0, rfl⟩, fun i m hb hI => ?_⟩
 obtain ⟨hI, hi, rfl⟩ := hI
 obtain ⟨j, rfl⟩ : ∃ j : Nat, i = j := ⟨i.toNat, by omega⟩
 refine ⟨fun h1 => ⟨fun h2 => ⟨fun h3 => by have : ¬ (qXm c0 c1 n0 ≠ 0) := fun h => h3 (hs.1 h j h1); simp_all, fun h3 => ⟨fun h4 => ⟨_, ?_, fun k hk => ?_, by omega, rfl⟩, fun h4 => by omega⟩⟩, fun h2 => by omega⟩, fun h1 => by have := hs.2 fun k hk => hI k (by omega); simp_all⟩
 ·omega
 ·by_cases e : k = j
  ·subst e; exact h3
  ·exact hI k (by omega)
theorem plain (i v ro p) : statR 2 rc tree ⟨i, fN, v, ro, p⟩ = P (i 0) (i 1) (i 2) (i 3) (i 4) (i 5) := by kernel_rfl
theorem ran : ranR us (fun _ _ => .auto) rc 2 tree = true := by kernel_rfl
theorem fineT : fineR 2 rc tree = true := by kernel_rfl
theorem ok : RcOk (cxOf 2) rc := okR us_ok ran fineT okb fun i v ro p hρ hcap hpre => by rw [plain]; have q := hρ.hi; exact holds _ _ _ _ _ _ (q 0 _ rfl).1 (q 0 _ rfl).2 (q 1 _ rfl).1 (q 1 _ rfl).2 (hcap _ (mg 0 rfl)) (hcap _ (mg 1 rfl))
end CRSame17
namespace CAwake22
def rc : Rc := ⟨5, [], [], [], .one, [.bool (.c 1)]⟩
theorem okb : rc.ok = true := by kernel_rfl
noncomputable def us : SMs := fun Γ ins n => smH (cxG n Γ ins) [] (smR (cxG n Γ ins) [CIPut.rc, CIGet.rc, CICheck.rc, CRWords.rc, CRSame15.rc, CRBools.rc, CRSame17.rc])
theorem us_ok : SMsOk us := fun Γ ins n => qXi (tabsG n Γ ins) (qJf _) (qXd (tabsG n Γ ins) (qQs CIPut.okb (rc_n CIPut.ok) (qQs CIGet.okb (rc_n CIGet.ok) (qQs CICheck.okb (rc_n CICheck.ok) (qQs CRWords.okb (rc_n CRWords.ok) (qQs CRSame15.okb (rc_n CRSame15.ok) (qQs CRBools.okb (rc_n CRBools.ok) (qQs CRSame17.okb (rc_n CRSame17.ok) (qJh _)))))))))
def Q0 : E := (tC (.c 0) (.c 0))
def Q1 : E := (tC (.c 0) Q0)
def Q2 : E := (tC (.c 0) Q1)
def Q3 : E := (tC (.c 0) Q2)
def Q4 : E := (tC (.c 0) Q3)
def Q5 : E := (.f 84 (.c 0) (.c 0) Q4)
def Q6 : E := (te Q5 (.c 0))
def Q7 : E := (.f 124 (.c 0) (.c 0) Q1)
def Q8 : E := (.ite Q6 Q7 (.c 0))
def Q9 : E := (tC (.c 0) Q4)
def Q10 : E := (tC (.c 0) Q9)
def Q11 : E := (.f 125 (.c 0) (.c 0) Q10)
def Q12 : E := (.f 127 Q11 Q8 (.c 0))
def Q13 : E := (.f 127 Q11 Q8 (.c 1))
def Q14 : E := (.f 127 Q11 Q8 (.c 2))
def Q15 : E := (.f 127 Q11 Q8 (.c 3))
def Q16 : E := (.f 127 Q11 Q8 (.c 4))
def tree : TT (List E) :=
 (.new 1000 Q5 (.br (tl (.c 0) Q8) (.br (tl Q8 (.c 900000)) (.new 1001 (.f 126 Q11 Q8 (.c 0)) (.br (te Q8 (.c 12)) (.br (te (.cl 1000 0 9) (.c 0)) (.br (te (.cl 1001 0 9) (.c 0)) (.br (tl (.c 0) Q12) (.br (tl Q12 (.c 1000000)) (.new 1002 (.ite (te Q12 (.c 0)) (.f 72 (.f 128 Q11 (.c 0) (.c 0)) (.c 0) Q12) (.c 0)) (.br (.cl 1002 0 1) (.br (tl (.c 0) Q13) (.br (tl Q13 (.c 1000000)) (.new 1003 (.ite (te Q13 (.c 0)) (.f 72 (.f 128 Q11 (.c 1) (.c 0)) (.c 0) Q13) (.c 0)) (.br (.cl 1003 0 1) (.br (tl (.c 0) Q14) (.br (tl Q14 (.c 1000000)) (.br (.ite (te Q14 (.c 0)) (.f 62 (.f 128 Q11 (.c 2) (.c 0)) (.c 0) Q14) (.c 0)) (.br (tl (.c 0) Q15) (.br (tl Q15 (.c 1000000)) (.new 1004 (.ite (te Q15 (.c 0)) (.f 32 (.f 128 Q11 (.c 3) (.c 0)) (.c 0) Q15) (.c 0)) (.br (.cl 1004 0 1) (.br (tl (.c 0) Q16) (.br
 (tl Q16 (.c 1000000)) (.new 1005 (.ite (te Q16 (.c 0)) (.f 32 (.f 128 Q11 (.c 4) (.c 0)) (.c 0) Q16) (.c 0)) (.br (.cl 1005 0 1) (.new 1006 (.f 84 (.c 0) (.c 1) Q4) (.leaf [(te (.cl 1006 0 9) (.c 2))])) (.leaf [(.c 0)]))) (.bad 200)) (.bad 200)) (.leaf [(.c 0)]))) (.bad 200)) (.bad 200)) (.leaf [(.c 0)])) (.bad 200)) (.bad 200)) (.leaf [(.c 0)]))) (.bad 200)) (.bad 200)) (.leaf [(.c 0)]))) (.bad 200)) (.bad 200)) (.leaf [(.c 0)])) (.leaf [(.c 0)])) (.leaf [(.c 0)]))) (.bad 200)) (.bad 200)))
noncomputable def sq0 : Int := (iteZ (Pe (chkZ 0 0 (kZ 0 (kZ 0 (kZ 0 (kZ 0 (kZ 0 0)))))) 0) (putN 0 0 (kZ 0 (kZ 0 0))) 0)
noncomputable def sq1 : Int := (putZ 0 0 (kZ 0 (kZ 0 (kZ 0 (kZ 0 (kZ 0 (kZ 0 (kZ 0 0))))))))
def P : Prop :=
 Pn (chkZ 0 0 (kZ 0 (kZ 0 (kZ 0 (kZ 0 (kZ 0 0)))))) 0 9 fun y0 => (Pm (PL 0 sq0) (Pm (PL sq0 900000) (Pn (gtE sq1 sq0) 0 9 fun y1 => (Pb (Pe sq0 12) (Pb (Pe y0 0) (Pb (Pe y1 0) (Pm (PL 0 (gtN sq1 sq0 0)) (Pm (PL (gtN sq1 sq0 0) 1000000) (Pn (iteZ (Pe (gtN sq1 sq0 0) 0) (qJq (gtC sq1 0) 0 (gtN sq1 sq0 0)) 0) 0 1 fun y2 => (Pb y2 (Pm (PL 0 (gtN sq1 sq0 1)) (Pm (PL (gtN sq1 sq0 1) 1000000) (Pn (iteZ (Pe (gtN sq1 sq0 1) 0) (qJq (gtC sq1 1) 0 (gtN sq1 sq0 1)) 0) 0 1 fun y3 => (Pb y3 (Pm (PL 0 (gtN sq1 sq0 2)) (Pm (PL (gtN sq1 sq0 2) 1000000) (Pb (iteZ (Pe (gtN sq1 sq0 2) 0) (sameB (gtC sq1 2) 0 (gtN sq1 sq0 2)) 0) (Pm (PL 0 (gtN sq1 sq0 3)) (Pm (PL (gtN sq1 sq0 3) 1000000) (Pn (iteZ (Pe (gtN sq1 sq0 3) 0) (qXm (gtC sq1 3) 0 (gtN sq1 sq0 3)) 0) 0 1 fun y4 => (Pb y4 (Pm (PL 0 (gtN sq1 sq0
 4)) (Pm (PL (gtN sq1 sq0 4) 1000000) (Pn (iteZ (Pe (gtN sq1 sq0 4) 0) (qXm (gtC sq1 4) 0 (gtN sq1 sq0 4)) 0) 0 1 fun y5 => (Pb y5 (Pn (chkZ 0 1 (kZ 0 (kZ 0 (kZ 0 (kZ 0 (kZ 0 0)))))) 0 9 fun y6 => ((((Pe y6 2) : Int) ≠ 0 ↔ (1 : Int) ≠ 0) ∧ True)) Pf)))) Pf)))) Pf))) Pf)))) Pf)))) Pf) Pf) Pf))))
theorem holds : P := by
 delta P sq0 sq1 Pb Pm Pn Pf PL Pe kZ
 simp only [nrm, nro, Int.reduceEq, Int.reduceNeg, reduceIte]
 simp only [chk_ev, putN_ev, putZ_ev]
 have hchk : chk7 0 0 0 0 0 0 0 = 0 := (chk_ok (by decide) rfl (fun i hi => by omega) (fun i hi => by omega) (fun ⟨i, k, h1, h2, _⟩ => by omega)).symm
 obtain ⟨pE, p0, p1, p2, p3, p4, _⟩ := put_get (cC := 0) (cD := 0) (cS := 0) (cI := 0) (cO := 0) hchk (by decide) (by decide) (by decide) (by decide)
 have hw : ∀ c d : Int, ¬ qJq c d 0 = 0 := fun c d => by rw [sameW_one fun j h0 h1 => by omega]; decide
 have hb : ∀ c d : Int, ¬ sameB c d 0 = 0 := fun c d => by unfold sameB; rw [if_pos fun i hi => by omega]; decide
 have hz : ∀ c d : Int, ¬ qXm c d 0 = 0 := fun c d => (sameZ_iff c d 0).2 fun i hi => by omega
 rw [if_pos hchk]
 rintro y0 h0 _
 rw [hchk] at h0
 refine ⟨by decide, by decide, ?_⟩
 rintro y1 h1 _
 rw [pE] at h1
 rw [p0, p1, p2, p3, p4]
 simp only [if_true]
 refine ⟨by decide, h0, h1, by decide, by decide, ?_⟩
 rintro _ rfl _
 refine ⟨hw _ _, by decide, by decide, ?_⟩
 rintro _ rfl _
 refine ⟨hw _ _, by decide, by decide, hb _ _, by decide, by decide, ?_⟩
 rintro _ rfl _
 refine ⟨hz _ _, by decide, by decide, ?_⟩
 rintro _ rfl _
 refine ⟨hz _ _, ?_⟩
 rintro _ rfl _
 exact (chk_arg (by decide) (.inl (by decide))).symm
theorem plain (i v ro p) : statR 2 rc tree ⟨i, fN, v, ro, p⟩ = P  := by kernel_rfl
theorem ran : ranR us (fun _ _ => .auto) rc 2 tree = true := by kernel_rfl
theorem fineT : fineR 2 rc tree = true := by kernel_rfl
theorem ok : RcOk (cxOf 2) rc := okR us_ok ran fineT okb fun i v ro p hρ hcap hpre => by rw [plain]; have q := hρ.hi; exact holds
end CAwake22
end Go.Proofs.YtkjbmbmdmhfbeabDoor
