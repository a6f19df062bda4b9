/-
  What functions of the program answer, as numbers of what they are handed: their runs by the engine, the plain statements behind them. No condition.
-/
import Derived.Test.YtkjbmbmdmhfbeacDoorKa
import Derived.Test.YtkjbmbmdmhfbeacDoorKb
import Derived.Test.YtkjbmbmdmhfbeacDoorGab
import Derived.Test.YtkjbmbmdmhfbeacDoorGp1
import Derived.Test.YtkjbmbmdmhfbeacDoorGp4
import Derived.Test.YtkjbmbmdmhfbeacDoorGp2
set_option linter.unusedVariables false
set_option linter.unusedSimpArgs false
set_option maxRecDepth 100000
namespace Go.Proofs.YtkjbmbmdmhfbeacDoor
open Go.Eng Go.RowKit
namespace CRSame17
def rc : Rc := ⟨22, [none, none], [.row [.int .i64] 1000000, .row [.int .i64] 1000000], [], .one, [.bool (.ite (.b .eq .i64 (.v 0) (.v 1)) (.f 32 (.v 2) (.v 3) (.v 0)) (.c 0))]⟩
theorem okb : rc.ok = true := by kernel_rfl
noncomputable def us : SMs := fun Γ ins n => smH (cxG n Γ ins) [] (smR (cxG n Γ ins) [])
theorem us_ok : SMsOk us := fun Γ ins n => qZu (tabsG n Γ ins) (qZa _) (qZs (tabsG n Γ ins) (qZb _))
def tree : TT (List E) :=
(.br (.b .ne .i64 (.v 0) (.v 1))
 (.leaf [(.c 0)])
 (.loop ⟨1000, [some (0, 4611686018427387904)], [(.c 0)], 1002⟩
 (.br (.b .lt .i64 (.cl 1000 0 4611686018427387904) (.v 0))
 (.br (.b .lt .i64 (.cl 1000 0 4611686018427387904) (.v 1))
 (.br (.b .ne .i64 (.w .i64 (.f 13 (.v 2) (.cl 1000 0 4611686018427387904) (.c 0))) (.w .i64 (.f 13 (.v 3) (.cl 1000 0 4611686018427387904) (.c 0))))
 (.exit 0)
 (.br (.b .le .i64 (.b .padd .i64 (.cl 1000 0 4611686018427387904) (.c 1)) (.c 4611686018427387904))
 (.back [(.b .padd .i64 (.cl 1000 0 4611686018427387904) (.c 1))])
 (.bad 303)))
 (.bad 200))
 (.exit 1))
 (.br (.b .eq .i64 (.v 1002) (.c 0))
 (.leaf [(.c 0)])
 (.leaf [(.c 1)]))))
def P (n0 n1 c0 c1 r0 r1 : Int) : Prop :=
 (((qQq (n0 != n1)) ≠ 0 →
  ((0 : Int) ≠ 0 ↔ ((iteZ (qQq (n0 == n1)) (qKc c0 c1 n0) 0) : Int) ≠ 0) ∧ True) ∧ ((qQq (n0 != n1)) = 0 →
  ∃ I1000 : Int → Nat → Prop, (∃ m, I1000 0 m) ∧
  ∀ y1000 : Int, ∀ m1000, ((0 ≤ y1000 ∧ y1000 ≤ 4611686018427387904) ∧ True) → I1000 y1000 m1000 →
   (((qQq (decide (y1000 < n0))) ≠ 0 →
    (((qQq (decide (y1000 < n1))) ≠ 0 →
     (((qQq ((IntKind.wrap .i64 (rdZ c0 y1000)) != (IntKind.wrap .i64 (rdZ c1 y1000)))) ≠ 0 →
      (((qQq ((0 : Int) == 0)) ≠ 0 →
       ((0 : Int) ≠ 0 ↔ ((iteZ (qQq (n0 == n1)) (qKc c0 c1 n0) 0) : Int) ≠ 0) ∧ True) ∧ ((qQq ((0 : Int) == 0)) = 0 →
       ((1 : Int) ≠ 0 ↔ ((iteZ (qQq (n0 == n1)) (qKc c0 c1 n0) 0) : Int) ≠ 0) ∧ True))) ∧ ((qQq ((IntKind.wrap .i64 (rdZ c0 y1000)) != (IntKind.wrap .i64 (rdZ c1 y1000)))) = 0 →
      (((qQq (decide ((y1000 + 1) ≤ 4611686018427387904))) ≠ 0 →
       ∃ m', m' < m1000 ∧ I1000 (y1000 + 1) m') ∧ ((qQq (decide ((y1000 + 1) ≤ 4611686018427387904))) = 0 →
       False))))) ∧ ((qQq (decide (y1000 < n1))) = 0 →
     False))) ∧ ((qQq (decide (y1000 < n0))) = 0 →
    (((qQq ((1 : Int) == 0)) ≠ 0 →
     ((0 : Int) ≠ 0 ↔ ((iteZ (qQq (n0 == n1)) (qKc c0 c1 n0) 0) : Int) ≠ 0) ∧ True) ∧ ((qQq ((1 : Int) == 0)) = 0 →
     ((1 : Int) ≠ 0 ↔ ((iteZ (qQq (n0 == n1)) (qKc c0 c1 n0) 0) : Int) ≠ 0) ∧ True))))))
theorem holds (n0 n1 c0 c1 r0 r1 : Int) (l_n0 : 0 ≤ n0) (u_n0 : n0 ≤ 1000000) (l_n1 : 0 ≤ n1) (u_n1 : n1 ≤ 1000000) (h_n0 : n0 ≤ r0) (h_n1 : n1 ≤ r1) : P n0 n1 c0 c1 r0 r1 := by
 unfold P
 simp only [nrm, Int.reduceEq, Int.reduceNeg, reduceIte]
 refine ⟨fun h => by simp [h], fun h => ?_⟩
 subst h
 simp only [if_true]
 have hs := sameZ_iff c0 c1 n0
 refine ⟨fun i m => (∀ k : Nat, (k : Int) < i → IntKind.wrap .i64 (rdZ c0 k) = IntKind.wrap .i64 (rdZ c1 k)) ∧ i ≤ n0 ∧ m = (n0 - i).toNat, ⟨_, fun k hk => by omega, l_n0, rfl⟩, fun i m hb hI => ?_⟩
 obtain ⟨hI, hi, rfl⟩ := hI
 obtain ⟨j, rfl⟩ : ∃ j : Nat, i = j := ⟨i.toNat, by omega⟩
 refine ⟨fun h1 => ⟨fun h2 => ⟨fun h3 => by have : ¬ (qKc c0 c1 n0 ≠ 0) := fun h => h3 (hs.1 h j h1); simp_all, fun h3 => ⟨fun h4 => ⟨_, ?_, fun k hk => ?_, by omega, rfl⟩, fun h4 => by omega⟩⟩, fun h2 => by omega⟩, fun h1 => by have := hs.2 fun k hk => hI k (by omega); simp_all⟩
 ·omega
 ·by_cases e : k = j
  ·subst e; exact h3
  ·exact hI k (by omega)
theorem plain (i v ro p) : statR 2 rc tree ⟨i, fN, v, ro, p⟩ = P (i 0) (i 1) (i 2) (i 3) (i 4) (i 5) := by kernel_rfl
theorem ran : ranR us (fun _ _ => .auto) rc 2 tree = true := by kernel_rfl
theorem fineT : fineR 2 rc tree = true := by kernel_rfl
theorem ok : RcOk (cxOf 2) rc := okR us_ok ran fineT okb fun i v ro p hρ hcap hpre => by rw [plain]; have q := hρ.hi; exact holds _ _ _ _ _ _ (q 0 _ rfl).1 (q 0 _ rfl).2 (q 1 _ rfl).1 (q 1 _ rfl).2 (hcap _ (mg 0 rfl)) (hcap _ (mg 1 rfl))
end CRSame17
namespace CAwake22
def rc : Rc := ⟨5, [], [], [], .one, [.bool (.c 1)]⟩
theorem okb : rc.ok = true := by kernel_rfl
noncomputable def us : SMs := fun Γ ins n => smH (cxG n Γ ins) [] (smR (cxG n Γ ins) [CIPut.rc, CIGet.rc, CICheck.rc, CRWords.rc, CRSame15.rc, CRBools.rc, CRSame17.rc])
theorem us_ok : SMsOk us := fun Γ ins n => qZu (tabsG n Γ ins) (qZa _) (qZs (tabsG n Γ ins) (qQg CIPut.okb (rc_n CIPut.ok) (qQg CIGet.okb (rc_n CIGet.ok) (qQg CICheck.okb (rc_n CICheck.ok) (qQg CRWords.okb (rc_n CRWords.ok) (qQg CRSame15.okb (rc_n CRSame15.ok) (qQg CRBools.okb (rc_n CRBools.ok) (qQg CRSame17.okb (rc_n CRSame17.ok) (qZb _)))))))))
def Q0 : E := (tC (.c 0) (.c 0))
def Q1 : E := (tC (.c 0) Q0)
def Q2 : E := (tC (.c 0) Q1)
def Q3 : E := (tC (.c 0) Q2)
def Q4 : E := (tC (.c 0) Q3)
def Q5 : E := (.f 84 (.c 0) (.c 0) Q4)
def Q6 : E := (te Q5 (.c 0))
def Q7 : E := (.f 124 (.c 0) (.c 0) Q1)
def Q8 : E := (.ite Q6 Q7 (.c 0))
def Q9 : E := (tC (.c 0) Q4)
def Q10 : E := (tC (.c 0) Q9)
def Q11 : E := (.f 125 (.c 0) (.c 0) Q10)
def Q12 : E := (.f 127 Q11 Q8 (.c 0))
def Q13 : E := (.f 127 Q11 Q8 (.c 1))
def Q14 : E := (.f 127 Q11 Q8 (.c 2))
def Q15 : E := (.f 127 Q11 Q8 (.c 3))
def Q16 : E := (.f 127 Q11 Q8 (.c 4))
def tree : TT (List E) :=
 (.new 1000 Q5 (.br (tl (.c 0) Q8) (.br (tl Q8 (.c 900000)) (.new 1001 (.f 126 Q11 Q8 (.c 0)) (.br (te Q8 (.c 12)) (.br (te (.cl 1000 0 9) (.c 0)) (.br (te (.cl 1001 0 9) (.c 0)) (.br (tl (.c 0) Q12) (.br (tl Q12 (.c 1000000)) (.new 1002 (.ite (te Q12 (.c 0)) (.f 72 (.f 128 Q11 (.c 0) (.c 0)) (.c 0) Q12) (.c 0)) (.br (.cl 1002 0 1) (.br (tl (.c 0) Q13) (.br (tl Q13 (.c 1000000)) (.new 1003 (.ite (te Q13 (.c 0)) (.f 72 (.f 128 Q11 (.c 1) (.c 0)) (.c 0) Q13) (.c 0)) (.br (.cl 1003 0 1) (.br (tl (.c 0) Q14) (.br (tl Q14 (.c 1000000)) (.br (.ite (te Q14 (.c 0)) (.f 62 (.f 128 Q11 (.c 2) (.c 0)) (.c 0) Q14) (.c 0)) (.br (tl (.c 0) Q15) (.br (tl Q15 (.c 1000000)) (.new 1004 (.ite (te Q15 (.c 0)) (.f 32 (.f 128 Q11 (.c 3) (.c 0)) (.c 0) Q15) (.c 0)) (.br (.cl 1004 0 1) (.br (tl (.c 0) Q16) (.br
 (tl Q16 (.c 1000000)) (.new 1005 (.ite (te Q16 (.c 0)) (.f 32 (.f 128 Q11 (.c 4) (.c 0)) (.c 0) Q16) (.c 0)) (.br (.cl 1005 0 1) (.new 1006 (.f 84 (.c 0) (.c 1) Q4) (.leaf [(te (.cl 1006 0 9) (.c 2))])) (.leaf [(.c 0)]))) (.bad 200)) (.bad 200)) (.leaf [(.c 0)]))) (.bad 200)) (.bad 200)) (.leaf [(.c 0)])) (.bad 200)) (.bad 200)) (.leaf [(.c 0)]))) (.bad 200)) (.bad 200)) (.leaf [(.c 0)]))) (.bad 200)) (.bad 200)) (.leaf [(.c 0)])) (.leaf [(.c 0)])) (.leaf [(.c 0)]))) (.bad 200)) (.bad 200)))
noncomputable def sq0 : Int := (iteZ (Pe (chkZ 0 0 (kZ 0 (kZ 0 (kZ 0 (kZ 0 (kZ 0 0)))))) 0) (putN 0 0 (kZ 0 (kZ 0 0))) 0)
noncomputable def sq1 : Int := (putZ 0 0 (kZ 0 (kZ 0 (kZ 0 (kZ 0 (kZ 0 (kZ 0 (kZ 0 0))))))))
def P : Prop :=
 Pn (chkZ 0 0 (kZ 0 (kZ 0 (kZ 0 (kZ 0 (kZ 0 0)))))) 0 9 fun y0 => (Pm (PL 0 sq0) (Pm (PL sq0 900000) (Pn (gtE sq1 sq0) 0 9 fun y1 => (Pb (Pe sq0 12) (Pb (Pe y0 0) (Pb (Pe y1 0) (Pm (PL 0 (gtN sq1 sq0 0)) (Pm (PL (gtN sq1 sq0 0) 1000000) (Pn (iteZ (Pe (gtN sq1 sq0 0) 0) (qJp (gtC sq1 0) 0 (gtN sq1 sq0 0)) 0) 0 1 fun y2 => (Pb y2 (Pm (PL 0 (gtN sq1 sq0 1)) (Pm (PL (gtN sq1 sq0 1) 1000000) (Pn (iteZ (Pe (gtN sq1 sq0 1) 0) (qJp (gtC sq1 1) 0 (gtN sq1 sq0 1)) 0) 0 1 fun y3 => (Pb y3 (Pm (PL 0 (gtN sq1 sq0 2)) (Pm (PL (gtN sq1 sq0 2) 1000000) (Pb (iteZ (Pe (gtN sq1 sq0 2) 0) (sameB (gtC sq1 2) 0 (gtN sq1 sq0 2)) 0) (Pm (PL 0 (gtN sq1 sq0 3)) (Pm (PL (gtN sq1 sq0 3) 1000000) (Pn (iteZ (Pe (gtN sq1 sq0 3) 0) (qKc (gtC sq1 3) 0 (gtN sq1 sq0 3)) 0) 0 1 fun y4 => (Pb y4 (Pm (PL 0 (gtN sq1 sq0
 4)) (Pm (PL (gtN sq1 sq0 4) 1000000) (Pn (iteZ (Pe (gtN sq1 sq0 4) 0) (qKc (gtC sq1 4) 0 (gtN sq1 sq0 4)) 0) 0 1 fun y5 => (Pb y5 (Pn (chkZ 0 1 (kZ 0 (kZ 0 (kZ 0 (kZ 0 (kZ 0 0)))))) 0 9 fun y6 => ((((Pe y6 2) : Int) ≠ 0 ↔ (1 : Int) ≠ 0) ∧ True)) Pf)))) Pf)))) Pf))) Pf)))) Pf)))) Pf) Pf) Pf))))
theorem holds : P := by
 delta P sq0 sq1 Pb Pm Pn Pf PL Pe kZ
 simp only [nrm, nro, Int.reduceEq, Int.reduceNeg, reduceIte]
 simp only [chk_ev, putN_ev, putZ_ev]
 have hchk : chk7 0 0 0 0 0 0 0 = 0 := (chk_ok (by decide) rfl (fun i hi => by omega) (fun i hi => by omega) (fun ⟨i, k, h1, h2, _⟩ => by omega)).symm
 obtain ⟨pE, p0, p1, p2, p3, p4, _⟩ := put_get (cC := 0) (cD := 0) (cS := 0) (cI := 0) (cO := 0) hchk (by decide) (by decide) (by decide) (by decide)
 have hw : ∀ c d : Int, ¬ qJp c d 0 = 0 := fun c d => by rw [sameW_one fun j h0 h1 => by omega]; decide
 have hb : ∀ c d : Int, ¬ sameB c d 0 = 0 := fun c d => by unfold sameB; rw [if_pos fun i hi => by omega]; decide
 have hz : ∀ c d : Int, ¬ qKc c d 0 = 0 := fun c d => (sameZ_iff c d 0).2 fun i hi => by omega
 rw [if_pos hchk]
 rintro y0 h0 _
 rw [hchk] at h0
 refine ⟨by decide, by decide, ?_⟩
 rintro y1 h1 _
 rw [pE] at h1
 rw [p0, p1, p2, p3, p4]
 simp only [if_true]
 refine ⟨by decide, h0, h1, by decide, by decide, ?_⟩
 rintro _ rfl _
 refine ⟨hw _ _, by decide, by decide, ?_⟩
 rintro _ rfl _
 refine ⟨hw _ _, by decide, by decide, hb _ _, by decide, by decide, ?_⟩
 rintro _ rfl _
 refine ⟨hz _ _, by decide, by decide, ?_⟩
 rintro _ rfl _
 refine ⟨hz _ _, ?_⟩
 rintro _ rfl _
 exact (chk_arg (by decide) (.inl (by decide))).symm
theorem plain (i v ro p) : statR 2 rc tree ⟨i, fN, v, ro, p⟩ = P  := by kernel_rfl
theorem ran : ranR us (fun _ _ => .auto) rc 2 tree = true := by kernel_rfl
theorem fineT : fineR 2 rc tree = true := by kernel_rfl
theorem ok : RcOk (cxOf 2) rc := okR us_ok ran fineT okb fun i v ro p hρ hcap hpre => by rw [plain]; have q := hρ.hi; exact holds
end CAwake22
namespace CRAddrs
def rc : Rc := ⟨31, [none, none], [.row [.int .i64] 1000000, .int .i64], [], .one, [.bool (.f 85 (.v 2) (.v 0) (.v 1))]⟩
theorem okb : rc.ok = true := by kernel_rfl
noncomputable def us : SMs := fun Γ ins n => smH (cxG n Γ ins) [] (smR (cxG n Γ ins) [])
theorem us_ok : SMsOk us := fun Γ ins n => qZu (tabsG n Γ ins) (qZa _) (qZs (tabsG n Γ ins) (qZb _))
def tree : TT (List E) :=
(.loop ⟨1000, [some (0, 4611686018427387904)], [(.c 0)], 1002⟩
 (.br (.b .lt .i64 (.cl 1000 0 4611686018427387904) (.v 0))
 (.br (.b .lt .i64 (.w .i64 (.f 13 (.v 2) (.cl 1000 0 4611686018427387904) (.c 0))) (.c 0))
 (.exit 0)
 (.br (.b .le .i64 (.v 1) (.w .i64 (.f 13 (.v 2) (.cl 1000 0 4611686018427387904) (.c 0))))
 (.exit 1)
 (.br (.b .le .i64 (.b .padd .i64 (.cl 1000 0 4611686018427387904) (.c 1)) (.c 4611686018427387904))
 (.back [(.b .padd .i64 (.cl 1000 0 4611686018427387904) (.c 1))])
 (.bad 303))))
 (.exit 2))
 (.br (.b .eq .i64 (.v 1002) (.c 0))
 (.leaf [(.c 0)])
 (.br (.b .eq .i64 (.v 1002) (.c 1))
 (.leaf [(.c 0)])
 (.leaf [(.c 1)]))))
def P (n0 p1 c0 r0 : Int) : Prop :=
 ∃ I1000 : Int → Nat → Prop, (∃ m, I1000 0 m) ∧
 ∀ y1000 : Int, ∀ m1000, ((0 ≤ y1000 ∧ y1000 ≤ 4611686018427387904) ∧ True) → I1000 y1000 m1000 →
  (((qQq (decide (y1000 < n0))) ≠ 0 →
   (((qQq (decide ((IntKind.wrap .i64 (rdZ c0 y1000)) < 0))) ≠ 0 →
    (((qQq ((0 : Int) == 0)) ≠ 0 →
     ((0 : Int) ≠ 0 ↔ ((adZ c0 n0 p1) : Int) ≠ 0) ∧ True) ∧ ((qQq ((0 : Int) == 0)) = 0 →
     (((qQq ((0 : Int) == 1)) ≠ 0 →
      ((0 : Int) ≠ 0 ↔ ((adZ c0 n0 p1) : Int) ≠ 0) ∧ True) ∧ ((qQq ((0 : Int) == 1)) = 0 →
      ((1 : Int) ≠ 0 ↔ ((adZ c0 n0 p1) : Int) ≠ 0) ∧ True))))) ∧ ((qQq (decide ((IntKind.wrap .i64 (rdZ c0 y1000)) < 0))) = 0 →
    (((qQq (decide (p1 ≤ (IntKind.wrap .i64 (rdZ c0 y1000))))) ≠ 0 →
     (((qQq ((1 : Int) == 0)) ≠ 0 →
      ((0 : Int) ≠ 0 ↔ ((adZ c0 n0 p1) : Int) ≠ 0) ∧ True) ∧ ((qQq ((1 : Int) == 0)) = 0 →
      (((qQq ((1 : Int) == 1)) ≠ 0 →
       ((0 : Int) ≠ 0 ↔ ((adZ c0 n0 p1) : Int) ≠ 0) ∧ True) ∧ ((qQq ((1 : Int) == 1)) = 0 →
       ((1 : Int) ≠ 0 ↔ ((adZ c0 n0 p1) : Int) ≠ 0) ∧ True))))) ∧ ((qQq (decide (p1 ≤ (IntKind.wrap .i64 (rdZ c0 y1000))))) = 0 →
     (((qQq (decide ((y1000 + 1) ≤ 4611686018427387904))) ≠ 0 →
      ∃ m', m' < m1000 ∧ I1000 (y1000 + 1) m') ∧ ((qQq (decide ((y1000 + 1) ≤ 4611686018427387904))) = 0 →
      False))))))) ∧ ((qQq (decide (y1000 < n0))) = 0 →
   (((qQq ((2 : Int) == 0)) ≠ 0 →
    ((0 : Int) ≠ 0 ↔ ((adZ c0 n0 p1) : Int) ≠ 0) ∧ True) ∧ ((qQq ((2 : Int) == 0)) = 0 →
    (((qQq ((2 : Int) == 1)) ≠ 0 →
     ((0 : Int) ≠ 0 ↔ ((adZ c0 n0 p1) : Int) ≠ 0) ∧ True) ∧ ((qQq ((2 : Int) == 1)) = 0 →
     ((1 : Int) ≠ 0 ↔ ((adZ c0 n0 p1) : Int) ≠ 0) ∧ True))))))
theorem holds (n0 p1 c0 r0 : Int) (l_n0 : 0 ≤ n0) (u_n0 : n0 ≤ 1000000) (l_p1 : -9223372036854775808 ≤ p1) (u_p1 : p1 ≤ 9223372036854775807) (h_n0 : n0 ≤ r0) : P n0 p1 c0 r0 := by
 unfold P
 simp only [nrm, nro, Int.reduceEq, Int.reduceNeg, reduceIte]
 refine ⟨fun i m => adP c0 i p1 ∧ i ≤ n0 ∧ m = (n0 - i).toNat, ⟨_, ad_nil, l_n0, rfl⟩, fun i m hb hI => ?_⟩
 obtain ⟨hA, hi, rfl⟩ := hI
 refine ⟨fun h => ⟨fun h1 => adZ_eq.2 (ad_no hb.1 h (.inl h1)), fun h1 => ⟨fun h2 => adZ_eq.2 (ad_no hb.1 h (.inr h2)), fun h2 => ⟨by omega, _, ?_, ad_snoc hb.1 hA h1 h2, by omega, rfl⟩⟩⟩, fun h => ?_⟩
 ·omega
 ·have e : i = n0 := by omega
  subst e
  exact adZ_ne.2 hA
theorem plain (i v ro p) : statR 2 rc tree ⟨i, fN, v, ro, p⟩ = P (i 0) (i 1) (i 2) (i 3) := by kernel_rfl
theorem ran : ranR us (fun _ _ => .auto) rc 2 tree = true := by kernel_rfl
theorem fineT : fineR 2 rc tree = true := by kernel_rfl
theorem ok : RcOk (cxOf 2) rc := okR us_ok ran fineT okb fun i v ro p hρ hcap hpre => by rw [plain]; have q := hρ.hi; exact holds _ _ _ _ (q 0 _ rfl).1 (q 0 _ rfl).2 (q 1 _ rfl).1 (q 1 _ rfl).2 (hcap _ (mg 0 rfl))
end CRAddrs
namespace CRICheck
def rc : Rc := ⟨12, [some 5], [.row [.int .u32] 1000000, .row [.int .i32] 1000000, .row [.bool] 1000000, .row [.int .i64] 1000000, .row [.int .i64] 1000000], [], .one, [.int .i64 (.f 84 (.v 0) (.v 1) (qZx [(.v 2), (.v 3), (.v 4), (.v 8), (.v 9)]))]⟩
theorem okb : rc.ok = true := by kernel_rfl
noncomputable def us : SMs := fun Γ ins n => smH (cxG n Γ ins) [] (smR (cxG n Γ ins) [CRAddrs.rc])
theorem us_ok : SMsOk us := fun Γ ins n => qZu (tabsG n Γ ins) (qZa _) (qZs (tabsG n Γ ins) (qQg CRAddrs.okb (rc_n CRAddrs.ok) (qZb _)))
def Q0 : E := (.cl 1000 0 4611686018427387904)
def Q1 : E := (.cl 1002 0 4611686018427387904)
def Q2 : E := (tp Q1 (.c 1))
def Q3 : E := (tp Q0 (.c 1))
def tree : TT (List E) :=
 (.br (tk (.c 16384) (.v 0)) (.leaf [(.c 5)]) (.br (tk (.c 2048) (.v 1)) (.leaf [(.c 5)]) (.br (tk (.c 255) (.v 3)) (.leaf [(.c 5)]) (.br (tk (.c 255) (.v 4)) (.leaf [(.c 5)]) (.br (tn (.v 2) (.v 1)) (.leaf [(.c 2)]) (.br (tl (.v 3) (.v 13)) (.br (.nt (.f 85 (.v 8) (.v 3) (.v 1))) (.leaf [(.c 2)]) (.br (tl (.v 4) (.v 14)) (.br (.nt (.f 85 (.v 9) (.v 4) (.v 1))) (.leaf [(.c 2)]) (.loop ⟨1000, [some (0, 4611686018427387904)], [(.c 0)], 1005⟩ (.br (tk Q0 (.v 3)) (.loop ⟨1002, [some (0, 4611686018427387904)], [(.c 0)], 1004⟩ (.br (tk Q1 Q0) (.br (tk Q1 (.v 3)) (.br (te (t6 (tR (.v 8) Q0)) (t6 (tR (.v 8) Q1))) (.exit 0) (.br (tl Q2 (.c 4611686018427387904)) (.back [Q2]) (.bad 303))) (.bad 200)) (.exit 1)) (.br (te (.v 1004) (.c 0)) (.exit 0) (.br (tl Q3 (.c 4611686018427387904)) (.back [Q3])
 (.bad 303)))) (.exit 1)) (.br (te (.v 1005) (.c 0)) (.leaf [(.c 9)]) (.leaf [(.c 0)])))) (.bad 200))) (.bad 200)))))))
noncomputable def sq0 (a b c d e i j : Int) : Int := (chkZ a b (kZ c (kZ d (kZ e (kZ i (kZ j 0))))))
def P (a b c d e f g h i j k l n o p : Int) : Prop :=
 (Pb (Pl 16384 a) ((5 : Int) = (sq0 a b c d e i j) ∧ True) (Pb (Pl 2048 b) ((5 : Int) = (sq0 a b c d e i j) ∧ True) (Pb (Pl 255 d) ((5 : Int) = (sq0 a b c d e i j) ∧ True) (Pb (Pl 255 e) ((5 : Int) = (sq0 a b c d e i j) ∧ True) (Pb (Pd c b) ((2 : Int) = (sq0 a b c d e i j) ∧ True) (Pm (PL d o) (Pb (Pe (adZ i d b) 0) ((2 : Int) = (sq0 a b c d e i j) ∧ True) (Pm (PL e p) (Pb (Pe (adZ j e b) 0) ((2 : Int) = (sq0 a b c d e i j) ∧ True) (∃ I1000 : Int → Nat → Prop, (∃ m, I1000 0 m) ∧ ∀ y0 : Int, ∀ m0, ((0 ≤ y0 ∧ y0 ≤ 4611686018427387904) ∧ True) → I1000 y0 m0 → (Pb (Pl y0 d) (∃ I1002 : Int → Nat → Prop, (∃ m, I1002 0 m) ∧ ∀ y2 : Int, ∀ m2, ((0 ≤ y2 ∧ y2 ≤ 4611686018427387904) ∧ True) → I1002 y2 m2 → (Pb (Pl y2 y0) (Pm (Pl y2 d) (Pb (Pe (W6 (rdZ i y0)) (W6 (rdZ i y2))) (Pb (Pe (0 : Int) 0) (Pb
 (Pe (0 : Int) 0) ((9 : Int) = (sq0 a b c d e i j) ∧ True) ((0 : Int) = (sq0 a b c d e i j) ∧ True)) (Pm (PL (y0 + 1) 4611686018427387904) (∃ m', m' < m0 ∧ I1000 (y0 + 1) m'))) (Pm (PL (y2 + 1) 4611686018427387904) (∃ m', m' < m2 ∧ I1002 (y2 + 1) m')))) (Pb (Pe (1 : Int) 0) (Pb (Pe (0 : Int) 0) ((9 : Int) = (sq0 a b c d e i j) ∧ True) ((0 : Int) = (sq0 a b c d e i j) ∧ True)) (Pm (PL (y0 + 1) 4611686018427387904) (∃ m', m' < m0 ∧ I1000 (y0 + 1) m'))))) (Pb (Pe (1 : Int) 0) ((9 : Int) = (sq0 a b c d e i j) ∧ True) ((0 : Int) = (sq0 a b c d e i j) ∧ True)))))))))))))
theorem holds (n0_0 n0_1 n0_2 n0_3 n0_4 c0_0 c0_1 c0_2 c0_3 c0_4 r0_0 r0_1 r0_2 r0_3 r0_4 : Int) (l_n0_0 : 0 ≤ n0_0) (u_n0_0 : n0_0 ≤ 1000000) (l_n0_1 : 0 ≤ n0_1) (u_n0_1 : n0_1 ≤ 1000000) (l_n0_2 : 0 ≤ n0_2) (u_n0_2 : n0_2 ≤ 1000000) (l_n0_3 : 0 ≤ n0_3) (u_n0_3 : n0_3 ≤ 1000000) (l_n0_4 : 0 ≤ n0_4) (u_n0_4 : n0_4 ≤ 1000000) (h_n0_0 : n0_0 ≤ r0_0) (h_n0_1 : n0_1 ≤ r0_1) (h_n0_2 : n0_2 ≤ r0_2) (h_n0_3 : n0_3 ≤ r0_3) (h_n0_4 : n0_4 ≤ r0_4) : P n0_0 n0_1 n0_2 n0_3 n0_4 c0_0 c0_1 c0_2 c0_3 c0_4 r0_0 r0_1 r0_2 r0_3 r0_4 := by
 delta P sq0 Pb Pm PL Pl Pe Pd W6 kZ
 simp only [nrm, nro, Int.reduceEq, Int.reduceNeg, reduceIte]
 simp only [chk_ev]
 refine ⟨fun h1 => qKk (.inl h1), fun h1 => ⟨fun h2 => qKk (.inr (.inl h2)), fun h2 => ⟨fun h3 => qKk (.inr (.inr (.inl h3))), fun h3 => ⟨fun h4 => qKk (.inr (.inr (.inr h4))), fun h4 => ?_⟩⟩⟩⟩
 have hl : ¬ (16384 < n0_0 ∨ 2048 < n0_1 ∨ 255 < n0_3 ∨ 255 < n0_4) := by omega
 refine ⟨fun h5 => chk_arg hl (.inl h5), fun h5 => ⟨by omega, fun h6 => chk_arg hl (.inr (.inl (adZ_eq.1 h6))), fun h6 => ⟨by omega, fun h7 => chk_arg hl (.inr (.inr (adZ_eq.1 h7))), fun h7 => ?_⟩⟩⟩
 refine ⟨fun i m => (∀ a b : Int, 0 ≤ b → b < a → a < i → ¬ IntKind.wrap .i64 (rdZ c0_3 a) = IntKind.wrap .i64 (rdZ c0_3 b)) ∧ i ≤ n0_3 ∧ m = (n0_3 - i).toNat, ⟨_, fun a b _ _ _ => by omega, l_n0_3, rfl⟩, fun i m hb hI => ?_⟩
 obtain ⟨hA, hi, rfl⟩ := hI
 refine ⟨fun h => ?_, fun h => ?_⟩
 ·refine ⟨fun k m => (∀ b : Int, 0 ≤ b → b < k → ¬ IntKind.wrap .i64 (rdZ c0_3 i) = IntKind.wrap .i64 (rdZ c0_3 b)) ∧ k ≤ i ∧ m = (i - k).toNat, ⟨_, fun b _ _ => by omega, hb.1, rfl⟩, fun k m hk hI => ?_⟩
  obtain ⟨hB, hki, rfl⟩ := hI
  refine ⟨fun g => ⟨by omega, fun g1 => chk_twice hl h5 (adZ_ne.1 h6) (adZ_ne.1 h7) (tw_of hk.1 g h g1), fun g1 => ⟨by omega, _, ?_, fun b b0 b1 => ?_, by omega, rfl⟩⟩, fun g => ⟨by omega, _, ?_, fun a b b0 b1 b2 => ?_, by omega, rfl⟩⟩
  ·omega
  ·by_cases e : b = k
   ·subst e; exact g1
   ·exact hB b b0 (by omega)
  ·omega
  ·by_cases e : a = i
   ·subst e; exact hB b b0 (by omega)
   ·exact hA a b b0 b1 (by omega)
 ·refine chk_ok hl h5 (adZ_ne.1 h6) (adZ_ne.1 h7) ?_
  rintro ⟨a, b, g1, g2, g3⟩
  exact hA a b (by omega) (by omega) (by omega) g3
theorem plain (i v ro p) : statR 2 rc tree ⟨i, fN, v, ro, p⟩ = P (i 0) (i 1) (i 2) (i 3) (i 4) (i 5) (i 6) (i 7) (i 8) (i 9) (i 10) (i 11) (i 12) (i 13) (i 14) := by kernel_rfl
theorem ran : ranR us (fun _ _ => .auto) rc 2 tree = true := by kernel_rfl
theorem fineT : fineR 2 rc tree = true := by kernel_rfl
theorem ok : RcOk (cxOf 2) rc := okR us_ok ran fineT okb fun i v ro p hρ hcap hpre => by rw [plain]; have q := hρ.hi; exact holds _ _ _ _ _ _ _ _ _ _ _ _ _ _ _ (q 0 _ rfl).1 (q 0 _ rfl).2 (q 1 _ rfl).1 (q 1 _ rfl).2 (q 2 _ rfl).1 (q 2 _ rfl).2 (q 3 _ rfl).1 (q 3 _ rfl).2 (q 4 _ rfl).1 (q 4 _ rfl).2 (hcap _ (mg 0 rfl)) (hcap _ (mg 1 rfl)) (hcap _ (mg 2 rfl)) (hcap _ (mg 3 rfl)) (hcap _ (mg 4 rfl))
end CRICheck
namespace CRPutN
def rk : Rk := ⟨13, [(-9223372036854775808, 9223372036854775807), (1, 4), (0, 900000)], 4, [.sl (.own 0) 1 (.c 0) (.v 2) none, .int .i64 (.v 0), .int .i64 (.v 1)], [.arr [.int .u8] 5 (.v 3) (.v 2)], [], .sl (.own 1) 1 (.c 0) (.v 1000000) none, [.gone, .arr [.int .u8] 5 (.v 1000001) (.v 1000000)], [.num (.b .padd .i64 (.v 2) (.v 1)), .code [.int .u8] (.f 122 (.v 3) (.v 2) (qZx [(.v 0), (.v 1)])) (.b .padd .i64 (.v 2) (.v 1))], []⟩
theorem okk : rk.ok = true := by kernel_rfl
theorem okh : rk.rh.ok = true := by kernel_rfl
noncomputable def us : SMs := fun Γ ins n => smH (cxG n Γ ins) [] (smR (cxG n Γ ins) [])
theorem us_ok : SMsOk us := fun Γ ins n => qZu (tabsG n Γ ins) (qZa _) (qZs (tabsG n Γ ins) (qZb _))
def Q0 : E := (.cl 1002 (-4611686018427387904) 4611686018427387904)
def Q1 : E := (.b .rem .i64 (.v 0) (.c 4294967296))
def Q2 : E := (.cl 1005 0 4611686018427387904)
def Q3 : E := (tk Q2 Q0)
def Q4 : E := (tp Q2 (.c 1))
def Q5 : E := (tl Q4 (.c 4611686018427387904))
def Q6 : E := (.cl 1004 (-9223372036854775808) 9223372036854775807)
def Q7 : E := (.b .quo .i64 Q6 (.c 256))
def Q8 : E := (.cl 1001 0 1000000)
def Q9 : E := (tp Q8 (.c 1))
def Q10 : E := (tl Q9 (.c 1000000))
def Q11 : E := (.b .psub .i64 Q0 (.c 1))
def Q12 : E := (tl (.c (-4611686018427387904)) Q11)
def Q13 : E := (.b .rem .i64 Q6 (.c 256))
def Q14 : E := (.w .u8 Q13)
def Q15 : E := (.f 14 (.v 1000) Q8 Q14)
def tree : TT (List E) :=
 (.loop ⟨1000, [none, some (0, 1000000), some (-4611686018427387904, 4611686018427387904)], [(.v 3), (.v 2), (.b .psub .i64 (.v 1) (.c 1))], 1008⟩ (.br (tl (.c 0) Q0) (.br (tk Q1 (.c 0)) (.loop ⟨1004, [some (-9223372036854775808, 9223372036854775807), some (0, 4611686018427387904)], [(tp Q1 (.c 4294967296)), (.c 0)], 1007⟩ (.br Q3 (.br Q5 (.back [Q7, Q4]) (.bad 303)) (.exit 0)) (.br Q10 (.br Q10 (.br Q12 (.back [Q15, Q9, Q11]) (.bad 303)) (.bad 303)) (.bad 200))) (.loop ⟨1004, [some (-9223372036854775808, 9223372036854775807), some (0, 4611686018427387904)], [Q1, (.c 0)], 1007⟩ (.br Q3 (.br Q5 (.back [Q7, Q4]) (.bad 303)) (.exit 0)) (.br Q10 (.br Q10 (.br Q12 (.back [Q15, Q9, Q11]) (.bad 303)) (.bad 303)) (.bad 200)))) (.exit 0)) (.leaf [Q8, (.v 1000)]))
def sq0 (y5 y2 y4 y1 y0 : Int) (m4 : Nat) (I1004 : Int → Int → Nat → Prop) (m0 : Nat) (I1000 : Int → Int → Int → Nat → Prop) : Prop := (Pb (Pl y5 y2) (Pm (PL (y5 + 1) 4611686018427387904) (∃ m', m' < m4 ∧ I1004 (BO.ev .quo .i64 y4 256) (y5 + 1) m')) (Pm (PL (y1 + 1) 1000000) (Pm (PL (y1 + 1) 1000000) (Pm (PL (-4611686018427387904) (y2 - 1)) (∃ m', m' < m0 ∧ I1000 (updZ y0 y1 (IntKind.wrap .u8 (BO.ev .rem .i64 y4 256))) (y1 + 1) (y2 - 1) m')))))
def P (a b c d : Int) : Prop :=
 ∃ I1000 : Int → Int → Int → Nat → Prop, (∃ m, I1000 d c (b - 1) m) ∧ ∀ y0 y1 y2 : Int, ∀ m0, (True ∧ (0 ≤ y1 ∧ y1 ≤ 1000000) ∧ ((-4611686018427387904) ≤ y2 ∧ y2 ≤ 4611686018427387904) ∧ True) → I1000 y0 y1 y2 m0 → (Pb (PL 0 y2) (Pb (Pl (BO.ev .rem .i64 a 4294967296) 0) (∃ I1004 : Int → Int → Nat → Prop, (∃ m, I1004 ((BO.ev .rem .i64 a 4294967296) + 4294967296) 0 m) ∧ ∀ y4 y5 : Int, ∀ m4, (((-9223372036854775808) ≤ y4 ∧ y4 ≤ 9223372036854775807) ∧ (0 ≤ y5 ∧ y5 ≤ 4611686018427387904) ∧ True) → I1004 y4 y5 m4 → (sq0 y5 y2 y4 y1 y0 m4 I1004 m0 I1000)) (∃ I1004 : Int → Int → Nat → Prop, (∃ m, I1004 (BO.ev .rem .i64 a 4294967296) 0 m) ∧ ∀ y4 y5 : Int, ∀ m4, (((-9223372036854775808) ≤ y4 ∧ y4 ≤ 9223372036854775807) ∧ (0 ≤ y5 ∧ y5 ≤ 4611686018427387904) ∧ True) → I1004 y4 y5 m4 → (sq0 y5 y2 y4
 y1 y0 m4 I1004 m0 I1000))) ((y1 : Int) = (c + b) ∧ qZi [.int .u8] y0 (pbZ d c (kZ a (kZ b 0))) (c + b) ∧ True))
theorem div_pow (y : Int) (k : Nat) : y / 256 ^ k / 256 = y / 256 ^ (k + 1) := by
 rw [Int.pow_succ, Int.ediv_ediv_of_nonneg (Int.le_of_lt (Int.pow_pos (by decide)))]
theorem inner (q n x s X Y K : Int) (M : Nat) (hX : X = IntKind.wrap .u32 x) (hY0 : n ≤ Y) (hn : 0 ≤ n) (hY1 : Y < n + s) (hs : s ≤ 4) (hnn : n ≤ 900000) (hK : K = s - 1 - (Y - n)) (A : Int) (hM : M = (n + s - Y).toNat)
  (hA : ∀ j : Nat, (j : Int) < Y → IntKind.wrap .u8 (rdZ A j) = IntKind.wrap .u8 (rdZ (pbF q n x s (Y - n).toNat) j)) :
  ∃ I1004 : Int → Int → Nat → Prop, (∃ m, I1004 X 0 m) ∧
  ∀ y1004 y1005 : Int, ∀ m1004, (((-9223372036854775808) ≤ y1004 ∧ y1004 ≤ 9223372036854775807) ∧ (0 ≤ y1005 ∧ y1005 ≤ 4611686018427387904)) → I1004 y1004 y1005 m1004 →
   ((y1005 < K →
    ((y1005 + 1) ≤ 4611686018427387904 ∧
     ∃ m', m' < m1004 ∧ I1004 (BO.ev .quo .i64 y1004 256) (y1005 + 1) m')) ∧ (K ≤ y1005 →
    ((Y + 1) ≤ 1000000 ∧ (Y + 1) ≤ 1000000 ∧ (-4611686018427387904) ≤ (K - 1) ∧
       ∃ m', m' < M ∧ (fun (a y k : Int) (m : Nat) => n ≤ y ∧ y ≤ n + s ∧ k = s - 1 - (y - n) ∧ m = (n + s - y).toNat ∧ ∀ j : Nat, (j : Int) < y → IntKind.wrap .u8 (rdZ a j) = IntKind.wrap .u8 (rdZ (pbF q n x s (y - n).toNat) j)) (updZ A Y (IntKind.wrap .u8 (BO.ev .rem .i64 y1004 256))) (Y + 1) (K - 1) m'))) := by
 subst hX hK hM
 have hb := u32_bd x
 refine ⟨fun y i m => i ≤ s - 1 - (Y - n) ∧ 0 ≤ i ∧ y = IntKind.wrap .u32 x / 256 ^ i.toNat ∧ m = (4 - i).toNat, ⟨_, by omega, by omega, by simp, rfl⟩, ?_⟩
 rintro y i m hbd ⟨h1, h2, rfl, rfl⟩
 have hy0 : 0 ≤ IntKind.wrap .u32 x / 256 ^ i.toNat := Int.ediv_nonneg hb.1 (Int.le_of_lt (Int.pow_pos (by decide)))
 refine ⟨fun h => ⟨by omega, _, ?_, by omega, by omega, ?_, rfl⟩, fun h => ⟨by omega, by omega, by omega, _, ?_, by omega, by omega, by omega, rfl, fun j hj => ?_⟩⟩
 ·omega
 ·rw [quo_pos hy0 (by omega) (by decide), div_pow]
  congr 2; omega
 ·omega
 ·have e : i = s - 1 - (Y - n) := by omega
  subst e
  rw [qQt, pb_rd q x s hn]
  by_cases g : (j : Int) = Y
  ·rw [if_pos (by omega), if_pos (by omega), rem_pos hy0, nby_w]
   have : nby x s (j - n) = IntKind.wrap .u32 x / 256 ^ (s - 1 - (Y - n)).toNat % 256 := by unfold nby; rw [g]
   rw [this]
   show _ % 256 % 256 % 256 = _
   omega
  ·rw [if_neg (by omega), hA j (by omega), pb_rd q x s hn]
   by_cases g2 : n ≤ j ∧ (j : Int) < n + ((Y - n).toNat : Nat)
   ·rw [if_pos g2, if_pos (by omega)]
   ·rw [if_neg g2, if_neg (by omega)]
theorem holds (x s n q : Int) (l_x : -9223372036854775808 ≤ x) (u_x : x ≤ 9223372036854775807) (l_s : 1 ≤ s) (u_s : s ≤ 4) (l_n : 0 ≤ n) (u_n : n ≤ 900000) : P x s n q := by
 delta P sq0 Pb Pm PL Pl kZ
 simp only [nrm, nro, Int.reduceEq, Int.reduceNeg, reduceIte]
 refine ⟨fun (a y k : Int) (m : Nat) => n ≤ y ∧ y ≤ n + s ∧ k = s - 1 - (y - n) ∧ m = (n + s - y).toNat ∧ ∀ j : Nat, (j : Int) < y → IntKind.wrap .u8 (rdZ a j) = IntKind.wrap .u8 (rdZ (pbF q n x s (y - n).toNat) j), ⟨_, by omega, by omega, by omega, rfl, fun j hj => ?_⟩, ?_⟩
 ·rw [show (n - n).toNat = 0 by omega]; rfl
 rintro a y k m hb ⟨h1, h2, rfl, rfl, h5⟩
 have ht : x.tmod 4294967296 = if 0 ≤ x then x % 4294967296 else -((-x) % 4294967296) := by
  split
  ·exact Int.tmod_eq_emod_of_nonneg (by assumption)
  ·have := Int.neg_tmod (-x) 4294967296
   rw [Int.neg_neg] at this
   rw [this, Int.tmod_eq_emod_of_nonneg (by omega)]
 have hr : BO.ev .rem .i64 x 4294967296 = x.tmod 4294967296 := rfl
 rw [hr]
 refine ⟨fun h => ⟨fun h3 => ?_, fun h3 => ?_⟩, fun h => ?_⟩
 ·refine inner q n x s _ y _ _ ?_ h1 l_n (by omega) u_s u_n rfl a rfl h5
  rw [ht] at h3 ⊢
  rw [u32_mod]
  split <;> (split at h3 <;> omega)
 ·refine inner q n x s _ y _ _ ?_ h1 l_n (by omega) u_s u_n rfl a rfl h5
  rw [ht] at h3 ⊢
  rw [u32_mod]
  split <;> (split at h3 <;> omega)
 ·have e : y = n + s := by omega
  subst e
  refine ⟨rfl, qJq fun i hi => ?_⟩
  rw [h5 i hi, pbZ_def, show (n + s - n).toNat = s.toNat by omega]
theorem plain (i v ro p) : statH 2 rk tree ⟨i, fN, v, ro, p⟩ = P (i 0) (i 1) (i 2) (i 3) := by kernel_rfl
theorem ran : ranH us (fun _ _ => .auto) rk 2 tree = true := by kernel_rfl
theorem fineT : fineH 2 rk tree = true := by kernel_rfl
theorem ok : RhOk (cxOf 2) rk.rh := okH us_ok ran fineT (by kernel_rfl) okk fun i v ro p hρ hpre => by rw [plain]; have q := hρ.hi; exact holds _ _ _ _ (q 0 _ rfl).1 (q 0 _ rfl).2 (q 1 _ rfl).1 (q 1 _ rfl).2 (q 2 _ rfl).1 (q 2 _ rfl).2
end CRPutN
namespace CRKXor
def rc : Rc := ⟨45, [none, none], [.int .i64, .int .i64], [(.b .le .i64 (.c 0) (.v 0)), (.b .le .i64 (.v 0) (.c 65535)), (.b .le .i64 (.c 0) (.v 1)), (.b .le .i64 (.v 1) (.c 65535))], .one, [.int .i64 (.f 117 (.v 0) (.v 1) (.c 0))]⟩
theorem okb : rc.ok = true := by kernel_rfl
noncomputable def us : SMs := fun Γ ins n => smH (cxG n Γ ins) [] (smR (cxG n Γ ins) [])
theorem us_ok : SMsOk us := fun Γ ins n => qZu (tabsG n Γ ins) (qZa _) (qZs (tabsG n Γ ins) (qZb _))
def tree : TT (List E) :=
(.loop ⟨1000, [some (-9223372036854775808, 9223372036854775807), some (-9223372036854775808, 9223372036854775807)], [(.c 0), (.c 1)], 1003⟩
 (.br (.b .lt .i64 (.cl 1001 (-9223372036854775808) 9223372036854775807) (.c 65536))
 (.br (.b .eq .i64 (.cl 1001 (-9223372036854775808) 9223372036854775807) (.c 0))
 (.bad 3)
 (.br (.b .ne .i64 (.b .rem .i64 (.b .quo .i64 (.v 0) (.cl 1001 (-9223372036854775808) 9223372036854775807)) (.c 2)) (.b .rem .i64 (.b .quo .i64 (.v 1) (.cl 1001 (-9223372036854775808) 9223372036854775807)) (.c 2)))
 (.back [(.w .i64 (.b .padd .i64 (.cl 1000 (-9223372036854775808) 9223372036854775807) (.cl 1001 (-9223372036854775808) 9223372036854775807))), (.w .i64 (.b .pmul .i64 (.c 2) (.cl 1001 (-9223372036854775808) 9223372036854775807)))])
 (.back [(.cl 1000 (-9223372036854775808) 9223372036854775807), (.w .i64 (.b .pmul .i64 (.c 2) (.cl 1001 (-9223372036854775808) 9223372036854775807)))])))
 (.exit 0))
 (.leaf [(.cl 1000 (-9223372036854775808) 9223372036854775807)]))
def P (p0 p1 : Int) : Prop :=
 ∃ I1000 : Int → Int → Nat → Prop, (∃ m, I1000 0 1 m) ∧
 ∀ y1000 y1001 : Int, ∀ m1000, (((-9223372036854775808) ≤ y1000 ∧ y1000 ≤ 9223372036854775807) ∧ ((-9223372036854775808) ≤ y1001 ∧ y1001 ≤ 9223372036854775807) ∧ True) → I1000 y1000 y1001 m1000 →
  (((qQq (decide (y1001 < 65536))) ≠ 0 →
   (((qQq (y1001 == 0)) ≠ 0 →
    False) ∧ ((qQq (y1001 == 0)) = 0 →
    (((qQq ((BO.ev .rem .i64 (BO.ev .quo .i64 p0 y1001) 2) != (BO.ev .rem .i64 (BO.ev .quo .i64 p1 y1001) 2))) ≠ 0 →
     ∃ m', m' < m1000 ∧ I1000 (IntKind.wrap .i64 (y1000 + y1001)) (IntKind.wrap .i64 (2 * y1001)) m') ∧ ((qQq ((BO.ev .rem .i64 (BO.ev .quo .i64 p0 y1001) 2) != (BO.ev .rem .i64 (BO.ev .quo .i64 p1 y1001) 2))) = 0 →
     ∃ m', m' < m1000 ∧ I1000 y1000 (IntKind.wrap .i64 (2 * y1001)) m'))))) ∧ ((qQq (decide (y1001 < 65536))) = 0 →
   (y1000 : Int) = (xorZ p0 p1) ∧ True))
theorem xor_lo (a b : Nat) (k : Nat) : (a ^^^ b) % 2 ^ (k + 1) = (a ^^^ b) % 2 ^ k + (if a / 2 ^ k % 2 ≠ b / 2 ^ k % 2 then 2 ^ k else 0) := by
 rw [Nat.mod_pow_succ]
 congr 1
 have h : (a ^^^ b).testBit k = (a.testBit k ^^ b.testBit k) := Nat.testBit_xor ..
 simp only [Nat.testBit_eq_decide_div_mod_eq] at h
 have h1 : (a ^^^ b) / 2 ^ k % 2 < 2 := Nat.mod_lt _ (by decide)
 have h2 : a / 2 ^ k % 2 < 2 := Nat.mod_lt _ (by decide)
 have h3 : b / 2 ^ k % 2 < 2 := Nat.mod_lt _ (by decide)
 generalize (a ^^^ b) / 2 ^ k % 2 = x at *
 generalize a / 2 ^ k % 2 = y at *
 generalize b / 2 ^ k % 2 = z at *
 have hx : x = 0 ∨ x = 1 := by omega
 have hy : y = 0 ∨ y = 1 := by omega
 have hz : z = 0 ∨ z = 1 := by omega
 rcases hx with rfl | rfl <;> rcases hy with rfl | rfl <;> rcases hz with rfl | rfl <;> simp at h ⊢
theorem pow_int (k : Nat) : (((2 : Nat) ^ k : Nat) : Int) = 2 ^ k := by norm_cast
theorem holds (p0 p1 : Int) (l_p0 : -9223372036854775808 ≤ p0) (u_p0 : p0 ≤ 9223372036854775807) (l_p1 : -9223372036854775808 ≤ p1) (u_p1 : p1 ≤ 9223372036854775807) (h_pre0 : qQq (decide (0  ≤  p0)) ≠ 0) (h_pre1 : qQq (decide (p0  ≤  65535)) ≠ 0) (h_pre2 : qQq (decide (0  ≤  p1)) ≠ 0) (h_pre3 : qQq (decide (p1  ≤  65535)) ≠ 0) : P p0 p1 := by
 unfold P
 simp only [nrm, nro, Int.reduceEq, Int.reduceNeg, reduceIte]
 simp only [nrm, Int.reduceNeg] at h_pre0 h_pre1 h_pre2 h_pre3
 obtain ⟨a, rfl⟩ : ∃ a : Nat, p0 = (a : Int) := ⟨p0.toNat, by omega⟩
 obtain ⟨b, rfl⟩ : ∃ b : Nat, p1 = (b : Int) := ⟨p1.toNat, by omega⟩
 refine ⟨fun o x m => ∃ k : Nat, k ≤ 16 ∧ x = ((2 ^ k : Nat) : Int) ∧ o = (((a ^^^ b) % 2 ^ k : Nat) : Int) ∧ m = 16 - k, ⟨_, 0, by omega, by simp, by simp [Nat.mod_one], rfl⟩, fun o x m hb hI => ?_⟩
 obtain ⟨k, hk, rfl, rfl, rfl⟩ := hI
 have hpk : 2 ^ k ≤ 2 ^ 16 := Nat.pow_le_pow_right (by decide) hk
 have hp0 : 0 < 2 ^ k := Nat.pow_pos (by decide)
 have hlt : (a ^^^ b) % 2 ^ k < 2 ^ k := Nat.mod_lt _ hp0
 have bit : ∀ n : Nat, n ≤ 65535 → BO.ev .rem .i64 (BO.ev .quo .i64 (n : Int) ((2 ^ k : Nat) : Int)) 2 = ((n / 2 ^ k % 2 : Nat) : Int) := fun n hn => by
  rw [quo_pos (by omega) (by omega) (by omega), rem_pos (Int.ediv_nonneg (by omega) (by omega))]
  norm_cast
 rw [bit a (by omega), bit b (by omega)]
 have hsucc := xor_lo a b k
 have hs2 : (2 : Nat) ^ (k + 1) = 2 * 2 ^ k := by rw [Nat.pow_succ, Nat.mul_comm]
 refine ⟨fun h1 => ⟨fun h => by omega, fun _ => ⟨fun h2 => ?_, fun h2 => ?_⟩⟩, fun h1 => ?_⟩
 ·have hk16 : k < 16 := by
   rcases Nat.lt_or_ge k 16 with h | h
   ·exact h
   ·have := Nat.pow_le_pow_right (n := 2) (by decide) h; omega
  refine ⟨16 - (k + 1), by omega, k + 1, by omega, ?_, ?_, rfl⟩
  ·rw [w64 (by omega) (by omega), hs2]; omega
  ·rw [hsucc, if_pos (by omega), w64 (by omega) (by omega)]; omega
 ·have hk16 : k < 16 := by
   rcases Nat.lt_or_ge k 16 with h | h
   ·exact h
   ·have := Nat.pow_le_pow_right (n := 2) (by decide) h; omega
  refine ⟨16 - (k + 1), by omega, k + 1, by omega, ?_, ?_, rfl⟩
  ·rw [w64 (by omega) (by omega), hs2]; omega
  ·rw [hsucc, if_neg (by omega)]; omega
 ·have hk16 : k = 16 := by
   rcases Nat.lt_or_ge k 16 with h | h
   ·have := Nat.pow_le_pow_right (n := 2) (show 0 < 2 by decide) (show k ≤ 15 by omega); omega
   ·omega
  subst hk16
  unfold xorZ
  rw [Int.toNat_natCast, Int.toNat_natCast, Nat.mod_eq_of_lt (@Nat.xor_lt_two_pow a b 16 (by omega) (by omega))]
theorem plain (i v ro p) : statR 2 rc tree ⟨i, fN, v, ro, p⟩ = P (i 0) (i 1) := by kernel_rfl
theorem ran : ranR us (fun _ _ => .auto) rc 2 tree = true := by kernel_rfl
theorem fineT : fineR 2 rc tree = true := by kernel_rfl
theorem ok : RcOk (cxOf 2) rc := okR us_ok ran fineT okb fun i v ro p hρ hcap hpre => by rw [plain]; have q := hρ.hi; exact holds _ _ (q 0 _ rfl).1 (q 0 _ rfl).2 (q 1 _ rfl).1 (q 1 _ rfl).2 (hpre _ (mg 0 rfl)) (hpre _ (mg 1 rfl)) (hpre _ (mg 2 rfl)) (hpre _ (mg 3 rfl))
end CRKXor
namespace CRKStep
def rc : Rc := ⟨36, [none, none], [.int .i32, .int .u8], [], .one, [.int .i32 (.f 118 (.v 0) (.v 1) (.c 0))]⟩
theorem okb : rc.ok = true := by kernel_rfl
noncomputable def us : SMs := fun Γ ins n => smH (cxG n Γ ins) [] (smR (cxG n Γ ins) [CRKXor.rc])
theorem us_ok : SMsOk us := fun Γ ins n => qZu (tabsG n Γ ins) (qZa _) (qZs (tabsG n Γ ins) (qQg CRKXor.okb (rc_n CRKXor.ok) (qZb _)))
def Q0 : E := (.b .rem .i64 (.v 0) (.c 65536))
def Q1 : E := (tp Q0 (.c 65536))
def Q2 : E := (.b .pmul .i64 (.c 256) (.v 1))
def Q3 : E := (.f 117 Q1 Q2 (.c 0))
def Q4 : E := (.cl 1001 0 4611686018427387904)
def Q5 : E := (tk Q4 (.c 8))
def Q6 : E := (.cl 1000 (-9223372036854775808) 9223372036854775807)
def Q7 : E := (tl (.c 32768) Q6)
def Q8 : E := (.b .pmul .i64 (.c 2) Q6)
def Q9 : E := (t6 Q8)
def Q10 : E := (.b .rem .i64 Q9 (.c 65536))
def Q11 : E := (.cl 1003 (-65535) 65535)
def Q12 : E := (tl (.c 0) Q11)
def Q13 : E := (.f 117 Q11 (.c 4129) (.c 0))
def Q14 : E := (tl (.c (-9223372036854775808)) Q13)
def Q15 : E := (tl Q13 (.c 9223372036854775807))
def Q16 : E := (tp Q4 (.c 1))
def Q17 : E := (tl Q16 (.c 4611686018427387904))
def Q18 : E := (t3 Q6)
def Q19 : E := (.f 117 Q0 Q2 (.c 0))
def tree : TT (List E) :=
 (.br (tk Q0 (.c 0)) (.br (tl Q1 (.c 65535)) (.br (tl (.c (-9223372036854775808)) Q3) (.br (tl Q3 (.c 9223372036854775807)) (.loop ⟨1000, [some (-9223372036854775808, 9223372036854775807), some (0, 4611686018427387904)], [Q3, (.c 0)], 1004⟩ (.br Q5 (.br Q7 (.new 1003 Q10 (.br Q12 (.br Q14 (.br Q15 (.br Q17 (.back [Q13, Q16]) (.bad 303)) (.bad 303)) (.bad 303)) (.bad 200))) (.br Q17 (.back [Q10, Q16]) (.bad 303))) (.exit 0)) (.leaf [Q18])) (.bad 305)) (.bad 305)) (.bad 200)) (.br (tl (.c 0) Q0) (.br (tl (.c (-9223372036854775808)) Q19) (.br (tl Q19 (.c 9223372036854775807)) (.loop ⟨1000, [some (-9223372036854775808, 9223372036854775807), some (0, 4611686018427387904)], [Q19, (.c 0)], 1004⟩ (.br Q5 (.br Q7 (.new 1003 Q10 (.br Q12 (.br Q14 (.br Q15 (.br Q17 (.back [Q13, Q16]) (.bad 303))
 (.bad 303)) (.bad 303)) (.bad 200))) (.br Q17 (.back [Q10, Q16]) (.bad 303))) (.exit 0)) (.leaf [Q18])) (.bad 305)) (.bad 305)) (.bad 200)))
def sq0 (y1 y0 a b : Int) (m0 : Nat) (I1000 : Int → Int → Nat → Prop) : Prop := (Pb (Pl y1 8) (Pb (PL 32768 y0) (Pn (BO.ev .rem .i64 (W6 (2 * y0)) 65536) (-65535) 65535 fun y3 => (Pm (PL 0 y3) (Pm (PL (-9223372036854775808) (xorZ y3 4129)) (Pm (PL (xorZ y3 4129) 9223372036854775807) (Pm (PL (y1 + 1) 4611686018427387904) (∃ m', m' < m0 ∧ I1000 (xorZ y3 4129) (y1 + 1) m')))))) (Pm (PL (y1 + 1) 4611686018427387904) (∃ m', m' < m0 ∧ I1000 (BO.ev .rem .i64 (W6 (2 * y0)) 65536) (y1 + 1) m'))) (((W3 y0) : Int) = (crcS a b) ∧ True))
def P (a b : Int) : Prop :=
 (Pb (Pl (BO.ev .rem .i64 a 65536) 0) (Pm (PL ((BO.ev .rem .i64 a 65536) + 65536) 65535) (Pm (PL (-9223372036854775808) (xorZ ((BO.ev .rem .i64 a 65536) + 65536) (256 * b))) (Pm (PL (xorZ ((BO.ev .rem .i64 a 65536) + 65536) (256 * b)) 9223372036854775807) (∃ I1000 : Int → Int → Nat → Prop, (∃ m, I1000 (xorZ ((BO.ev .rem .i64 a 65536) + 65536) (256 * b)) 0 m) ∧ ∀ y0 y1 : Int, ∀ m0, (((-9223372036854775808) ≤ y0 ∧ y0 ≤ 9223372036854775807) ∧ (0 ≤ y1 ∧ y1 ≤ 4611686018427387904) ∧ True) → I1000 y0 y1 m0 → (sq0 y1 y0 a b m0 I1000))))) (Pm (PL 0 (BO.ev .rem .i64 a 65536)) (Pm (PL (-9223372036854775808) (xorZ (BO.ev .rem .i64 a 65536) (256 * b))) (Pm (PL (xorZ (BO.ev .rem .i64 a 65536) (256 * b)) 9223372036854775807) (∃ I1000 : Int → Int → Nat → Prop, (∃ m, I1000 (xorZ (BO.ev .rem .i64 a 65536)
 (256 * b)) 0 m) ∧ ∀ y0 y1 : Int, ∀ m0, (((-9223372036854775808) ≤ y0 ∧ y0 ≤ 9223372036854775807) ∧ (0 ≤ y1 ∧ y1 ≤ 4611686018427387904) ∧ True) → I1000 y0 y1 m0 → (sq0 y1 y0 a b m0 I1000))))))
theorem crc_step (x : Int) (k : Nat) : crcI x (k + 1) = crcT (crcI x k) := rfl
theorem crcI_bd {x : Int} (h0 : 0 ≤ x) (h1 : x ≤ 65535) : ∀ k, 0 ≤ crcI x k ∧ crcI x k ≤ 65535
 | 0 => ⟨h0, h1⟩
 | k + 1 => crcT_bd _
theorem loop_ok (x : Int) (h0 : 0 ≤ x) (h1 : x ≤ 65535) (X : Prop) (hX : X) (V : Int) (hV : V = crcI x 8) :
  ∃ I1000 : Int → Int → Nat → Prop, (∃ m, I1000 x 0 m) ∧
   ∀ y1000 y1001 : Int, ∀ m1000, (((-9223372036854775808) ≤ y1000 ∧ y1000 ≤ 9223372036854775807) ∧ (0 ≤ y1001 ∧ y1001 ≤ 4611686018427387904)) → I1000 y1000 y1001 m1000 →
    ((y1001 < 8 →
     ((32768 ≤ y1000 →
      ∀ y1003 : Int, y1003 = (BO.ev .rem .i64 (IntKind.wrap .i64 (2 * y1000)) 65536) → ((-65535) ≤ y1003 ∧ y1003 ≤ 65535) →
      (0 ≤ y1003 ∧ (-9223372036854775808) ≤ (xorZ y1003 4129) ∧ (xorZ y1003 4129) ≤ 9223372036854775807 ∧ (y1001 + 1) ≤ 4611686018427387904 ∧
        ∃ m', m' < m1000 ∧ I1000 (xorZ y1003 4129) (y1001 + 1) m')) ∧ (y1000 < 32768 →
      ((y1001 + 1) ≤ 4611686018427387904 ∧
       ∃ m', m' < m1000 ∧ I1000 (BO.ev .rem .i64 (IntKind.wrap .i64 (2 * y1000)) 65536) (y1001 + 1) m')))) ∧ (8 ≤ y1001 →
     (IntKind.wrap .i32 y1000) = V)) := by
 refine ⟨fun y i m => ∃ k : Nat, i = k ∧ k ≤ 8 ∧ y = crcI x k ∧ m = 8 - k, ⟨_, 0, rfl, by omega, rfl, rfl⟩, ?_⟩
 rintro y i m hb ⟨k, rfl, hk, rfl, rfl⟩
 have hc := crcI_bd h0 h1 k
 have hr : BO.ev .rem .i64 (IntKind.wrap .i64 (2 * crcI x k)) 65536 = 2 * crcI x k % 65536 := by
  rw [w64 (by omega) (by omega), rem_pos (by omega)]
 rw [hr]
 have hx := @xorZ_bd (2 * crcI x k % 65536) 4129 (by omega) (by decide)
 refine ⟨fun h => ⟨fun h2 => ?_, fun h2 => ⟨by omega, _, ?_, k + 1, by omega, by omega, ?_, rfl⟩⟩, fun h => ?_⟩
 ·rintro z rfl hz
  refine ⟨by omega, by omega, by omega, by omega, _, ?_, k + 1, by omega, by omega, ?_, rfl⟩
  ·omega
  ·rw [crc_step]; unfold crcT; rw [if_pos h2]
 ·omega
 ·rw [crc_step]; unfold crcT; rw [if_neg (by omega)]
 ·have : k = 8 := by omega
  subst this
  rw [hV]
  exact qZc .i32 _ (by show (-2147483648 : Int) ≤ _; omega) (by show _ ≤ (2147483647 : Int); omega)
theorem holds (p0 p1 : Int) (l_p0 : -2147483648 ≤ p0) (u_p0 : p0 ≤ 2147483647) (l_p1 : 0 ≤ p1) (u_p1 : p1 ≤ 255) : P p0 p1 := by
 delta P sq0 Pb Pm Pn PL Pl W6 W3
 simp only [nrm, nro, Int.reduceEq, Int.reduceNeg, reduceIte]
 have hm : p0 % 65536 = if BO.ev .rem .i64 p0 65536 < 0 then BO.ev .rem .i64 p0 65536 + 65536 else BO.ev .rem .i64 p0 65536 := by
  show _ = if p0.tmod 65536 < 0 then p0.tmod 65536 + 65536 else p0.tmod 65536
  have ht : p0.tmod 65536 = if 0 ≤ p0 then p0 % 65536 else -((-p0) % 65536) := by
   split
   ·exact Int.tmod_eq_emod_of_nonneg (by assumption)
   ·have := Int.neg_tmod (-p0) 65536
    rw [Int.neg_neg] at this
    rw [this, Int.tmod_eq_emod_of_nonneg (by omega)]
  rw [ht]
  split <;> split <;> omega
 have hbd := @xorZ_bd (p0 % 65536) (256 * p1) (by omega) (by omega)
 refine ⟨fun h => ?_, fun h => ?_⟩
 ·rw [if_pos h] at hm
  rw [← hm]
  exact ⟨by omega, by omega, by omega, loop_ok _ (by omega) (by omega) True trivial _ rfl⟩
 ·rw [if_neg (by omega)] at hm
  rw [← hm]
  exact ⟨by omega, by omega, by omega, loop_ok _ (by omega) (by omega) True trivial _ rfl⟩
theorem plain (i v ro p) : statR 2 rc tree ⟨i, fN, v, ro, p⟩ = P (i 0) (i 1) := by kernel_rfl
theorem ran : ranR us (fun _ _ => .auto) rc 2 tree = true := by kernel_rfl
theorem fineT : fineR 2 rc tree = true := by kernel_rfl
theorem ok : RcOk (cxOf 2) rc := okR us_ok ran fineT okb fun i v ro p hρ hcap hpre => by rw [plain]; have q := hρ.hi; exact holds _ _ (q 0 _ rfl).1 (q 0 _ rfl).2 (q 1 _ rfl).1 (q 1 _ rfl).2
end CRKStep
namespace CRKOf
def rc : Rc := ⟨18, [none], [.row [.int .u8] 1000000], [], .one, [.int .i32 (.f 119 (.v 1) (.v 0) (.c 0))]⟩
theorem okb : rc.ok = true := by kernel_rfl
noncomputable def us : SMs := fun Γ ins n => smH (cxG n Γ ins) [] (smR (cxG n Γ ins) [CRKStep.rc])
theorem us_ok : SMsOk us := fun Γ ins n => qZu (tabsG n Γ ins) (qZa _) (qZs (tabsG n Γ ins) (qQg CRKStep.okb (rc_n CRKStep.ok) (qZb _)))
def tree : TT (List E) :=
(.loop ⟨1000, [some (-2147483648, 2147483647), some (0, 4611686018427387904)], [(.c 65535), (.c 0)], 1004⟩
 (.br (.b .lt .i64 (.cl 1001 0 4611686018427387904) (.v 0))
 (.new 1003 (.f 118 (.cl 1000 (-2147483648) 2147483647) (.w .u8 (.f 13 (.v 1) (.cl 1001 0 4611686018427387904) (.c 0))) (.c 0))
 (.br (.b .le .i64 (.b .padd .i64 (.cl 1001 0 4611686018427387904) (.c 1)) (.c 4611686018427387904))
 (.back [(.cl 1003 0 65535), (.b .padd .i64 (.cl 1001 0 4611686018427387904) (.c 1))])
 (.bad 303)))
 (.exit 0))
 (.leaf [(.cl 1000 (-2147483648) 2147483647)]))
def P (n0 c0 r0 : Int) : Prop :=
 ∃ I1000 : Int → Int → Nat → Prop, (∃ m, I1000 65535 0 m) ∧
 ∀ y1000 y1001 : Int, ∀ m1000, (((-2147483648) ≤ y1000 ∧ y1000 ≤ 2147483647) ∧ (0 ≤ y1001 ∧ y1001 ≤ 4611686018427387904) ∧ True) → I1000 y1000 y1001 m1000 →
  (((qQq (decide (y1001 < n0))) ≠ 0 →
   ∀ y1003 : Int, y1003 = (crcS y1000 (IntKind.wrap .u8 (rdZ c0 y1001))) → (0 ≤ y1003 ∧ y1003 ≤ 65535) →
   (((qQq (decide ((y1001 + 1) ≤ 4611686018427387904))) ≠ 0 →
    ∃ m', m' < m1000 ∧ I1000 y1003 (y1001 + 1) m') ∧ ((qQq (decide ((y1001 + 1) ≤ 4611686018427387904))) = 0 →
    False))) ∧ ((qQq (decide (y1001 < n0))) = 0 →
   (y1000 : Int) = (crcZ c0 n0) ∧ True))
theorem holds (n0 c0 r0 : Int) (l_n0 : 0 ≤ n0) (u_n0 : n0 ≤ 1000000) (h_n0 : n0 ≤ r0) : P n0 c0 r0 := by
 unfold P
 simp only [nrm, nro, Int.reduceEq, Int.reduceNeg, reduceIte]
 refine ⟨fun c i m => i ≤ n0 ∧ c = crcF c0 i.toNat ∧ m = (n0 - i).toNat, ⟨_, by omega, by simp [crcF], rfl⟩, ?_⟩
 rintro c i m hb ⟨hi, rfl, rfl⟩
 refine ⟨fun h => ?_, fun h => ?_⟩
 ·rintro z rfl hz
  refine ⟨by omega, _, ?_, by omega, ?_, rfl⟩
  ·omega
  ·rw [show (i + 1).toNat = i.toNat + 1 by omega, crcF]
   unfold byt
   rw [Int.toNat_of_nonneg hb.2.1]
 ·unfold crcZ
  rw [show i = n0 by omega]
theorem plain (i v ro p) : statR 2 rc tree ⟨i, fN, v, ro, p⟩ = P (i 0) (i 1) (i 2) := by kernel_rfl
theorem ran : ranR us (fun _ _ => .auto) rc 2 tree = true := by kernel_rfl
theorem fineT : fineR 2 rc tree = true := by kernel_rfl
theorem ok : RcOk (cxOf 2) rc := okR us_ok ran fineT okb fun i v ro p hρ hcap hpre => by rw [plain]; have q := hρ.hi; exact holds _ _ _ (q 0 _ rfl).1 (q 0 _ rfl).2 (hcap _ (mg 0 rfl))
end CRKOf
namespace CRKSeal
def rc : Rc := ⟨8, [none], [.row [.int .u8] 900000], [], .one, [.row [.int .u8] 5 (.f 120 (.v 1) (.v 0) (.c 0)) (.b .padd .i64 (.v 0) (.c 2))]⟩
theorem okb : rc.ok = true := by kernel_rfl
noncomputable def us : SMs := fun Γ ins n => smH (cxG n Γ ins) [] (smR (cxG n Γ ins) [CRKOf.rc])
theorem us_ok : SMsOk us := fun Γ ins n => qZu (tabsG n Γ ins) (qZa _) (qZs (tabsG n Γ ins) (qQg CRKOf.okb (rc_n CRKOf.ok) (qZb _)))
def tree : TT (List E) :=
(.br (.b .le .i64 (.v 0) (.v 2))
 (.leaf [(.b .padd .i64 (.b .padd .i64 (.v 0) (.c 1)) (.c 1)), (.f 14 (.f 14 (.f 16 (.c 0) (.c 0) (.v 1)) (.v 0) (.w .u8 (.b .quo .i32 (.f 119 (.v 1) (.v 0) (.c 0)) (.c 256)))) (.b .padd .i64 (.v 0) (.c 1)) (.b .rem .i64 (.f 119 (.v 1) (.v 0) (.c 0)) (.c 256)))])
 (.bad 200))
def P (n0 c0 r0 : Int) : Prop :=
 (((qQq (decide (n0 ≤ r0))) ≠ 0 →
  (((n0 + 1) + 1) : Int) = (n0 + 2) ∧ qZi [.int .u8] (updZ (updZ (appZ 0 0 c0) n0 (IntKind.wrap .u8 (BO.ev .quo .i32 (crcZ c0 n0) 256))) (n0 + 1) (BO.ev .rem .i64 (crcZ c0 n0) 256)) (slcZ c0 n0) ((n0 + 1) + 1) ∧ True) ∧ ((qQq (decide (n0 ≤ r0))) = 0 →
  False))
theorem holds (n0 c0 r0 : Int) (l_n0 : 0 ≤ n0) (u_n0 : n0 ≤ 900000) (h_n0 : n0 ≤ r0) : P n0 c0 r0 := by
 unfold P
 simp only [nrm, nro, Int.reduceEq, Int.reduceNeg, reduceIte]
 refine ⟨by omega, by omega, qJq fun i hi => ?_⟩
 have hc := crcZ_bd c0 n0
 rw [slc_rd l_n0, qQt, qQt, rdZ_app, if_neg (show ¬ ((i : Int).toNat < (0 : Int).toNat) by simp)]
 have e1 : BO.ev .quo .i32 (crcZ c0 n0) 256 = crcZ c0 n0 / 256 := by
  show IntKind.wrap .i32 ((crcZ c0 n0).tdiv 256) = _
  rw [Int.tdiv_eq_ediv_of_nonneg hc.1]
  exact qZc .i32 _ (by show (-2147483648 : Int) ≤ _; omega) (by show _ ≤ (2147483647 : Int); omega)
 have e2 : BO.ev .rem .i64 (crcZ c0 n0) 256 = crcZ c0 n0 % 256 := rem_pos hc.1
 rw [e1, e2]
 by_cases e : (i : Int) = n0 + 1
 ·rw [if_pos (by omega), if_pos e]
 ·rw [if_neg (by omega), if_neg e]
  by_cases g : (i : Int) = n0
  ·rw [if_pos (by omega), if_pos g]; simp only [wu8]; omega
  ·rw [if_neg (by omega), if_neg g]
   congr 2
theorem plain (i v ro p) : statR 2 rc tree ⟨i, fN, v, ro, p⟩ = P (i 0) (i 1) (i 2) := by kernel_rfl
theorem ran : ranR us (fun _ _ => .auto) rc 2 tree = true := by kernel_rfl
theorem fineT : fineR 2 rc tree = true := by kernel_rfl
theorem ok : RcOk (cxOf 2) rc := okR us_ok ran fineT okb fun i v ro p hρ hcap hpre => by rw [plain]; have q := hρ.hi; exact holds _ _ _ (q 0 _ rfl).1 (q 0 _ rfl).2 (hcap _ (mg 0 rfl))
end CRKSeal
end Go.Proofs.YtkjbmbmdmhfbeacDoor
