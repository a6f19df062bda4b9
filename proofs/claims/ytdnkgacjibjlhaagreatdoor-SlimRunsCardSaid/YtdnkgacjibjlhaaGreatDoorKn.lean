/-
  What functions of the program answer, as numbers of what they are handed: their runs by the engine, the plain statements behind them. No condition.
-/
import Derived.Test.YtdnkgacjibjlhaaGreatDoorKc
import Derived.Test.YtdnkgacjibjlhaaGreatDoorKf
import Derived.Test.YtdnkgacjibjlhaaGreatDoorGab
import Derived.Test.YtdnkgacjibjlhaaGreatDoorGp2
import Derived.Test.YtdnkgacjibjlhaaGreatDoorGib
import Derived.Test.YtdnkgacjibjlhaaGreatDoorGp5
import Derived.Test.YtdnkgacjibjlhaaGreatDoorGp7
set_option linter.unusedVariables false
set_option linter.unusedSimpArgs false
set_option maxRecDepth 100000
namespace Go.Proofs.YtdnkgacjibjlhaaGreatDoor
open Go.Eng Go.RowKit
namespace CRSame16
def rc : Rc := ⟨12, [none, none], [.row [.int .i64, .int .i64, .int .i64] 1000000, .row [.int .i64, .int .i64, .int .i64] 1000000], [], .one, [.bool (.ite (.b .eq .i64 (.v 0) (.v 1)) (.f 71 (.v 2) (.v 3) (.v 0)) (.c 0))]⟩
theorem okb : rc.ok = true := by kernel_rfl
noncomputable def us : SMs := fun Γ ins n => smH (cxG n Γ ins) [] (smR (cxG n Γ ins) [])
theorem us_ok : SMsOk us := fun Γ ins n => qZs (tabsG n Γ ins) (qZy _) (qZp (tabsG n Γ ins) (qZv _))
def Q0 : E := (.cl 1000 0 4611686018427387904)
def Q1 : E := (tR (.v 2) Q0)
def Q2 : E := (tR (.v 3) Q0)
def Q3 : E := (tp Q0 (.c 1))
def tree : TT (List E) :=
 (.br (tn (.v 0) (.v 1)) (.leaf [(.c 0)]) (.loop ⟨1000, [some (0, 4611686018427387904)], [(.c 0)], 1008⟩ (.br (tk Q0 (.v 0)) (.new 1002 (t6 (tR Q1 (.c 0))) (.new 1003 (t6 (tR Q1 (.c 1))) (.new 1004 (t6 (tR Q1 (.c 2))) (.br (tk Q0 (.v 1)) (.new 1005 (t6 (tR Q2 (.c 0))) (.new 1006 (t6 (tR Q2 (.c 1))) (.new 1007 (t6 (tR Q2 (.c 2))) (.br (.nt (.ite (te (.cl 1002 (-9223372036854775808) 9223372036854775807) (.cl 1005 (-9223372036854775808) 9223372036854775807)) (.ite (te (.cl 1003 (-9223372036854775808) 9223372036854775807) (.cl 1006 (-9223372036854775808) 9223372036854775807)) (te (.cl 1004 (-9223372036854775808) 9223372036854775807) (.cl 1007 (-9223372036854775808) 9223372036854775807)) (.c 0)) (.c 0))) (.exit 0) (.br (tl Q3 (.c 4611686018427387904)) (.back [Q3]) (.bad 303)))))) (.bad
 200))))) (.exit 1)) (.br (te (.v 1008) (.c 0)) (.leaf [(.c 0)]) (.leaf [(.c 1)]))))
def P (a b c d e f : Int) : Prop :=
 (Pb (Pd a b) (((0 : Int) ≠ 0 ↔ ((iteZ (Pe a b) (sameM c d a) 0) : Int) ≠ 0) ∧ True) (∃ I1000 : Int → Nat → Prop, (∃ m, I1000 0 m) ∧ ∀ y0 : Int, ∀ m0, ((0 ≤ y0 ∧ y0 ≤ 4611686018427387904) ∧ True) → I1000 y0 m0 → (Pb (Pl y0 a) (Pn (W6 (rdZ (rdZ c y0) 0)) (-9223372036854775808) 9223372036854775807 fun y2 => Pn (W6 (rdZ (rdZ c y0) 1)) (-9223372036854775808) 9223372036854775807 fun y3 => Pn (W6 (rdZ (rdZ c y0) 2)) (-9223372036854775808) 9223372036854775807 fun y4 => (Pm (Pl y0 b) (Pn (W6 (rdZ (rdZ d y0) 0)) (-9223372036854775808) 9223372036854775807 fun y5 => Pn (W6 (rdZ (rdZ d y0) 1)) (-9223372036854775808) 9223372036854775807 fun y6 => Pn (W6 (rdZ (rdZ d y0) 2)) (-9223372036854775808) 9223372036854775807 fun y7 => (Pb (Pe (iteZ (Pe y2 y5) (iteZ (Pe y3 y6) (Pe y4 y7) 0) 0) 0) (Pb (Pe (0 :
 Int) 0) (((0 : Int) ≠ 0 ↔ ((iteZ (Pe a b) (sameM c d a) 0) : Int) ≠ 0) ∧ True) (((1 : Int) ≠ 0 ↔ ((iteZ (Pe a b) (sameM c d a) 0) : Int) ≠ 0) ∧ True)) (Pm (PL (y0 + 1) 4611686018427387904) (∃ m', m' < m0 ∧ I1000 (y0 + 1) m')))))) (Pb (Pe (1 : Int) 0) (((0 : Int) ≠ 0 ↔ ((iteZ (Pe a b) (sameM c d a) 0) : Int) ≠ 0) ∧ True) (((1 : Int) ≠ 0 ↔ ((iteZ (Pe a b) (sameM c d a) 0) : Int) ≠ 0) ∧ True)))))
theorem sameM_iff (c d n : Int) : sameM c d n ≠ 0 ↔ ∀ i : Nat, (i : Int) < n → mk c i 0 = mk d i 0 ∧ mk c i 1 = mk d i 1 ∧ mk c i 2 = mk d i 2 := by
 unfold sameM; split <;> simp_all
theorem holds (n0 n1 c0 c1 r0 r1 : Int) (l_n0 : 0 ≤ n0) (u_n0 : n0 ≤ 1000000) (l_n1 : 0 ≤ n1) (u_n1 : n1 ≤ 1000000) (h_n0 : n0 ≤ r0) (h_n1 : n1 ≤ r1) : P n0 n1 c0 c1 r0 r1 := by
 delta P Pb Pm Pn PL Pl Pe Pd W6
 simp only [nrm, Int.reduceEq, Int.reduceNeg, reduceIte]
 refine ⟨fun h => by simp [h], fun h => ?_⟩
 subst h
 simp only [if_true]
 have hs := sameM_iff c0 c1 n0
 refine ⟨fun i m => (∀ k : Nat, (k : Int) < i → mk c0 k 0 = mk c1 k 0 ∧ mk c0 k 1 = mk c1 k 1 ∧ mk c0 k 2 = mk c1 k 2) ∧ i ≤ n0 ∧ m = (n0 - i).toNat, ⟨_, fun k hk => by omega, l_n0, rfl⟩, fun i m hb hI => ?_⟩
 obtain ⟨hI, hi, rfl⟩ := hI
 obtain ⟨j, rfl⟩ : ∃ j : Nat, i = j := ⟨i.toNat, by omega⟩
 refine ⟨fun h1 => ?_, fun h1 => by have := hs.2 fun k hk => hI k (by omega); simp_all⟩
 rintro _ rfl _ _ rfl _ _ rfl _
 refine ⟨fun h2 => ?_, fun h2 => by omega⟩
 rintro _ rfl _ _ rfl _ _ rfl _
 simp only [wrap_rd]
 by_cases q : mk c0 j 0 = mk c1 j 0 ∧ mk c0 j 1 = mk c1 j 1 ∧ mk c0 j 2 = mk c1 j 2
 ·obtain ⟨q0, q1, q2⟩ := q
  simp only [q0, q1, q2, if_true]
  refine ⟨fun h => by simp [qQz] at h, fun _ => ⟨fun _ => ⟨_, ?_, fun k hk => ?_, by omega, rfl⟩, fun h4 => by omega⟩⟩
  ·omega
  ·by_cases e : k = j
   ·subst e; exact ⟨q0, q1, q2⟩
   ·exact hI k (by omega)
 ·have hn : ¬ (sameM c0 c1 n0 ≠ 0) := fun h => q (hs.1 h j h1)
  refine ⟨fun _ => by simp_all, fun h => absurd ?_ h⟩
  by_cases q0 : mk c0 j 0 = mk c1 j 0
  ·refine (if_pos q0).trans ?_
   by_cases q1 : mk c0 j 1 = mk c1 j 1
   ·refine (if_pos q1).trans ?_
    have q2 : ¬ mk c0 j 2 = mk c1 j 2 := fun e => q ⟨q0, q1, e⟩
    simp [qQz, q2]
   ·exact if_neg q1
  ·exact if_neg q0
theorem plain (i v ro p) : statR 2 rc tree ⟨i, fN, v, ro, p⟩ = P (i 0) (i 1) (i 2) (i 3) (i 4) (i 5) := by kernel_rfl
theorem ran : ranR us (fun _ _ => .auto) rc 2 tree = true := by kernel_rfl
theorem fineT : fineR 2 rc tree = true := by kernel_rfl
theorem ok : RcOk (cxOf 2) rc := okR us_ok ran fineT okb fun i v ro p hρ hcap hpre => by rw [plain]; have q := hρ.hi; exact holds _ _ _ _ _ _ (q 0 _ rfl).1 (q 0 _ rfl).2 (q 1 _ rfl).1 (q 1 _ rfl).2 (hcap _ (mg 0 rfl)) (hcap _ (mg 1 rfl))
end CRSame16
namespace CRSame15
def rc : Rc := ⟨13, [none, none], [.row [.int .i32] 1000000, .row [.int .i32] 1000000], [], .one, [.bool (.ite (.b .eq .i64 (.v 0) (.v 1)) (.f 72 (.v 2) (.v 3) (.v 0)) (.c 0))]⟩
theorem okb : rc.ok = true := by kernel_rfl
noncomputable def us : SMs := fun Γ ins n => smH (cxG n Γ ins) [] (smR (cxG n Γ ins) [])
theorem us_ok : SMsOk us := fun Γ ins n => qZs (tabsG n Γ ins) (qZy _) (qZp (tabsG n Γ ins) (qZv _))
def tree : TT (List E) :=
(.br (.b .ne .i64 (.v 0) (.v 1))
 (.leaf [(.c 0)])
 (.loop ⟨1000, [some (0, 4611686018427387904)], [(.c 0)], 1002⟩
 (.br (.b .lt .i64 (.cl 1000 0 4611686018427387904) (.v 0))
 (.br (.b .lt .i64 (.cl 1000 0 4611686018427387904) (.v 1))
 (.br (.b .ne .i64 (.w .i32 (.f 13 (.v 2) (.cl 1000 0 4611686018427387904) (.c 0))) (.w .i32 (.f 13 (.v 3) (.cl 1000 0 4611686018427387904) (.c 0))))
 (.exit 0)
 (.br (.b .le .i64 (.b .padd .i64 (.cl 1000 0 4611686018427387904) (.c 1)) (.c 4611686018427387904))
 (.back [(.b .padd .i64 (.cl 1000 0 4611686018427387904) (.c 1))])
 (.bad 303)))
 (.bad 200))
 (.exit 1))
 (.br (.b .eq .i64 (.v 1002) (.c 0))
 (.leaf [(.c 0)])
 (.leaf [(.c 1)]))))
def P (n0 n1 c0 c1 r0 r1 : Int) : Prop :=
 (((qQz (n0 != n1)) ≠ 0 →
  ((0 : Int) ≠ 0 ↔ ((iteZ (qQz (n0 == n1)) (sameW c0 c1 n0) 0) : Int) ≠ 0) ∧ True) ∧ ((qQz (n0 != n1)) = 0 →
  ∃ I1000 : Int → Nat → Prop, (∃ m, I1000 0 m) ∧
  ∀ y1000 : Int, ∀ m1000, ((0 ≤ y1000 ∧ y1000 ≤ 4611686018427387904) ∧ True) → I1000 y1000 m1000 →
   (((qQz (decide (y1000 < n0))) ≠ 0 →
    (((qQz (decide (y1000 < n1))) ≠ 0 →
     (((qQz ((IntKind.wrap .i32 (rdZ c0 y1000)) != (IntKind.wrap .i32 (rdZ c1 y1000)))) ≠ 0 →
      (((qQz ((0 : Int) == 0)) ≠ 0 →
       ((0 : Int) ≠ 0 ↔ ((iteZ (qQz (n0 == n1)) (sameW c0 c1 n0) 0) : Int) ≠ 0) ∧ True) ∧ ((qQz ((0 : Int) == 0)) = 0 →
       ((1 : Int) ≠ 0 ↔ ((iteZ (qQz (n0 == n1)) (sameW c0 c1 n0) 0) : Int) ≠ 0) ∧ True))) ∧ ((qQz ((IntKind.wrap .i32 (rdZ c0 y1000)) != (IntKind.wrap .i32 (rdZ c1 y1000)))) = 0 →
      (((qQz (decide ((y1000 + 1) ≤ 4611686018427387904))) ≠ 0 →
       ∃ m', m' < m1000 ∧ I1000 (y1000 + 1) m') ∧ ((qQz (decide ((y1000 + 1) ≤ 4611686018427387904))) = 0 →
       False))))) ∧ ((qQz (decide (y1000 < n1))) = 0 →
     False))) ∧ ((qQz (decide (y1000 < n0))) = 0 →
    (((qQz ((1 : Int) == 0)) ≠ 0 →
     ((0 : Int) ≠ 0 ↔ ((iteZ (qQz (n0 == n1)) (sameW c0 c1 n0) 0) : Int) ≠ 0) ∧ True) ∧ ((qQz ((1 : Int) == 0)) = 0 →
     ((1 : Int) ≠ 0 ↔ ((iteZ (qQz (n0 == n1)) (sameW c0 c1 n0) 0) : Int) ≠ 0) ∧ True))))))
theorem sameW_iff (c d n : Int) : sameW c d n ≠ 0 ↔ ∀ i : Nat, (i : Int) < n → IntKind.wrap .i32 (rdZ c i) = IntKind.wrap .i32 (rdZ d i) := by
 unfold sameW; split <;> simp_all
theorem holds (n0 n1 c0 c1 r0 r1 : Int) (l_n0 : 0 ≤ n0) (u_n0 : n0 ≤ 1000000) (l_n1 : 0 ≤ n1) (u_n1 : n1 ≤ 1000000) (h_n0 : n0 ≤ r0) (h_n1 : n1 ≤ r1) : P n0 n1 c0 c1 r0 r1 := by
 unfold P
 simp only [nrm, Int.reduceEq, Int.reduceNeg, reduceIte]
 refine ⟨fun h => by simp [h], fun h => ?_⟩
 subst h
 simp only [if_true]
 have hs := sameW_iff c0 c1 n0
 refine ⟨fun i m => (∀ k : Nat, (k : Int) < i → IntKind.wrap .i32 (rdZ c0 k) = IntKind.wrap .i32 (rdZ c1 k)) ∧ i ≤ n0 ∧ m = (n0 - i).toNat, ⟨_, fun k hk => by omega, l_n0, rfl⟩, fun i m hb hI => ?_⟩
 obtain ⟨hI, hi, rfl⟩ := hI
 obtain ⟨j, rfl⟩ : ∃ j : Nat, i = j := ⟨i.toNat, by omega⟩
 refine ⟨fun h1 => ⟨fun h2 => ⟨fun h3 => by have : ¬ (sameW c0 c1 n0 ≠ 0) := fun h => h3 (hs.1 h j h1); simp_all, fun h3 => ⟨fun h4 => ⟨_, ?_, fun k hk => ?_, by omega, rfl⟩, fun h4 => by omega⟩⟩, fun h2 => by omega⟩, fun h1 => by have := hs.2 fun k hk => hI k (by omega); simp_all⟩
 ·omega
 ·by_cases e : k = j
  ·subst e; exact h3
  ·exact hI k (by omega)
theorem plain (i v ro p) : statR 2 rc tree ⟨i, fN, v, ro, p⟩ = P (i 0) (i 1) (i 2) (i 3) (i 4) (i 5) := by kernel_rfl
theorem ran : ranR us (fun _ _ => .auto) rc 2 tree = true := by kernel_rfl
theorem fineT : fineR 2 rc tree = true := by kernel_rfl
theorem ok : RcOk (cxOf 2) rc := okR us_ok ran fineT okb fun i v ro p hρ hcap hpre => by rw [plain]; have q := hρ.hi; exact holds _ _ _ _ _ _ (q 0 _ rfl).1 (q 0 _ rfl).2 (q 1 _ rfl).1 (q 1 _ rfl).2 (hcap _ (mg 0 rfl)) (hcap _ (mg 1 rfl))
end CRSame15
namespace CAwake45
def rc : Rc := ⟨5, [], [], [], .one, [.bool (.c 1)]⟩
theorem okb : rc.ok = true := by kernel_rfl
noncomputable def us : SMs := fun Γ ins n => smH (cxG n Γ ins) [] (qYj 37 (libGReach Γ ins n) (qYj 21 (libClone21 Γ ins n) (qYj 22 (libClone22 Γ ins n) (qYj 23 (libClone23 Γ ins n) (smR (cxG n Γ ins) [CSSlim.rc, CGNext.rc])))))
theorem us_ok : SMsOk us := fun Γ ins n => qZs (tabsG n Γ ins) (qZy _) (qZg (libGReach_ok CGNext.nextC Γ ins n) (qZg (libClone21_ok Γ ins n) (qZg (libClone22_ok Γ ins n) (qZg (libClone23_ok Γ ins n) (qZp (tabsG n Γ ins) (qQh CSSlim.okb (rc_n CSSlim.ok) (qQh CGNext.okb (rc_n CGNext.ok) (qZv _))))))))
def Q0 : E := (tC (.c 0) (.c 0))
def Q1 : E := (tC (.c 0) Q0)
def Q2 : E := (tC (.c 0) Q1)
def Q3 : E := (tC (.c 0) Q2)
def Q4 : E := (tC (.c 0) Q3)
def Q5 : E := (.f 84 (.c 6) (.c 0) Q4)
def Q6 : E := (te Q5 (.c 0))
def Q7 : E := (tC (.c 2885681152) (.c 0))
def Q8 : E := (tC (.c 2418016256) Q7)
def Q9 : E := (tC (.c 2818572288) Q8)
def Q10 : E := (tC (.c 2885681152) Q9)
def Q11 : E := (tC (.c 2617245699) Q10)
def Q12 : E := (tC (.c 2818572288) Q11)
def Q13 : E := (.f 175 Q12 (.c 6) (.c 0))
def Q14 : E := (te Q13 (.c 0))
def Q15 : E := (.f 174 Q12 (.c 6) (.c 0))
def tree : TT (List E) :=
 (.new 1000 (.ite Q6 (.ite Q14 (.f 171 Q12 (.c 6) (.c 0)) (.c 0)) (.c 0)) (.new 1001 (.ite Q6 (.ite Q14 (.c 0) (.c 0)) (.c 0)) (.new 1002 (.ite Q6 (.ite Q14 (.c 0) (.c 12)) Q5) (.br (te (.cl 1002 0 12) (.c 0)) (.br (te (.cl 1000 0 1000) (.c 3)) (.br (tk (.c 0) (.cl 1000 0 1000)) (.br (te (.w .u32 (tR Q15 (.c 0))) (.c 2617245697)) (.br (tk (.c 1) (.cl 1000 0 1000)) (.br (te (.w .u32 (tR Q15 (.c 1))) (.c 2418016256)) (.br (tk (.c 2) (.cl 1000 0 1000)) (.leaf [(te (.w .u32 (tR Q15 (.c 2))) (.c 2885681152))]) (.bad 200)) (.leaf [(.c 0)])) (.bad 200)) (.leaf [(.c 0)])) (.bad 200)) (.leaf [(.c 0)])) (.leaf [(.c 0)])))))
noncomputable def sq0 : Int := (kZ 2818572288 (kZ 2617245699 (kZ 2885681152 (kZ 2818572288 (kZ 2418016256 (kZ 2885681152 0))))))
def P : Prop :=
 Pn (iteZ (Pe (chkZ 6 0 (kZ 0 (kZ 0 (kZ 0 (kZ 0 (kZ 0 0)))))) 0) (iteZ (Pe (slmE sq0 6) 0) (plcN sq0 6) 0) 0) 0 1000 fun y0 => Pn (iteZ (Pe (chkZ 6 0 (kZ 0 (kZ 0 (kZ 0 (kZ 0 (kZ 0 0)))))) 0) (iteZ (Pe (slmE sq0 6) 0) 0 0) 0) 0 0 fun y1 => Pn (iteZ (Pe (chkZ 6 0 (kZ 0 (kZ 0 (kZ 0 (kZ 0 (kZ 0 0)))))) 0) (iteZ (Pe (slmE sq0 6) 0) 0 12) (chkZ 6 0 (kZ 0 (kZ 0 (kZ 0 (kZ 0 (kZ 0 0))))))) 0 12 fun y2 => (Pb (Pe y2 0) (Pb (Pe y0 3) (Pm (Pl 0 y0) (Pb (Pe (U3 (rdZ (slmZ sq0 6) 0)) 2617245697) (Pm (Pl 1 y0) (Pb (Pe (U3 (rdZ (slmZ sq0 6) 1)) 2418016256) (Pm (Pl 2 y0) ((((Pe (U3 (rdZ (slmZ sq0 6) 2)) 2885681152) : Int) ≠ 0 ↔ (1 : Int) ≠ 0) ∧ True)) Pf)) Pf)) Pf) Pf)
theorem holds  : P := by
 delta P sq0 Pb Pm Pn Pf Pl Pe U3 kZ
 have hq : qQq 2818572288 (qQq 2617245699 (qQq 2885681152 (qQq 2818572288 (qQq 2418016256 (qQq 2885681152 0))))) = qS := rfl
 have hchk : chk7 6 0 0 0 0 0 0 = 0 := (chk_ok (by decide) rfl (fun i hi => by omega) (fun i hi => by omega) (fun ⟨i, k, h1, h2, _⟩ => by omega)).symm
 obtain ⟨r0, r1, r2⟩ := ss_srd
 simp only [hq, chk_ev, hchk, ss_N, ss_E, r0, r1, r2]
 rintro y0 rfl - y1 rfl - y2 rfl -
 have w0 : IntKind.wrap .u32 2617245697 = 2617245697 := by decide
 have w1 : IntKind.wrap .u32 2418016256 = 2418016256 := by decide
 have w2 : IntKind.wrap .u32 2885681152 = 2885681152 := by decide
 rw [w0, w1, w2]
 simp [iteZ, qQz]
theorem plain (i v ro p) : statR 2 rc tree ⟨i, fN, v, ro, p⟩ = P  := by kernel_rfl
theorem ran : ranR us (fun _ _ => .auto) rc 2 tree = true := by kernel_rfl
theorem fineT : fineR 2 rc tree = true := by kernel_rfl
theorem ok : RcOk (cxOf 2) rc := okR us_ok ran fineT okb fun i v ro p hρ hcap hpre => by rw [plain]; have q := hρ.hi; exact holds
end CAwake45
end Go.Proofs.YtdnkgacjibjlhaaGreatDoor
