/-
  What functions of the program answer, as numbers of what they are handed: their runs by the engine, the plain statements behind them. No condition.
-/
import Derived.Test.YtacchdmnhfkekaaKd
import Derived.Test.YtacchdmnhfkekaaGab
import Derived.Test.YtacchdmnhfkekaaGp2
import Derived.Test.YtacchdmnhfkekaaGp1
import Derived.Test.YtacchdmnhfkekaaGp3
set_option linter.unusedVariables false
set_option linter.unusedSimpArgs false
set_option maxRecDepth 100000
namespace Go.Proofs.Ytacchdmnhfkekaa
open Go.Eng Go.RowKit
namespace CRCyc18
def rc : Rc := ⟨19, [none], [.row [.int .u32] 1000000], [(.b .le .i64 (.v 0) (.c 1000))], .one, [.bool (.f 170 (.v 1) (.v 0) (.c 0))]⟩
theorem okb : rc.ok = true := by kernel_rfl
noncomputable def us : SMs := fun Γ ins n => smH (cxG n Γ ins) [] (smR (cxG n Γ ins) [CRNext18.rc, CRReached18.rc, CRFrom18.rc])
theorem us_ok : SMsOk us := fun Γ ins n => qXi (tabsG n Γ ins) (qJn _) (qXe (tabsG n Γ ins) (qQn CRNext18.okb (rc_n CRNext18.ok) (qQn CRReached18.okb (rc_n CRReached18.ok) (qQn CRFrom18.okb (rc_n CRFrom18.ok) (qJo _)))))
def Q0 : E := (.cl 1000 0 4611686018427387904)
def Q1 : E := (.cl 1002 0 4611686018427387904)
def Q2 : E := (tC (.c (-1)) (.c 0))
def Q3 : E := (tp Q1 (.c 1))
def Q4 : E := (tl Q3 (.c 4611686018427387904))
def Q5 : E := (tp Q0 (.c 1))
def tree : TT (List E) :=
 (.br (tl (.v 0) (.v 2)) (.br (tl (.v 0) (.c 1000)) (.loop ⟨1000, [some (0, 4611686018427387904)], [(.c 0)], 1006⟩ (.br (tk Q0 (.v 0)) (.loop ⟨1002, [some (0, 4611686018427387904)], [(.c 0)], 1005⟩ (.br (tk Q1 (.f 162 (.v 1) (.v 0) Q0)) (.br (tR (.f 164 (.v 1) (.v 0) (tC (.c 0) Q2)) Q0) (.new 1004 (t6 (tR (.f 163 (.v 1) (.v 0) Q0) Q1)) (.br (tR (.f 164 (.v 1) (.v 0) (tC (.cl 1004 (-9223372036854775808) 9223372036854775807) Q2)) Q0) (.exit 0) (.br Q4 (.back [Q3]) (.bad 303)))) (.br Q4 (.back [Q3]) (.bad 303))) (.exit 1)) (.br (te (.v 1005) (.c 0)) (.exit 0) (.br (tl Q5 (.c 4611686018427387904)) (.back [Q5]) (.bad 303)))) (.exit 1)) (.br (te (.v 1006) (.c 0)) (.leaf [(.c 1)]) (.leaf [(.c 0)]))) (.bad 200)) (.bad 200))
def P (a b c : Int) : Prop :=
 (Pm (PL a c) (Pm (PL a 1000) (∃ I1000 : Int → Nat → Prop, (∃ m, I1000 0 m) ∧ ∀ y0 : Int, ∀ m0, ((0 ≤ y0 ∧ y0 ≤ 4611686018427387904) ∧ True) → I1000 y0 m0 → (Pb (Pl y0 a) (∃ I1002 : Int → Nat → Prop, (∃ m, I1002 0 m) ∧ ∀ y2 : Int, ∀ m2, ((0 ≤ y2 ∧ y2 ≤ 4611686018427387904) ∧ True) → I1002 y2 m2 → (Pb (Pl y2 (nxN b a y0)) (Pb (rdZ (gfmZ b a (kZ 0 (kZ (-1) 0))) y0) (Pn (W6 (rdZ (nxZ b a y0) y2)) (-9223372036854775808) 9223372036854775807 fun y4 => (Pb (rdZ (gfmZ b a (kZ y4 (kZ (-1) 0))) y0) (Pb (Pe (0 : Int) 0) (Pb (Pe (0 : Int) 0) (((1 : Int) ≠ 0 ↔ ((cycZ b a) : Int) ≠ 0) ∧ True) (((0 : Int) ≠ 0 ↔ ((cycZ b a) : Int) ≠ 0) ∧ True)) (Pm (PL (y0 + 1) 4611686018427387904) (∃ m', m' < m0 ∧ I1000 (y0 + 1) m'))) (Pm (PL (y2 + 1) 4611686018427387904) (∃ m', m' < m2 ∧ I1002 (y2 + 1) m')))) (Pm (PL
 (y2 + 1) 4611686018427387904) (∃ m', m' < m2 ∧ I1002 (y2 + 1) m'))) (Pb (Pe (1 : Int) 0) (Pb (Pe (0 : Int) 0) (((1 : Int) ≠ 0 ↔ ((cycZ b a) : Int) ≠ 0) ∧ True) (((0 : Int) ≠ 0 ↔ ((cycZ b a) : Int) ≠ 0) ∧ True)) (Pm (PL (y0 + 1) 4611686018427387904) (∃ m', m' < m0 ∧ I1000 (y0 + 1) m'))))) (Pb (Pe (1 : Int) 0) (((1 : Int) ≠ 0 ↔ ((cycZ b a) : Int) ≠ 0) ∧ True) (((0 : Int) ≠ 0 ↔ ((cycZ b a) : Int) ≠ 0) ∧ True))))))
set_option maxHeartbeats 4000000 in
theorem holds (n0 c0 r0 : Int) (l_n0 : 0 ≤ n0) (u_n0 : n0 ≤ 1000000) (h_n0 : n0 ≤ r0) (h_pre0 : qQz (decide (n0  ≤  1000)) ≠ 0) : P n0 c0 r0 := by
 delta P Pb Pm Pn PL Pl Pe W6 kZ
 simp only [nrm, nro, Int.reduceEq, Int.reduceNeg, reduceIte]
 have hn : n0 ≤ 1000 := by simpa [qQz] using h_pre0
 refine ⟨h_n0, hn, ?_⟩
 refine ⟨fun p m => (0 ≤ p ∧ p ≤ n0) ∧ (∀ x : Nat, (x : Int) < p → NoC c0 n0 x) ∧ m = (n0 - p).toNat, ⟨_, ⟨by omega, by omega⟩, fun x hx => by omega, rfl⟩, ?_⟩
 rintro p m ⟨p8, p9⟩ ⟨⟨p0, p1⟩, hP, rfl⟩
 refine ⟨fun plt => ?_, fun pge => ?_⟩
 ·refine ⟨fun k m => (0 ≤ k ∧ k ≤ nxN c0 n0 p) ∧ NoK c0 n0 p k ∧ m = (nxN c0 n0 p - k).toNat, ⟨_, ⟨by omega, (nxN_bd c0 n0 p).1⟩, fun j t hj => by omega, rfl⟩, ?_⟩
  rintro k m ⟨k8, k9⟩ ⟨⟨k0, k1⟩, hK, rfl⟩
  have hN := nxN_bd c0 n0 p
  have hr := gfm_0 (c := c0) hn p0 plt
  refine ⟨fun klt => ?_, fun kge => ?_⟩
  ·obtain ⟨t, ht, hw, htn⟩ := nx_at (c := c0) hn p0 k0 klt
   refine ⟨fun h => ?_, fun h => ?_⟩
   ·rintro u hu -
    rw [hw] at hu
    subst hu
    have hf := gfm_f (c := c0) hn (by omega : (0 : Int) ≤ (t : Int)) htn p0 plt
    rw [Int.toNat_natCast] at hf
    refine ⟨fun g => ?_, fun g => ?_⟩
    ·have hc := cyc_some (hr.1 h) (List.mem_of_getElem? ht) (hf.1 g)
     exact hc
    ·exact ⟨by omega, _, by omega, ⟨by omega, by omega⟩, hK.next k0 ht (fun _ w => hf.2 w g), rfl⟩
   ·exact ⟨by omega, _, by omega, ⟨by omega, by omega⟩, hK.next k0 ht (fun w => absurd (hr.2 w) (by simpa using h)), rfl⟩
  ·refine ⟨by omega, _, by omega, ⟨by omega, by omega⟩, fun x hx => ?_, rfl⟩
   by_cases e : (x : Int) = p
   ·have := hK.done p0 kge
    rw [← e, Int.toNat_natCast] at this
    exact this
   ·exact hP x (by omega)
 ·exact cyc_none fun x hx => hP x (by omega)
theorem plain (i v ro p) : statR 2 rc tree ⟨i, fN, v, ro, p⟩ = P (i 0) (i 1) (i 2) := by kernel_rfl
theorem ran : ranR us (fun _ _ => .auto) rc 2 tree = true := by kernel_rfl
theorem fineT : fineR 2 rc tree = true := by kernel_rfl
theorem ok : RcOk (cxOf 2) rc := okR us_ok ran fineT okb fun i v ro p hρ hcap hpre => by rw [plain]; have q := hρ.hi; exact holds _ _ _ (q 0 _ rfl).1 (q 0 _ rfl).2 (hcap _ (mg 0 rfl)) (hpre _ (mg 0 rfl))
end CRCyc18
namespace CRSame17
def rc : Rc := ⟨20, [none, none], [.row [.int .i64] 1000000, .row [.int .i64] 1000000], [], .one, [.bool (.ite (.b .eq .i64 (.v 0) (.v 1)) (.f 32 (.v 2) (.v 3) (.v 0)) (.c 0))]⟩
theorem okb : rc.ok = true := by kernel_rfl
noncomputable def us : SMs := fun Γ ins n => smH (cxG n Γ ins) [] (smR (cxG n Γ ins) [])
theorem us_ok : SMsOk us := fun Γ ins n => qXi (tabsG n Γ ins) (qJn _) (qXe (tabsG n Γ ins) (qJo _))
def tree : TT (List E) :=
(.br (.b .ne .i64 (.v 0) (.v 1))
 (.leaf [(.c 0)])
 (.loop ⟨1000, [some (0, 4611686018427387904)], [(.c 0)], 1002⟩
 (.br (.b .lt .i64 (.cl 1000 0 4611686018427387904) (.v 0))
 (.br (.b .lt .i64 (.cl 1000 0 4611686018427387904) (.v 1))
 (.br (.b .ne .i64 (.w .i64 (.f 13 (.v 2) (.cl 1000 0 4611686018427387904) (.c 0))) (.w .i64 (.f 13 (.v 3) (.cl 1000 0 4611686018427387904) (.c 0))))
 (.exit 0)
 (.br (.b .le .i64 (.b .padd .i64 (.cl 1000 0 4611686018427387904) (.c 1)) (.c 4611686018427387904))
 (.back [(.b .padd .i64 (.cl 1000 0 4611686018427387904) (.c 1))])
 (.bad 303)))
 (.bad 200))
 (.exit 1))
 (.br (.b .eq .i64 (.v 1002) (.c 0))
 (.leaf [(.c 0)])
 (.leaf [(.c 1)]))))
def P (n0 n1 c0 c1 r0 r1 : Int) : Prop :=
 (((qQz (n0 != n1)) ≠ 0 →
  ((0 : Int) ≠ 0 ↔ ((iteZ (qQz (n0 == n1)) (sameZ c0 c1 n0) 0) : Int) ≠ 0) ∧ True) ∧ ((qQz (n0 != n1)) = 0 →
  ∃ I1000 : Int → Nat → Prop, (∃ m, I1000 0 m) ∧
  ∀ y1000 : Int, ∀ m1000, ((0 ≤ y1000 ∧ y1000 ≤ 4611686018427387904) ∧ True) → I1000 y1000 m1000 →
   (((qQz (decide (y1000 < n0))) ≠ 0 →
    (((qQz (decide (y1000 < n1))) ≠ 0 →
     (((qQz ((IntKind.wrap .i64 (rdZ c0 y1000)) != (IntKind.wrap .i64 (rdZ c1 y1000)))) ≠ 0 →
      (((qQz ((0 : Int) == 0)) ≠ 0 →
       ((0 : Int) ≠ 0 ↔ ((iteZ (qQz (n0 == n1)) (sameZ c0 c1 n0) 0) : Int) ≠ 0) ∧ True) ∧ ((qQz ((0 : Int) == 0)) = 0 →
       ((1 : Int) ≠ 0 ↔ ((iteZ (qQz (n0 == n1)) (sameZ c0 c1 n0) 0) : Int) ≠ 0) ∧ True))) ∧ ((qQz ((IntKind.wrap .i64 (rdZ c0 y1000)) != (IntKind.wrap .i64 (rdZ c1 y1000)))) = 0 →
      (((qQz (decide ((y1000 + 1) ≤ 4611686018427387904))) ≠ 0 →
       ∃ m', m' < m1000 ∧ I1000 (y1000 + 1) m') ∧ ((qQz (decide ((y1000 + 1) ≤ 4611686018427387904))) = 0 →
       False))))) ∧ ((qQz (decide (y1000 < n1))) = 0 →
     False))) ∧ ((qQz (decide (y1000 < n0))) = 0 →
    (((qQz ((1 : Int) == 0)) ≠ 0 →
     ((0 : Int) ≠ 0 ↔ ((iteZ (qQz (n0 == n1)) (sameZ c0 c1 n0) 0) : Int) ≠ 0) ∧ True) ∧ ((qQz ((1 : Int) == 0)) = 0 →
     ((1 : Int) ≠ 0 ↔ ((iteZ (qQz (n0 == n1)) (sameZ c0 c1 n0) 0) : Int) ≠ 0) ∧ True))))))
theorem holds (n0 n1 c0 c1 r0 r1 : Int) (l_n0 : 0 ≤ n0) (u_n0 : n0 ≤ 1000000) (l_n1 : 0 ≤ n1) (u_n1 : n1 ≤ 1000000) (h_n0 : n0 ≤ r0) (h_n1 : n1 ≤ r1) : P n0 n1 c0 c1 r0 r1 := by
 unfold P
 simp only [nrm, Int.reduceEq, Int.reduceNeg, reduceIte]
 refine ⟨fun h => by simp [h], fun h => ?_⟩
 subst h
 simp only [if_true]
 have hs := sameZ_iff c0 c1 n0
 refine ⟨fun i m => (∀ k : Nat, (k : Int) < i → IntKind.wrap .i64 (rdZ c0 k) = IntKind.wrap .i64 (rdZ c1 k)) ∧ i ≤ n0 ∧ m = (n0 - i).toNat, ⟨_, fun k hk => by omega, l_n0, rfl⟩, fun i m hb hI => ?_⟩
 obtain ⟨hI, hi, rfl⟩ := hI
 obtain ⟨j, rfl⟩ : ∃ j : Nat, i = j := ⟨i.toNat, by omega⟩
 refine ⟨fun h1 => ⟨fun h2 => ⟨fun h3 => by have : ¬ (sameZ c0 c1 n0 ≠ 0) := fun h => h3 (hs.1 h j h1); simp_all, fun h3 => ⟨fun h4 => ⟨_, ?_, fun k hk => ?_, by omega, rfl⟩, fun h4 => by omega⟩⟩, fun h2 => by omega⟩, fun h1 => by have := hs.2 fun k hk => hI k (by omega); simp_all⟩
 ·omega
 ·by_cases e : k = j
  ·subst e; exact h3
  ·exact hI k (by omega)
theorem plain (i v ro p) : statR 2 rc tree ⟨i, fN, v, ro, p⟩ = P (i 0) (i 1) (i 2) (i 3) (i 4) (i 5) := by kernel_rfl
theorem ran : ranR us (fun _ _ => .auto) rc 2 tree = true := by kernel_rfl
theorem fineT : fineR 2 rc tree = true := by kernel_rfl
theorem ok : RcOk (cxOf 2) rc := okR us_ok ran fineT okb fun i v ro p hρ hcap hpre => by rw [plain]; have q := hρ.hi; exact holds _ _ _ _ _ _ (q 0 _ rfl).1 (q 0 _ rfl).2 (q 1 _ rfl).1 (q 1 _ rfl).2 (hcap _ (mg 0 rfl)) (hcap _ (mg 1 rfl))
end CRSame17
namespace CRFixes18
def rc : Rc := ⟨13, [none, none], [.row [.int .i64, .int .i64] 1000000, .row [.int .i64, .int .i64] 1000000], [], .one, [.bool (.ite (.b .eq .i64 (.v 0) (.v 1)) (.f 149 (.v 2) (.v 3) (.v 0)) (.c 0))]⟩
theorem okb : rc.ok = true := by kernel_rfl
noncomputable def us : SMs := fun Γ ins n => smH (cxG n Γ ins) [] (smR (cxG n Γ ins) [])
theorem us_ok : SMsOk us := fun Γ ins n => qXi (tabsG n Γ ins) (qJn _) (qXe (tabsG n Γ ins) (qJo _))
def Q0 : E := (.cl 1000 0 4611686018427387904)
def Q1 : E := (tR (.v 2) Q0)
def Q2 : E := (tR (.v 3) Q0)
def Q3 : E := (tp Q0 (.c 1))
def tree : TT (List E) :=
 (.br (tn (.v 0) (.v 1)) (.leaf [(.c 0)]) (.loop ⟨1000, [some (0, 4611686018427387904)], [(.c 0)], 1006⟩ (.br (tk Q0 (.v 0)) (.new 1002 (t6 (tR Q1 (.c 0))) (.new 1003 (t6 (tR Q1 (.c 1))) (.br (tk Q0 (.v 1)) (.new 1004 (t6 (tR Q2 (.c 0))) (.new 1005 (t6 (tR Q2 (.c 1))) (.br (.nt (.ite (te (.cl 1002 (-9223372036854775808) 9223372036854775807) (.cl 1004 (-9223372036854775808) 9223372036854775807)) (te (.cl 1003 (-9223372036854775808) 9223372036854775807) (.cl 1005 (-9223372036854775808) 9223372036854775807)) (.c 0))) (.exit 0) (.br (tl Q3 (.c 4611686018427387904)) (.back [Q3]) (.bad 303))))) (.bad 200)))) (.exit 1)) (.br (te (.v 1006) (.c 0)) (.leaf [(.c 0)]) (.leaf [(.c 1)]))))
def P (a b c d e f : Int) : Prop :=
 (Pb (Pd a b) (((0 : Int) ≠ 0 ↔ ((iteZ (Pe a b) (smfZ c d a) 0) : Int) ≠ 0) ∧ True) (∃ I1000 : Int → Nat → Prop, (∃ m, I1000 0 m) ∧ ∀ y0 : Int, ∀ m0, ((0 ≤ y0 ∧ y0 ≤ 4611686018427387904) ∧ True) → I1000 y0 m0 → (Pb (Pl y0 a) (Pn (W6 (rdZ (rdZ c y0) 0)) (-9223372036854775808) 9223372036854775807 fun y2 => Pn (W6 (rdZ (rdZ c y0) 1)) (-9223372036854775808) 9223372036854775807 fun y3 => (Pm (Pl y0 b) (Pn (W6 (rdZ (rdZ d y0) 0)) (-9223372036854775808) 9223372036854775807 fun y4 => Pn (W6 (rdZ (rdZ d y0) 1)) (-9223372036854775808) 9223372036854775807 fun y5 => (Pb (Pe (iteZ (Pe y2 y4) (Pe y3 y5) 0) 0) (Pb (Pe (0 : Int) 0) (((0 : Int) ≠ 0 ↔ ((iteZ (Pe a b) (smfZ c d a) 0) : Int) ≠ 0) ∧ True) (((1 : Int) ≠ 0 ↔ ((iteZ (Pe a b) (smfZ c d a) 0) : Int) ≠ 0) ∧ True)) (Pm (PL (y0 + 1)
 4611686018427387904) (∃ m', m' < m0 ∧ I1000 (y0 + 1) m')))))) (Pb (Pe (1 : Int) 0) (((0 : Int) ≠ 0 ↔ ((iteZ (Pe a b) (smfZ c d a) 0) : Int) ≠ 0) ∧ True) (((1 : Int) ≠ 0 ↔ ((iteZ (Pe a b) (smfZ c d a) 0) : Int) ≠ 0) ∧ True)))))
theorem holds (n0 n1 c0 c1 r0 r1 : Int) (l_n0 : 0 ≤ n0) (u_n0 : n0 ≤ 1000000) (l_n1 : 0 ≤ n1) (u_n1 : n1 ≤ 1000000) (h_n0 : n0 ≤ r0) (h_n1 : n1 ≤ r1) : P n0 n1 c0 c1 r0 r1 := by
 delta P Pb Pm Pn PL Pl Pe Pd W6
 simp only [nrm, Int.reduceEq, Int.reduceNeg, reduceIte]
 refine And.intro (fun h => by simp [h]) (fun h => ?_)
 have h : n0 = n1 := h
 subst h
 refine ⟨fun i m => 0 ≤ i ∧ m = (n0 - i).toNat ∧ ∀ j : Nat, (j : Int) < i → qQw [.int .i64, .int .i64] (rdZ c0 j) = qQw [.int .i64, .int .i64] (rdZ c1 j), ⟨_, by omega, rfl, fun j hj => by omega⟩, ?_⟩
 rintro i m hb ⟨h0, rfl, hI⟩
 have e0 : ∀ c : Int, qQw [.int .i64, .int .i64] (rdZ c i) = [.int .i64 (IntKind.wrap .i64 (rdZ (rdZ c i) 0)), .int .i64 (IntKind.wrap .i64 (rdZ (rdZ c i) 1))] := fun c => rfl
 refine And.intro (fun hi a ha _ b hb1 _ => And.intro (fun _ c hc _ d hd _ => And.intro (fun hz => ?_) (fun hz => And.intro (fun _ => ⟨_, ?_, by omega, rfl, fun j hj => ?_⟩) (fun h => by omega))) (fun h => by omega)) (fun hi => ?_)
 ·subst ha hb1 hc hd
  have hne : smfZ c0 c1 n0 = 0 := by
   unfold smfZ
   refine if_neg fun g => ?_
   have := g i.toNat (by omega)
   rw [show ((i.toNat : Nat) : Int) = i by omega, e0, e0] at this
   simp only [List.cons.injEq, Value.int.injEq, true_and, and_true] at this
   rw [this.1, this.2] at hz
   simp [qQz] at hz
  simp [hne]
 ·omega
 ·by_cases e : (j : Int) = i
  ·subst ha hb1 hc hd
   rw [e, e0, e0]
   by_cases g1 : IntKind.wrap .i64 (rdZ (rdZ c0 i) 0) = IntKind.wrap .i64 (rdZ (rdZ c1 i) 0)
   ·by_cases g2 : IntKind.wrap .i64 (rdZ (rdZ c0 i) 1) = IntKind.wrap .i64 (rdZ (rdZ c1 i) 1)
    ·rw [g1, g2]
    ·exfalso
     have g3 := beq_eq_false_iff_ne.2 g2
     simp [g1, g3, qQz] at hz
   ·simp [g1] at hz
  ·exact hI j (by omega)
 ·unfold smfZ
  rw [if_pos fun j hj => hI j (by omega)]
  simp
theorem plain (i v ro p) : statR 2 rc tree ⟨i, fN, v, ro, p⟩ = P (i 0) (i 1) (i 2) (i 3) (i 4) (i 5) := by kernel_rfl
theorem ran : ranR us (fun _ _ => .auto) rc 2 tree = true := by kernel_rfl
theorem fineT : fineR 2 rc tree = true := by kernel_rfl
theorem ok : RcOk (cxOf 2) rc := okR us_ok ran fineT okb fun i v ro p hρ hcap hpre => by rw [plain]; have q := hρ.hi; exact holds _ _ _ _ _ _ (q 0 _ rfl).1 (q 0 _ rfl).2 (q 1 _ rfl).1 (q 1 _ rfl).2 (hcap _ (mg 0 rfl)) (hcap _ (mg 1 rfl))
end CRFixes18
namespace CRBools18
def rc : Rc := ⟨8, [none, none], [.row [.bool] 1000000, .row [.bool] 1000000], [], .one, [.bool (.ite (.b .eq .i64 (.v 0) (.v 1)) (.f 62 (.v 2) (.v 3) (.v 0)) (.c 0))]⟩
theorem okb : rc.ok = true := by kernel_rfl
noncomputable def us : SMs := fun Γ ins n => smH (cxG n Γ ins) [] (smR (cxG n Γ ins) [])
theorem us_ok : SMsOk us := fun Γ ins n => qXi (tabsG n Γ ins) (qJn _) (qXe (tabsG n Γ ins) (qJo _))
def tree : TT (List E) :=
(.br (.b .ne .i64 (.v 0) (.v 1))
 (.leaf [(.c 0)])
 (.loop ⟨1000, [some (0, 4611686018427387904)], [(.c 0)], 1002⟩
 (.br (.b .lt .i64 (.cl 1000 0 4611686018427387904) (.v 0))
 (.br (.b .lt .i64 (.cl 1000 0 4611686018427387904) (.v 1))
 (.br (.b .ne .i64 (.nt (.f 13 (.v 2) (.cl 1000 0 4611686018427387904) (.c 0))) (.nt (.f 13 (.v 3) (.cl 1000 0 4611686018427387904) (.c 0))))
 (.exit 0)
 (.br (.b .le .i64 (.b .padd .i64 (.cl 1000 0 4611686018427387904) (.c 1)) (.c 4611686018427387904))
 (.back [(.b .padd .i64 (.cl 1000 0 4611686018427387904) (.c 1))])
 (.bad 303)))
 (.bad 200))
 (.exit 1))
 (.br (.b .eq .i64 (.v 1002) (.c 0))
 (.leaf [(.c 0)])
 (.leaf [(.c 1)]))))
def P (n0 n1 c0 c1 r0 r1 : Int) : Prop :=
 (((qQz (n0 != n1)) ≠ 0 →
  ((0 : Int) ≠ 0 ↔ ((iteZ (qQz (n0 == n1)) (sameB c0 c1 n0) 0) : Int) ≠ 0) ∧ True) ∧ ((qQz (n0 != n1)) = 0 →
  ∃ I1000 : Int → Nat → Prop, (∃ m, I1000 0 m) ∧
  ∀ y1000 : Int, ∀ m1000, ((0 ≤ y1000 ∧ y1000 ≤ 4611686018427387904) ∧ True) → I1000 y1000 m1000 →
   (((qQz (decide (y1000 < n0))) ≠ 0 →
    (((qQz (decide (y1000 < n1))) ≠ 0 →
     (((qQz ((qQz ((rdZ c0 y1000) == 0)) != (qQz ((rdZ c1 y1000) == 0)))) ≠ 0 →
      (((qQz ((0 : Int) == 0)) ≠ 0 →
       ((0 : Int) ≠ 0 ↔ ((iteZ (qQz (n0 == n1)) (sameB c0 c1 n0) 0) : Int) ≠ 0) ∧ True) ∧ ((qQz ((0 : Int) == 0)) = 0 →
       ((1 : Int) ≠ 0 ↔ ((iteZ (qQz (n0 == n1)) (sameB c0 c1 n0) 0) : Int) ≠ 0) ∧ True))) ∧ ((qQz ((qQz ((rdZ c0 y1000) == 0)) != (qQz ((rdZ c1 y1000) == 0)))) = 0 →
      (((qQz (decide ((y1000 + 1) ≤ 4611686018427387904))) ≠ 0 →
       ∃ m', m' < m1000 ∧ I1000 (y1000 + 1) m') ∧ ((qQz (decide ((y1000 + 1) ≤ 4611686018427387904))) = 0 →
       False))))) ∧ ((qQz (decide (y1000 < n1))) = 0 →
     False))) ∧ ((qQz (decide (y1000 < n0))) = 0 →
    (((qQz ((1 : Int) == 0)) ≠ 0 →
     ((0 : Int) ≠ 0 ↔ ((iteZ (qQz (n0 == n1)) (sameB c0 c1 n0) 0) : Int) ≠ 0) ∧ True) ∧ ((qQz ((1 : Int) == 0)) = 0 →
     ((1 : Int) ≠ 0 ↔ ((iteZ (qQz (n0 == n1)) (sameB c0 c1 n0) 0) : Int) ≠ 0) ∧ True))))))
theorem holds (n0 n1 c0 c1 r0 r1 : Int) (l_n0 : 0 ≤ n0) (u_n0 : n0 ≤ 1000000) (l_n1 : 0 ≤ n1) (u_n1 : n1 ≤ 1000000) (h_n0 : n0 ≤ r0) (h_n1 : n1 ≤ r1) : P n0 n1 c0 c1 r0 r1 := by
 unfold P
 simp only [nrm, Int.reduceEq, Int.reduceNeg, reduceIte]
 refine ⟨fun h => by simp [h], fun h => ?_⟩
 subst h
 simp only [if_true, sameB_ne]
 refine ⟨fun i m => i ≤ n0 ∧ (∀ j : Nat, (j : Int) < i → (rdZ c0 j ≠ 0 ↔ rdZ c1 j ≠ 0)) ∧ m = (n0 - i).toNat, ⟨_, l_n0, fun j hj => by omega, rfl⟩, fun i m hb hI => ?_⟩
 obtain ⟨hi, hj, rfl⟩ := hI
 have hi0 := nat_i hb.1
 refine ⟨fun h1 => ⟨fun _ => ⟨fun h2 => ?_, fun h2 => ⟨fun _ => ⟨_, ?_, ?_, fun j g => ?_, rfl⟩, fun _ => ?_⟩⟩, fun _ => ?_⟩, fun h1 => ?_⟩
 ·intro g
  have := g i.toNat (by omega)
  rw [hi0] at this
  apply h2
  by_cases a : rdZ c0 i = 0 <;> by_cases b : rdZ c1 i = 0 <;> simp_all [qQz]
 ·omega
 ·omega
 ·by_cases g2 : (j : Int) < i
  ·exact hj j g2
  ·rw [show (j : Int) = i by omega]
   by_cases a : rdZ c0 i = 0 <;> by_cases b : rdZ c1 i = 0 <;> simp_all [qQz]
 ·omega
 ·omega
 ·intro g; exact g fun j g => hj j (by omega)
theorem plain (i v ro p) : statR 2 rc tree ⟨i, fN, v, ro, p⟩ = P (i 0) (i 1) (i 2) (i 3) (i 4) (i 5) := by kernel_rfl
theorem ran : ranR us (fun _ _ => .auto) rc 2 tree = true := by kernel_rfl
theorem fineT : fineR 2 rc tree = true := by kernel_rfl
theorem ok : RcOk (cxOf 2) rc := okR us_ok ran fineT okb fun i v ro p hρ hcap hpre => by rw [plain]; have q := hρ.hi; exact holds _ _ _ _ _ _ (q 0 _ rfl).1 (q 0 _ rfl).2 (q 1 _ rfl).1 (q 1 _ rfl).2 (hcap _ (mg 0 rfl)) (hcap _ (mg 1 rfl))
end CRBools18
end Go.Proofs.Ytacchdmnhfkekaa
