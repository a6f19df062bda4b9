/-
  What functions of the program answer, as numbers of what they are handed: their runs by the engine, the plain statements behind them. No condition.
-/
import Derived.Test.YtacchdmnhfkekaaKd
import Derived.Test.YtacchdmnhfkekaaGab
import Derived.Test.YtacchdmnhfkekaaGp2
set_option linter.unusedVariables false
set_option linter.unusedSimpArgs false
set_option maxRecDepth 100000
namespace Go.Proofs.Ytacchdmnhfkekaa
open Go.Eng Go.RowKit
namespace CRAhead18
def rc : Rc := ⟨12, [none, none, none], [.row [.int .u32] 1000000, .int .i64, .int .i64], [(.b .le .i64 (.v 0) (.c 1000))], .one, [.bool (.f 165 (.v 3) (.v 0) (.f 11 (.v 1) (.f 11 (.v 2) (.c 0) (.c 0)) (.c 0)))]⟩
theorem okb : rc.ok = true := by kernel_rfl
noncomputable def us : SMs := fun Γ ins n => smH (cxG n Γ ins) [] (smR (cxG n Γ ins) [CRFrom18.rc, CRReached18.rc])
theorem us_ok : SMsOk us := fun Γ ins n => qXi (tabsG n Γ ins) (qJn _) (qXe (tabsG n Γ ins) (qQn CRFrom18.okb (rc_n CRFrom18.ok) (qQn CRReached18.okb (rc_n CRReached18.ok) (qJo _))))
def Q0 : E := (tC (.c (-1)) (.c 0))
def Q1 : E := (tC (.c 0) Q0)
def Q2 : E := (.f 164 (.v 3) (.v 0) Q1)
def tree : TT (List E) :=
 (.br (tl (.v 0) (.v 4)) (.br (tl (.v 0) (.c 1000)) (.br (tk (.v 1) (.c 0)) (.leaf [(.c 0)]) (.br (tk (.v 2) (.c 0)) (.leaf [(.c 0)]) (.br (tl (.v 0) (.v 1)) (.leaf [(.c 0)]) (.br (tl (.v 0) (.v 2)) (.leaf [(.c 0)]) (.br (tl (.c 0) (.v 1)) (.br (tk (.v 1) (.v 0)) (.br (.nt (tR Q2 (.v 1))) (.leaf [(.c 0)]) (.br (tl (.c 0) (.v 2)) (.br (tk (.v 2) (.v 0)) (.br (.nt (tR Q2 (.v 2))) (.leaf [(.c 0)]) (.br (te (.v 1) (.v 2)) (.leaf [(.c 1)]) (.leaf [(.nt (tR (.f 164 (.v 3) (.v 0) (tC (.c 0) (tC (.v 1) (.c 0)))) (.v 2)))]))) (.bad 200)) (.bad 200))) (.bad 200)) (.bad 200)))))) (.bad 200)) (.bad 200))
def P (a b c d e : Int) : Prop :=
 (Pm (PL a e) (Pm (PL a 1000) (Pb (Pl b 0) (((0 : Int) ≠ 0 ↔ ((ahdZ d a (kZ b (kZ c 0))) : Int) ≠ 0) ∧ True) (Pb (Pl c 0) (((0 : Int) ≠ 0 ↔ ((ahdZ d a (kZ b (kZ c 0))) : Int) ≠ 0) ∧ True) (Pb (PL a b) (((0 : Int) ≠ 0 ↔ ((ahdZ d a (kZ b (kZ c 0))) : Int) ≠ 0) ∧ True) (Pb (PL a c) (((0 : Int) ≠ 0 ↔ ((ahdZ d a (kZ b (kZ c 0))) : Int) ≠ 0) ∧ True) (Pm (PL 0 b) (Pm (Pl b a) (Pb (Pe (rdZ (gfmZ d a (kZ 0 (kZ (-1) 0))) b) 0) (((0 : Int) ≠ 0 ↔ ((ahdZ d a (kZ b (kZ c 0))) : Int) ≠ 0) ∧ True) (Pm (PL 0 c) (Pm (Pl c a) (Pb (Pe (rdZ (gfmZ d a (kZ 0 (kZ (-1) 0))) c) 0) (((0 : Int) ≠ 0 ↔ ((ahdZ d a (kZ b (kZ c 0))) : Int) ≠ 0) ∧ True) (Pb (Pe b c) (((1 : Int) ≠ 0 ↔ ((ahdZ d a (kZ b (kZ c 0))) : Int) ≠ 0) ∧ True) ((((Pe (rdZ (gfmZ d a (kZ 0 (kZ b 0))) c) 0) : Int) ≠ 0 ↔ ((ahdZ d a (kZ b (kZ c 0))) : Int)
 ≠ 0) ∧ True))))))))))))))
theorem holds (n0 p1 p2 c0 r0 : Int) (l_n0 : 0 ≤ n0) (u_n0 : n0 ≤ 1000000) (l_p1 : -9223372036854775808 ≤ p1) (u_p1 : p1 ≤ 9223372036854775807) (l_p2 : -9223372036854775808 ≤ p2) (u_p2 : p2 ≤ 9223372036854775807) (h_n0 : n0 ≤ r0) (h_pre0 : qQz (decide (n0  ≤  1000)) ≠ 0) : P n0 p1 p2 c0 r0 := by
 delta P Pb Pm PL Pl Pe kZ
 simp only [nrm, nro, Int.reduceEq, Int.reduceNeg, reduceIte]
 have hn : n0 ≤ 1000 := by simpa [qQz] using h_pre0
 have no : ¬ahdP c0 n0 p1 p2 → ahdZ c0 n0 (qQj p1 (qQj p2 0)) = 0 := fun h => Classical.byContradiction fun g => h (ahd_ne.1 g)
 refine ⟨by omega, hn, fun h => ?_, fun a0 => ⟨fun h => ?_, fun b0 => ⟨fun h => ?_, fun a1 => ⟨fun h => ?_, fun b1 => ?_⟩⟩⟩⟩
 ·exact no fun g => by have := g.1; omega
 ·exact no fun g => by have := g.2.2.1; omega
 ·exact no fun g => by have := g.2.1; omega
 ·exact no fun g => by have := g.2.2.2.1; omega
 obtain ⟨h1, h2, h3, h4⟩ := ahd_doc (c := c0) hn a0 a1 b0 b1
 refine ⟨a0, a1, fun h => no (h1 h), fun _ => ⟨b0, b1, fun h => no (h2 h), fun h => ⟨fun e => ahd_ne.2 (h3 h e), fun e => ?_⟩⟩⟩
 rw [← h4 h e]
 exact ahd_ne.symm
theorem plain (i v ro p) : statR 2 rc tree ⟨i, fN, v, ro, p⟩ = P (i 0) (i 1) (i 2) (i 3) (i 4) := by kernel_rfl
theorem ran : ranR us (fun _ _ => .auto) rc 2 tree = true := by kernel_rfl
theorem fineT : fineR 2 rc tree = true := by kernel_rfl
theorem ok : RcOk (cxOf 2) rc := okR us_ok ran fineT okb fun i v ro p hρ hcap hpre => by rw [plain]; have q := hρ.hi; exact holds _ _ _ _ _ (q 0 _ rfl).1 (q 0 _ rfl).2 (q 1 _ rfl).1 (q 1 _ rfl).2 (q 2 _ rfl).1 (q 2 _ rfl).2 (hcap _ (mg 0 rfl)) (hpre _ (mg 0 rfl))
end CRAhead18
namespace CRBacks18
def rc : Rc := ⟨15, [none], [.row [.int .u32] 1000000], [(.b .le .i64 (.v 0) (.c 1000))], .one, [.row [.int .i64, .int .i64] 37 (.f 167 (.v 1) (.v 0) (.c 0)) (.f 166 (.v 1) (.v 0) (.c 0))]⟩
theorem okb : rc.ok = true := by kernel_rfl
noncomputable def us : SMs := fun Γ ins n => smH (cxG n Γ ins) [] (smR (cxG n Γ ins) [CRNext18.rc, CRAhead18.rc])
theorem us_ok : SMsOk us := fun Γ ins n => qXi (tabsG n Γ ins) (qJn _) (qXe (tabsG n Γ ins) (qQn CRNext18.okb (rc_n CRNext18.ok) (qQn CRAhead18.okb (rc_n CRAhead18.ok) (qJo _))))
def Q0 : E := (.cl 1002 0 4611686018427387904)
def Q1 : E := (.cl 1006 0 4611686018427387904)
def Q2 : E := (.f 163 (.v 1) (.v 0) Q0)
def Q3 : E := (tR Q2 Q1)
def Q4 : E := (t6 Q3)
def Q5 : E := (.cl 1005 0 1000000)
def Q6 : E := (tp Q5 (.c 1))
def Q7 : E := (tl Q6 (.c 1000000))
def Q8 : E := (tp Q1 (.c 1))
def Q9 : E := (tl Q8 (.c 4611686018427387904))
def Q10 : E := (tp Q0 (.c 1))
def tree : TT (List E) :=
 (.loop ⟨1000, [none, some (0, 1000000), some (0, 4611686018427387904)], [(.c 0), (.c 0), (.c 0)], 1011⟩ (.br (tk Q0 (.v 0)) (.br (tl (.v 0) (.v 2)) (.loop ⟨1004, [none, some (0, 1000000), some (0, 4611686018427387904)], [(.v 1000), (.cl 1001 0 1000000), (.c 0)], 1010⟩ (.br (tk Q1 (.f 162 (.v 1) (.v 0) Q0)) (.new 1008 Q4 (.br (tl (.v 0) (.c 1000)) (.new 1009 (.f 165 (.v 1) (.v 0) (tC (.cl 1008 (-9223372036854775808) 9223372036854775807) (tC Q0 (.c 0)))) (.br (.cl 1009 0 1) (.br Q7 (.br Q7 (.br Q9 (.back [(.f 14 (.v 1004) Q5 (tC Q0 (tC Q4 (.c 0)))), Q6, Q8]) (.bad 303)) (.bad 303)) (.bad 200)) (.br Q9 (.back [(.v 1004), Q5, Q8]) (.bad 303)))) (.bad 200))) (.exit 0)) (.br (tl Q10 (.c 4611686018427387904)) (.back [(.v 1004), Q5, Q10]) (.bad 303))) (.bad 200)) (.exit 0)) (.leaf [(.cl 1001 0
 1000000), (.v 1000)]))
def P (a b c : Int) : Prop :=
 ∃ I1000 : Int → Int → Int → Nat → Prop, (∃ m, I1000 0 0 0 m) ∧ ∀ y0 y1 y2 : Int, ∀ m0, (True ∧ (0 ≤ y1 ∧ y1 ≤ 1000000) ∧ (0 ≤ y2 ∧ y2 ≤ 4611686018427387904) ∧ True) → I1000 y0 y1 y2 m0 → (Pb (Pl y2 a) (Pm (PL a c) (∃ I1004 : Int → Int → Int → Nat → Prop, (∃ m, I1004 y0 y1 0 m) ∧ ∀ y4 y5 y6 : Int, ∀ m4, (True ∧ (0 ≤ y5 ∧ y5 ≤ 1000000) ∧ (0 ≤ y6 ∧ y6 ≤ 4611686018427387904) ∧ True) → I1004 y4 y5 y6 m4 → (Pb (Pl y6 (nxN b a y2)) (Pn (W6 (rdZ (nxZ b a y2) y6)) (-9223372036854775808) 9223372036854775807 fun y8 => (Pm (PL a 1000) (Pn (ahdZ b a (kZ y8 (kZ y2 0))) 0 1 fun y9 => (Pb y9 (Pm (PL (y5 + 1) 1000000) (Pm (PL (y5 + 1) 1000000) (Pm (PL (y6 + 1) 4611686018427387904) (∃ m', m' < m4 ∧ I1004 (updZ y4 y5 (kZ y2 (kZ (W6 (rdZ (nxZ b a y2) y6)) 0))) (y5 + 1) (y6 + 1) m')))) (Pm (PL (y6 + 1)
 4611686018427387904) (∃ m', m' < m4 ∧ I1004 y4 y5 (y6 + 1) m')))))) (Pm (PL (y2 + 1) 4611686018427387904) (∃ m', m' < m0 ∧ I1000 y4 y5 (y2 + 1) m'))))) ((y1 : Int) = (bkN b a) ∧ qQd [.int .i64, .int .i64] y0 (bkZ b a) y1 ∧ True))
set_option maxHeartbeats 4000000 in
open Classical in
theorem holds (n0 c0 r0 : Int) (l_n0 : 0 ≤ n0) (u_n0 : n0 ≤ 1000000) (h_n0 : n0 ≤ r0) (h_pre0 : qQz (decide (n0  ≤  1000)) ≠ 0) : P n0 c0 r0 := by
 delta P Pb Pm Pn PL Pl W6 kZ
 simp only [nrm, nro, Int.reduceEq, Int.reduceNeg, reduceIte]
 have hn : n0 ≤ 1000 := by simpa [qQz] using h_pre0
 refine ⟨fun q l p m => (0 ≤ p ∧ p ≤ n0) ∧ Rw q ((bksL c0 n0 p.toNat).map cdP) ∧ l = (bksL c0 n0 p.toNat).length ∧ m = (n0 - p).toNat, ⟨_, ⟨by omega, by omega⟩, by simpa [bksL] using Rw.nil 0, by simp [bksL], rfl⟩, ?_⟩
 rintro q l p m ⟨⟨l0, l1⟩, ⟨p8, p9⟩⟩ ⟨⟨p0, p1⟩, hR, hl, rfl⟩
 refine ⟨fun plt => ⟨h_n0, ?_⟩, fun pge => ?_⟩
 ·refine ⟨fun q l k m => (0 ≤ k ∧ k ≤ nxN c0 n0 p) ∧ Rw q ((bkK c0 n0 p k).map cdP) ∧ l = (bkK c0 n0 p k).length ∧ m = (nxN c0 n0 p - k).toNat, ⟨_, ⟨by omega, (nxN_bd c0 n0 p).1⟩, by rw [bkK_0]; exact hR, by rw [bkK_0]; exact hl, rfl⟩, ?_⟩
  rintro q2 l2 k m ⟨⟨x0, x1⟩, ⟨k8, k9⟩⟩ ⟨⟨k0, k1⟩, hR2, hl2, rfl⟩
  have hN := nxN_bd c0 n0 p
  have hlen := bkK_len c0 n0 p (k + 1) p0
  refine ⟨fun klt => ?_, fun kge => ⟨by omega, _, ?_, ⟨by omega, by omega⟩, by rw [← bkK_done p0 kge]; exact hR2, by rw [← bkK_done p0 kge]; exact hl2, rfl⟩⟩
  ·rintro t ht -
   have hat := nxL_at (c := c0) hn p0 k0 klt
   rw [← ht] at hat ⊢
   have hnext := bkK_next k0 hat
   refine ⟨hn, ?_⟩
   rintro a ha -
   refine ⟨fun h => ?_, fun h => ?_⟩
   ·have hA : ahdP c0 n0 t p := ahd_ne.1 (by rw [← ha]; exact h)
    rw [if_pos hA] at hnext
    rw [hnext, List.length_append, List.length_singleton] at hlen
    refine ⟨by omega, by omega, by omega, _, ?_, ⟨by omega, by omega⟩, ?_, by rw [hnext, List.length_append, List.length_singleton, hl2]; rfl, rfl⟩
    ·omega
    ·rw [hnext, List.map_append]
     exact hR2.snoc (by rw [List.length_map]; exact hl2)
   ·have hA : ¬ahdP c0 n0 t p := fun g => ahd_ne.2 g (by rw [← ha]; exact h)
    rw [if_neg hA, List.append_nil] at hnext
    exact ⟨by omega, _, by omega, ⟨by omega, by omega⟩, by rw [hnext]; exact hR2, by rw [hnext]; exact hl2, rfl⟩
  ·omega
 ·have e : p = n0 := by omega
  subst e
  have e2 : min p.toNat 1000 = p.toNat := by omega
  unfold bkN bkZ
  rw [e2]
  refine ⟨hl, ?_⟩
  exact hR.eq (by rw [List.length_map, hl]; exact Int.le_refl _)
theorem plain (i v ro p) : statR 2 rc tree ⟨i, fN, v, ro, p⟩ = P (i 0) (i 1) (i 2) := by kernel_rfl
theorem ran : ranR us (fun _ _ => .auto) rc 2 tree = true := by kernel_rfl
theorem fineT : fineR 2 rc tree = true := by kernel_rfl
theorem ok : RcOk (cxOf 2) rc := okR us_ok ran fineT okb fun i v ro p hρ hcap hpre => by rw [plain]; have q := hρ.hi; exact holds _ _ _ (q 0 _ rfl).1 (q 0 _ rfl).2 (hcap _ (mg 0 rfl)) (hpre _ (mg 0 rfl))
end CRBacks18
namespace CRLoop18
def rc : Rc := ⟨17, [none, none], [.row [.int .u32] 1000000, .int .i64], [(.b .le .i64 (.v 0) (.c 1000))], .one, [.row [.int .i64] 3 (.f 169 (.v 2) (.v 0) (.v 1)) (.f 168 (.v 2) (.v 0) (.v 1))]⟩
theorem okb : rc.ok = true := by kernel_rfl
def mk17_9 : qZu := [([0, 10], .num (0) (4611686018427387904)), ([0, 9], .num (0) (1)), ([0, 21], .wilds 46)]
noncomputable def us : SMs := fun Γ ins n => smH (cxG n Γ ins) [] (smR (cxG n Γ ins) [CRBacks18.rc, CRReached18.rc, CRFrom18.rc])
theorem us_ok : SMsOk us := fun Γ ins n => qXi (tabsG n Γ ins) (qJn _) (qXe (tabsG n Γ ins) (qQn CRBacks18.okb (rc_n CRBacks18.ok) (qQn CRReached18.okb (rc_n CRReached18.ok) (qQn CRFrom18.okb (rc_n CRFrom18.ok) (qJo _)))))
def Q0 : E := (.cl 1002 0 4611686018427387904)
def Q1 : E := (.cl 1005 0 4611686018427387904)
def Q2 : E := (.f 167 (.v 2) (.v 0) (.c 0))
def Q3 : E := (tR Q2 Q1)
def Q4 : E := (tp Q1 (.c 1))
def Q5 : E := (tl Q4 (.c 4611686018427387904))
def Q6 : E := (.cl 1008 (-9223372036854775808) 9223372036854775807)
def Q7 : E := (.cl 1001 0 1000000)
def Q8 : E := (tp Q7 (.c 1))
def Q9 : E := (tl Q8 (.c 1000000))
def Q10 : E := (tp Q0 (.c 1))
def Q11 : E := (tl Q10 (.c 4611686018427387904))
def tree : TT (List E) :=
 (.br (tl (.v 0) (.v 3)) (.br (tl (.v 0) (.c 1000)) (.loop ⟨1000, [none, some (0, 1000000), some (0, 4611686018427387904)], [(.c 0), (.c 0), (.c 0)], 1010⟩ (.br (tk Q0 (.v 0)) (.loop ⟨1004, [some (0, 1), some (0, 4611686018427387904)], [(.c 0), (.c 0)], 1009⟩ (.br (tk Q1 (.f 166 (.v 2) (.v 0) (.c 0))) (.new 1007 (t6 (tR Q3 (.c 1))) (.br (te (.cl 1007 (-9223372036854775808) 9223372036854775807) (.v 1)) (.br (tR (.f 164 (.v 2) (.v 0) (tC (.c 0) (tC (.c (-1)) (.c 0)))) Q0) (.br (te Q0 (.v 1)) (.br Q5 (.back [(.c 1), Q4]) (.bad 303)) (.new 1008 (t6 (tR Q3 (.c 0))) (.br (te Q6 Q0) (.br Q5 (.back [(.c 1), Q4]) (.bad 303)) (.br (tl (.c 0) Q6) (.br (tk Q6 (.v 0)) (.br (tR (.f 164 (.v 2) (.v 0) (tC Q0 (tC (.v 1) (.c 0)))) Q6) (.br Q5 (.back [(.c 1), Q4]) (.bad 303)) (.br Q5 (.back [(.cl 1004 0 1),
 Q4]) (.bad 303))) (.bad 200)) (.bad 200))))) (.br Q5 (.back [(.cl 1004 0 1), Q4]) (.bad 303))) (.br Q5 (.back [(.cl 1004 0 1), Q4]) (.bad 303)))) (.exit 0)) (.br (.cl 1004 0 1) (.br Q9 (.br Q9 (.br Q11 (.back [(.f 14 (.v 1000) Q7 Q0), Q8, Q10]) (.bad 303)) (.bad 303)) (.bad 200)) (.br Q11 (.back [(.v 1000), Q7, Q10]) (.bad 303)))) (.exit 0)) (.leaf [Q7, (.v 1000)])) (.bad 200)) (.bad 200))
def P (a b c d : Int) : Prop :=
 (Pm (PL a d) (Pm (PL a 1000) (∃ I1000 : Int → Int → Int → Nat → Prop, (∃ m, I1000 0 0 0 m) ∧ ∀ y0 y1 y2 : Int, ∀ m0, (True ∧ (0 ≤ y1 ∧ y1 ≤ 1000000) ∧ (0 ≤ y2 ∧ y2 ≤ 4611686018427387904) ∧ True) → I1000 y0 y1 y2 m0 → (Pb (Pl y2 a) (∃ I1004 : Int → Int → Nat → Prop, (∃ m, I1004 0 0 m) ∧ ∀ y4 y5 : Int, ∀ m4, ((0 ≤ y4 ∧ y4 ≤ 1) ∧ (0 ≤ y5 ∧ y5 ≤ 4611686018427387904) ∧ True) → I1004 y4 y5 m4 → (Pb (Pl y5 (bkN c a)) (Pn (W6 (rdZ (rdZ (bkZ c a) y5) 1)) (-9223372036854775808) 9223372036854775807 fun y7 => (Pb (Pe y7 b) (Pb (rdZ (gfmZ c a (kZ 0 (kZ (-1) 0))) y2) (Pb (Pe y2 b) (Pm (PL (y5 + 1) 4611686018427387904) (∃ m', m' < m4 ∧ I1004 1 (y5 + 1) m')) (Pn (W6 (rdZ (rdZ (bkZ c a) y5) 0)) (-9223372036854775808) 9223372036854775807 fun y8 => (Pb (Pe y8 y2) (Pm (PL (y5 + 1) 4611686018427387904) (∃
 m', m' < m4 ∧ I1004 1 (y5 + 1) m')) (Pm (PL 0 y8) (Pm (Pl y8 a) (Pb (rdZ (gfmZ c a (kZ y2 (kZ b 0))) y8) (Pm (PL (y5 + 1) 4611686018427387904) (∃ m', m' < m4 ∧ I1004 1 (y5 + 1) m')) (Pm (PL (y5 + 1) 4611686018427387904) (∃ m', m' < m4 ∧ I1004 y4 (y5 + 1) m')))))))) (Pm (PL (y5 + 1) 4611686018427387904) (∃ m', m' < m4 ∧ I1004 y4 (y5 + 1) m'))) (Pm (PL (y5 + 1) 4611686018427387904) (∃ m', m' < m4 ∧ I1004 y4 (y5 + 1) m')))) (Pb y4 (Pm (PL (y1 + 1) 1000000) (Pm (PL (y1 + 1) 1000000) (Pm (PL (y2 + 1) 4611686018427387904) (∃ m', m' < m0 ∧ I1000 (updZ y0 y1 y2) (y1 + 1) (y2 + 1) m')))) (Pm (PL (y2 + 1) 4611686018427387904) (∃ m', m' < m0 ∧ I1000 y0 y1 (y2 + 1) m'))))) ((y1 : Int) = (lpN c a b) ∧ qQd [.int .i64] y0 (lpZ c a b) y1 ∧ True)))))
set_option maxHeartbeats 4000000 in
open Classical in
theorem holds (n0 p1 c0 r0 : Int) (l_n0 : 0 ≤ n0) (u_n0 : n0 ≤ 1000000) (l_p1 : -9223372036854775808 ≤ p1) (u_p1 : p1 ≤ 9223372036854775807) (h_n0 : n0 ≤ r0) (h_pre0 : qQz (decide (n0  ≤  1000)) ≠ 0) : P n0 p1 c0 r0 := by
 delta P Pb Pm Pn PL Pl Pe W6 kZ
 simp only [nrm, nro, Int.reduceEq, Int.reduceNeg, reduceIte]
 have hn : n0 ≤ 1000 := by simpa [qQz] using h_pre0
 have e2 : min n0.toNat 1000 = n0.toNat := by omega
 refine ⟨h_n0, hn, ?_⟩
 refine ⟨fun q l p m => (0 ≤ p ∧ p ≤ n0) ∧ Rw q (lpL c0 n0 p1 p.toNat) ∧ l = (lpL c0 n0 p1 p.toNat).length ∧ m = (n0 - p).toNat, ⟨_, ⟨by omega, by omega⟩, by simpa [lpL] using Rw.nil 0, by simp [lpL], rfl⟩, ?_⟩
 rintro q l p m ⟨⟨l0, l1⟩, ⟨p8, p9⟩⟩ ⟨⟨p0, px⟩, hR, hl, rfl⟩
 have hll := lpL_len c0 n0 p1 p.toNat
 refine ⟨fun plt => ?_, fun pge => ?_⟩
 ·refine ⟨fun is k m => (0 ≤ k ∧ k ≤ bkN c0 n0) ∧ (is ≠ 0 ↔ LpJ c0 n0 p1 p.toNat k) ∧ m = (bkN c0 n0 - k).toNat, ⟨_, ⟨by omega, (bkN_bd c0 n0).1⟩, ⟨fun h => absurd rfl h, fun h => absurd h LpJ.zero⟩, rfl⟩, ?_⟩
  rintro is k m ⟨⟨i0, i1⟩, ⟨k8, k9⟩⟩ ⟨⟨k0, k1⟩, hJ, rfl⟩
  have hN := bkN_bd c0 n0
  have hr := gfm_0 (c := c0) hn p0 plt
  have ep : ((p.toNat : Nat) : Int) = p := by omega
  refine ⟨fun klt => ?_, fun kge => ?_⟩
  ·obtain ⟨b, t, hat, hw0, hw1, hbn, htn⟩ := bk_at (c := c0) hn k0 klt
   have hst := LpJ.step (h := p1) (p := p.toNat) k0 hat
   rw [ep] at hst
   have one : (t : Int) = p1 ∧ Eng.Way (nxf c0 n0) (fun _ => False) 0 p.toNat ∧ (p = p1 ∨ Eng.Way (nxf c0 n0) (fun x => (x : Int) = p1) p.toNat b) → ((1 : Int) ≠ 0 ↔ LpJ c0 n0 p1 p.toNat (k + 1)) := fun g => ⟨fun _ => hst.2 (.inr g), fun _ => by decide⟩
   have none : ¬((t : Int) = p1 ∧ Eng.Way (nxf c0 n0) (fun _ => False) 0 p.toNat ∧ (p = p1 ∨ Eng.Way (nxf c0 n0) (fun x => (x : Int) = p1) p.toNat b)) → (is ≠ 0 ↔ LpJ c0 n0 p1 p.toNat (k + 1)) := fun g => hJ.trans (hst.trans ⟨fun h => h.resolve_right g, .inl⟩).symm
   rintro u hu -
   rw [hw1] at hu
   subst hu
   refine ⟨fun h1 => ⟨fun h2 => ⟨fun h3 => ⟨by omega, _, ?_, ⟨by omega, by omega⟩, one ⟨h1, hr.1 h2, .inl h3⟩, rfl⟩, fun h3 => ?_⟩, fun h2 => ⟨by omega, _, ?_, ⟨by omega, by omega⟩, none fun g => hr.2 g.2.1 (by simpa using h2), rfl⟩⟩, fun h1 => ⟨by omega, _, ?_, ⟨by omega, by omega⟩, none fun g => h1 g.1, rfl⟩⟩
   ·omega
   ·obtain ⟨d1, d2⟩ := lp_doc (c := c0) hn p0 plt hbn h3
    rintro v hv -
    rw [hw0] at hv
    subst hv
    refine ⟨fun h4 => ⟨by omega, _, ?_, ⟨by omega, by omega⟩, one ⟨h1, hr.1 h2, .inr (d1 h4)⟩, rfl⟩, fun h4 => ⟨by omega, hbn, fun h5 => ⟨by omega, _, ?_, ⟨by omega, by omega⟩, one ⟨h1, hr.1 h2, .inr (d2.1 h5)⟩, rfl⟩, fun h5 => ⟨by omega, _, ?_, ⟨by omega, by omega⟩, none fun g => ?_, rfl⟩⟩⟩
    ·omega
    ·omega
    ·omega
    ·exact d2.2 (g.2.2.resolve_left h3) (by simpa using h5)
   ·omega
   ·omega
  ·have hall := hJ.trans (LpJ.all hn (by omega))
   have hnx := lpL_next (c := c0) (n := n0) (h := p1) p0
   refine ⟨fun h => ?_, fun h => ?_⟩
   ·rw [if_pos (hall.1 h)] at hnx
    refine ⟨by omega, by omega, by omega, _, ?_, ⟨by omega, by omega⟩, ?_, by rw [hnx, List.length_append, List.length_singleton, hl]; rfl, rfl⟩
    ·omega
    ·rw [hnx]; exact hR.snoc hl
   ·rw [if_neg fun g => hall.2 g h, List.append_nil] at hnx
    exact ⟨by omega, _, by omega, ⟨by omega, by omega⟩, by rw [hnx]; exact hR, by rw [hnx]; exact hl, rfl⟩
 ·have e : p = n0 := by omega
  subst e
  unfold lpN lpZ
  rw [e2]
  refine ⟨hl, ?_⟩
  exact hR.eq (by rw [hl]; exact Int.le_refl _)
theorem plain (i v ro p) : statR 2 rc tree ⟨i, fN, v, ro, p⟩ = P (i 0) (i 1) (i 2) (i 3) := by kernel_rfl
theorem ran : ranR us (fun f i => if f = 17 then (match i with | 9 => .tmpl (some mk17_9) | _ => .auto) else .auto) rc 2 tree = true := by kernel_rfl
theorem fineT : fineR 2 rc tree = true := by kernel_rfl
theorem ok : RcOk (cxOf 2) rc := okR us_ok ran fineT okb fun i v ro p hρ hcap hpre => by rw [plain]; have q := hρ.hi; exact holds _ _ _ _ (q 0 _ rfl).1 (q 0 _ rfl).2 (q 1 _ rfl).1 (q 1 _ rfl).2 (hcap _ (mg 0 rfl)) (hpre _ (mg 0 rfl))
end CRLoop18
end Go.Proofs.Ytacchdmnhfkekaa
