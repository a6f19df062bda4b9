/-
  What functions of the program answer, as numbers of what they are handed: their runs by the engine, the plain statements behind them. No condition.
-/
import Derived.Test.YthfckifhnaoopacKg
import Derived.Test.YthfckifhnaoopacKh
import Derived.Test.YthfckifhnaoopacGab
import Derived.Test.YthfckifhnaoopacGp3
import Derived.Test.YthfckifhnaoopacGp1
set_option linter.unusedVariables false
set_option linter.unusedSimpArgs false
set_option maxRecDepth 100000
namespace Go.Proofs.Ythfckifhnaoopac
open Go.Eng Go.RowKit
namespace CRPlaces45
def rc : Rc := ⟨10, [none], [.row [.int .u32] 1000000], [(.b .le .i64 (.v 0) (.c 1000))], .one, [.row [.int .i64] 3 (.f 172 (.v 1) (.v 0) (.c 0)) (.f 171 (.v 1) (.v 0) (.c 0))]⟩
theorem okb : rc.ok = true := by kernel_rfl
noncomputable def us : SMs := fun Γ ins n => smH (cxG n Γ ins) [] (smR (cxG n Γ ins) [CRDec.rc, CRReached18.rc])
theorem us_ok : SMsOk us := fun Γ ins n => qZp (tabsG n Γ ins) (qZk _) (qZo (tabsG n Γ ins) (qQe CRDec.okb (rc_n CRDec.ok) (qQe CRReached18.okb (rc_n CRReached18.ok) (qZy _))))
def Q0 : E := (.cl 1002 0 4611686018427387904)
def Q1 : E := (tR (.v 1) Q0)
def Q2 : E := (.w .u32 Q1)
def Q3 : E := (.cl 1001 0 1000000)
def Q4 : E := (tp Q3 (.c 1))
def Q5 : E := (tl Q4 (.c 1000000))
def Q6 : E := (tp Q0 (.c 1))
def Q7 : E := (tl Q6 (.c 4611686018427387904))
def Q8 : E := (.f 14 (.v 1000) Q3 Q0)
def tree : TT (List E) :=
 (.br (tl (.v 0) (.v 2)) (.br (tl (.v 0) (.c 1000)) (.loop ⟨1000, [none, some (0, 1000000), some (0, 4611686018427387904)], [(.c 0), (.c 0), (.c 0)], 1010⟩ (.br (tk Q0 (.v 0)) (.new 1004 (.f 67 Q2 (.c 0) (.c 0)) (.new 1005 (.f 67 Q2 (.c 1) (.c 0)) (.new 1006 (.f 67 Q2 (.c 2) (.c 0)) (.new 1007 (.f 67 Q2 (.c 3) (.c 0)) (.new 1008 (.f 67 Q2 (.c 4) (.c 0)) (.new 1009 (.f 67 Q2 (.c 5) (.c 0)) (.br (tR (.f 164 (.v 1) (.v 0) (tC (.c 0) (tC (.c (-1)) (.c 0)))) Q0) (.br (tn (.cl 1009 (-32768) 65535) (.c 0)) (.br Q5 (.br Q5 (.br Q7 (.back [Q8, Q4, Q6]) (.bad 303)) (.bad 303)) (.bad 200)) (.br (tn (.cl 1004 (-32768) 65535) (.c 42)) (.br Q5 (.br Q5 (.br Q7 (.back [Q8, Q4, Q6]) (.bad 303)) (.bad 303)) (.bad 200)) (.br Q7 (.back [(.v 1000), Q3, Q6]) (.bad 303)))) (.br Q7 (.back [(.v 1000), Q3, Q6])
 (.bad 303))))))))) (.exit 0)) (.leaf [Q3, (.v 1000)])) (.bad 200)) (.bad 200))
def P (a b c : Int) : Prop :=
 (Pm (PL a c) (Pm (PL a 1000) (∃ I1000 : Int → Int → Int → Nat → Prop, (∃ m, I1000 0 0 0 m) ∧ ∀ y0 y1 y2 : Int, ∀ m0, (True ∧ (0 ≤ y1 ∧ y1 ≤ 1000000) ∧ (0 ≤ y2 ∧ y2 ≤ 4611686018427387904) ∧ True) → I1000 y0 y1 y2 m0 → (Pb (Pl y2 a) (Pn (decZ (U3 (rdZ b y2)) 0) (-32768) 65535 fun y4 => Pn (decZ (U3 (rdZ b y2)) 1) (-32768) 65535 fun y5 => Pn (decZ (U3 (rdZ b y2)) 2) (-32768) 65535 fun y6 => Pn (decZ (U3 (rdZ b y2)) 3) (-32768) 65535 fun y7 => Pn (decZ (U3 (rdZ b y2)) 4) (-32768) 65535 fun y8 => Pn (decZ (U3 (rdZ b y2)) 5) (-32768) 65535 fun y9 => (Pb (rdZ (gfmZ b a (kZ 0 (kZ (-1) 0))) y2) (Pb (Pd y9 0) (Pm (PL (y1 + 1) 1000000) (Pm (PL (y1 + 1) 1000000) (Pm (PL (y2 + 1) 4611686018427387904) (∃ m', m' < m0 ∧ I1000 (updZ y0 y1 y2) (y1 + 1) (y2 + 1) m')))) (Pb (Pd y4 42) (Pm (PL (y1 + 1)
 1000000) (Pm (PL (y1 + 1) 1000000) (Pm (PL (y2 + 1) 4611686018427387904) (∃ m', m' < m0 ∧ I1000 (updZ y0 y1 y2) (y1 + 1) (y2 + 1) m')))) (Pm (PL (y2 + 1) 4611686018427387904) (∃ m', m' < m0 ∧ I1000 y0 y1 (y2 + 1) m')))) (Pm (PL (y2 + 1) 4611686018427387904) (∃ m', m' < m0 ∧ I1000 y0 y1 (y2 + 1) m')))) ((y1 : Int) = (plcN b a) ∧ qQa [.int .i64] y0 (plcZ b a) y1 ∧ True)))))
set_option maxHeartbeats 4000000 in
open Classical in
theorem holds (n0 c0 r0 : Int) (l_n0 : 0 ≤ n0) (u_n0 : n0 ≤ 1000000) (h_n0 : n0 ≤ r0) (h_pre0 : qQq (decide (n0  ≤  1000)) ≠ 0) : P n0 c0 r0 := by
 delta P Pb Pm Pn PL Pl Pd U3 kZ
 simp only [nrm, nro, Int.reduceEq, Int.reduceNeg, reduceIte]
 have hn : n0 ≤ 1000 := by simpa [qQq] using h_pre0
 have e2 : min n0.toNat 1000 = n0.toNat := by omega
 refine ⟨h_n0, hn, ?_⟩
 refine ⟨fun q l p m => (0 ≤ p ∧ p ≤ n0) ∧ Rw q (plcF c0 n0 p.toNat) ∧ l = (plcF c0 n0 p.toNat).length ∧ m = (n0 - p).toNat, ⟨_, ⟨by omega, by omega⟩, by simpa [plcF] using Rw.nil 0, by simp [plcF], rfl⟩, ?_⟩
 rintro q l p m ⟨⟨l0, l1⟩, ⟨p8, p9⟩⟩ ⟨⟨p0, p1⟩, hR, hl, rfl⟩
 obtain ⟨x, rfl⟩ := Int.eq_ofNat_of_zero_le p0
 rw [Int.toNat_natCast] at hR hl
 have hll := plcF_len c0 n0 x
 have hnx := plcF_next (c := c0) (n := n0) (p := x)
 have ex : ((x : Int) + 1).toNat = x + 1 := by omega
 refine ⟨fun plt => ?_, fun pge => ?_⟩
 ·have hr := gfm_0 (c := c0) hn p0 plt
  rw [Int.toNat_natCast] at hr
  rintro y0 e0 - y1 - - y2 - - y3 - - y4 - - y5 e5 -
  have hno : ¬styP c0 n0 x → (x : Int) + 1 ≤ 4611686018427387904 ∧ ∃ m', m' < (n0 - (x : Int)).toNat ∧ (0 ≤ (x : Int) + 1 ∧ (x : Int) + 1 ≤ n0) ∧ Rw q (plcF c0 n0 ((x : Int) + 1).toNat) ∧ l = (plcF c0 n0 ((x : Int) + 1).toNat).length ∧ m' = (n0 - ((x : Int) + 1)).toNat := fun h => by
   rw [if_neg h, List.append_nil] at hnx
   exact ⟨by omega, _, by omega, ⟨by omega, by omega⟩, by rw [ex, hnx]; exact hR, by rw [ex, hnx]; exact hl, rfl⟩
  have hyes : styP c0 n0 x → l + 1 ≤ 1000000 ∧ l + 1 ≤ 1000000 ∧ (x : Int) + 1 ≤ 4611686018427387904 ∧ ∃ m', m' < (n0 - (x : Int)).toNat ∧ (0 ≤ (x : Int) + 1 ∧ (x : Int) + 1 ≤ n0) ∧ Rw (updZ q l x) (plcF c0 n0 ((x : Int) + 1).toNat) ∧ l + 1 = (plcF c0 n0 ((x : Int) + 1).toNat).length ∧ m' = (n0 - ((x : Int) + 1)).toNat := fun h => by
   rw [if_pos h] at hnx
   refine ⟨by omega, by omega, by omega, _, ?_, ⟨by omega, by omega⟩, ?_, by rw [ex, hnx, List.length_append, List.length_singleton, hl]; rfl, rfl⟩
   ·omega
   ·rw [ex, hnx]; exact hR.snoc hl
  have h2 := dec_two (rdZ c0 x)
  rw [← e0, ← e5] at h2
  refine ⟨fun h0 => ⟨fun h5 => hyes ⟨hr.1 h0, by rw [← e0]; omega⟩, fun h5 => ⟨fun h => hyes ⟨hr.1 h0, by rw [← e0]; exact h⟩, fun h => hno fun g => g.2 (by rw [← e0]; exact h)⟩⟩, fun h0 => hno fun g => hr.2 g.1 h0⟩
 ·have e : (x : Int) = n0 := by omega
  subst e
  unfold plcN plcZ
  rw [e2, Int.toNat_natCast]
  refine ⟨hl, ?_⟩
  exact hR.eq (by rw [hl]; exact Int.le_refl _)
theorem plain (i v ro p) : statR 2 rc tree ⟨i, fN, v, ro, p⟩ = P (i 0) (i 1) (i 2) := by kernel_rfl
theorem ran : ranR us (fun _ _ => .auto) rc 2 tree = true := by kernel_rfl
theorem fineT : fineR 2 rc tree = true := by kernel_rfl
theorem ok : RcOk (cxOf 2) rc := okR us_ok ran fineT okb fun i v ro p hρ hcap hpre => by rw [plain]; have q := hρ.hi; exact holds _ _ _ (q 0 _ rfl).1 (q 0 _ rfl).2 (hcap _ (mg 0 rfl)) (hpre _ (mg 0 rfl))
end CRPlaces45
namespace CRNumber45
def rc : Rc := ⟨23, [none, none], [.row [.int .u32] 1000000, .int .i64], [(.b .le .i64 (.v 0) (.c 1000))], .one, [.int .i64 (.f 173 (.f 172 (.v 2) (.v 0) (.c 0)) (.f 171 (.v 2) (.v 0) (.c 0)) (.v 1))]⟩
theorem okb : rc.ok = true := by kernel_rfl
noncomputable def us : SMs := fun Γ ins n => smH (cxG n Γ ins) [] (smR (cxG n Γ ins) [CRPlaces45.rc])
theorem us_ok : SMsOk us := fun Γ ins n => qZp (tabsG n Γ ins) (qZk _) (qZo (tabsG n Γ ins) (qQe CRPlaces45.okb (rc_n CRPlaces45.ok) (qZy _)))
def tree : TT (List E) :=
(.br (.b .le .i64 (.v 0) (.v 3))
 (.br (.b .le .i64 (.v 0) (.c 1000))
 (.loop ⟨1000, [some (0, 4611686018427387904), some (0, 4611686018427387904)], [(.c 0), (.c 0)], 1003⟩
 (.br (.b .lt .i64 (.cl 1001 0 4611686018427387904) (.f 171 (.v 2) (.v 0) (.c 0)))
 (.br (.b .lt .i64 (.w .i64 (.f 13 (.f 172 (.v 2) (.v 0) (.c 0)) (.cl 1001 0 4611686018427387904) (.c 0))) (.v 1))
 (.br (.b .le .i64 (.b .padd .i64 (.cl 1000 0 4611686018427387904) (.c 1)) (.c 4611686018427387904))
 (.br (.b .le .i64 (.b .padd .i64 (.cl 1001 0 4611686018427387904) (.c 1)) (.c 4611686018427387904))
 (.back [(.b .padd .i64 (.cl 1000 0 4611686018427387904) (.c 1)), (.b .padd .i64 (.cl 1001 0 4611686018427387904) (.c 1))])
 (.bad 303))
 (.bad 303))
 (.br (.b .le .i64 (.b .padd .i64 (.cl 1001 0 4611686018427387904) (.c 1)) (.c 4611686018427387904))
 (.back [(.cl 1000 0 4611686018427387904), (.b .padd .i64 (.cl 1001 0 4611686018427387904) (.c 1))])
 (.bad 303)))
 (.exit 0))
 (.leaf [(.cl 1000 0 4611686018427387904)]))
 (.bad 200))
 (.bad 200))
def P (n0 p1 c0 r0 : Int) : Prop :=
 (((qQq (decide (n0 ≤ r0))) ≠ 0 →
  (((qQq (decide (n0 ≤ 1000))) ≠ 0 →
   ∃ I1000 : Int → Int → Nat → Prop, (∃ m, I1000 0 0 m) ∧
   ∀ y1000 y1001 : Int, ∀ m1000, ((0 ≤ y1000 ∧ y1000 ≤ 4611686018427387904) ∧ (0 ≤ y1001 ∧ y1001 ≤ 4611686018427387904) ∧ True) → I1000 y1000 y1001 m1000 →
    (((qQq (decide (y1001 < (plcN c0 n0)))) ≠ 0 →
     (((qQq (decide ((IntKind.wrap .i64 (rdZ (plcZ c0 n0) y1001)) < p1))) ≠ 0 →
      (((qQq (decide ((y1000 + 1) ≤ 4611686018427387904))) ≠ 0 →
       (((qQq (decide ((y1001 + 1) ≤ 4611686018427387904))) ≠ 0 →
        ∃ m', m' < m1000 ∧ I1000 (y1000 + 1) (y1001 + 1) m') ∧ ((qQq (decide ((y1001 + 1) ≤ 4611686018427387904))) = 0 →
        False))) ∧ ((qQq (decide ((y1000 + 1) ≤ 4611686018427387904))) = 0 →
       False))) ∧ ((qQq (decide ((IntKind.wrap .i64 (rdZ (plcZ c0 n0) y1001)) < p1))) = 0 →
      (((qQq (decide ((y1001 + 1) ≤ 4611686018427387904))) ≠ 0 →
       ∃ m', m' < m1000 ∧ I1000 y1000 (y1001 + 1) m') ∧ ((qQq (decide ((y1001 + 1) ≤ 4611686018427387904))) = 0 →
       False))))) ∧ ((qQq (decide (y1001 < (plcN c0 n0)))) = 0 →
     (y1000 : Int) = (cltZ (plcZ c0 n0) (plcN c0 n0) p1) ∧ True))) ∧ ((qQq (decide (n0 ≤ 1000))) = 0 →
   False))) ∧ ((qQq (decide (n0 ≤ r0))) = 0 →
  False))
set_option maxHeartbeats 4000000 in
theorem holds (n0 p1 c0 r0 : Int) (l_n0 : 0 ≤ n0) (u_n0 : n0 ≤ 1000000) (l_p1 : -9223372036854775808 ≤ p1) (u_p1 : p1 ≤ 9223372036854775807) (h_n0 : n0 ≤ r0) (h_pre0 : qQq (decide (n0  ≤  1000)) ≠ 0) : P n0 p1 c0 r0 := by
 unfold P
 simp only [nrm, nro, Int.reduceEq, Int.reduceNeg, reduceIte]
 have hn : n0 ≤ 1000 := by simpa [qQq] using h_pre0
 have hb := plcN_bd c0 n0
 refine ⟨h_n0, hn, ?_⟩
 refine ⟨fun s k m => (0 ≤ k ∧ k ≤ plcN c0 n0) ∧ s = cltF (plcZ c0 n0) p1 k.toNat ∧ m = (plcN c0 n0 - k).toNat, ⟨_, ⟨by omega, by omega⟩, by simp [cltF], rfl⟩, ?_⟩
 rintro s k m ⟨⟨s0, s1⟩, ⟨k8, k9⟩⟩ ⟨⟨k0, k1⟩, hs, rfl⟩
 obtain ⟨x, rfl⟩ := Int.eq_ofNat_of_zero_le k0
 rw [Int.toNat_natCast] at hs
 have hle := cltF_le (plcZ c0 n0) p1 x
 have hnx := cltF_next (c := plcZ c0 n0) (t := p1) (k := x)
 have ex : ((x : Int) + 1).toNat = x + 1 := by omega
 refine ⟨fun klt => ⟨fun h => ⟨by omega, by omega, _, ?_, ⟨by omega, by omega⟩, ?_, rfl⟩, fun h => ⟨by omega, _, ?_, ⟨by omega, by omega⟩, ?_, rfl⟩⟩, fun kge => ?_⟩
 ·omega
 ·rw [ex, hnx, if_pos h, hs]
 ·omega
 ·rw [ex, hnx, if_neg (by omega), hs]; omega
 ·rw [cltZ_eq (by omega), hs]
  congr 1
  omega
theorem plain (i v ro p) : statR 2 rc tree ⟨i, fN, v, ro, p⟩ = P (i 0) (i 1) (i 2) (i 3) := by kernel_rfl
theorem ran : ranR us (fun _ _ => .auto) rc 2 tree = true := by kernel_rfl
theorem fineT : fineR 2 rc tree = true := by kernel_rfl
theorem ok : RcOk (cxOf 2) rc := okR us_ok ran fineT okb fun i v ro p hρ hcap hpre => by rw [plain]; have q := hρ.hi; exact holds _ _ _ _ (q 0 _ rfl).1 (q 0 _ rfl).2 (q 1 _ rfl).1 (q 1 _ rfl).2 (hcap _ (mg 0 rfl)) (hpre _ (mg 0 rfl))
end CRNumber45
namespace CRShape06
def rc : Rc := ⟨43, [none], [.int .i64], [], .one, [.str (.f 11 (.ite (.b .le .i64 (.c 1) (.v 0)) (.ite (.b .le .i64 (.v 0) (.c 43)) (.c 4) (.c 0)) (.c 0)) (.f 11 (.f 11 (.ite (.b .le .i64 (.v 0) (.c 38)) (.c 100) (.ite (.b .eq .i64 (.v 0) (.c 40)) (.c 100) (.c 45))) (.f 11 (.ite (.b .le .i64 (.v 0) (.c 32)) (.c 97) (.ite (.b .eq .i64 (.v 0) (.c 33)) (.c 45) (.ite (.b .le .i64 (.v 0) (.c 38)) (.c 97) (.ite (.b .eq .i64 (.v 0) (.c 41)) (.c 97) (.c 45))))) (.f 11 (.ite (.b .le .i64 (.v 0) (.c 23)) (.c 98) (.c 45)) (.f 11 (.ite (.b .eq .i64 (.v 0) (.c 31)) (.c 115) (.ite (.b .le .i64 (.v 0) (.c 31)) (.c 45) (.ite (.b .le .i64 (.v 0) (.c 40)) (.c 117) (.c 45)))) (.c 0) (.c 0)) (.c 0)) (.c 0)) (.c 0)) (.c 0) (.c 0)) (.c 0))]⟩
theorem okb : rc.ok = true := by kernel_rfl
noncomputable def us : SMs := fun Γ ins n => smH (cxG n Γ ins) [] (smR (cxG n Γ ins) [])
theorem us_ok : SMsOk us := fun Γ ins n => qZp (tabsG n Γ ins) (qZk _) (qZo (tabsG n Γ ins) (qZy _))
def Q0 : E := (tC (.c 45) (.c 0))
def Q1 : E := (tC (.c 45) Q0)
def Q2 : E := (tC (.c 97) Q1)
def Q3 : E := (tC (.c 100) Q2)
def Q4 : E := (tC Q3 (.c 0))
def Q5 : E := (tC (.c 4) Q4)
def Q6 : E := (te (.v 0) (.c 31))
def Q7 : E := (tC (.c 115) (.c 0))
def Q8 : E := (tC (.c 45) Q7)
def Q9 : E := (tC (.c 97) Q8)
def Q10 : E := (tC (.c 100) Q9)
def Q11 : E := (tC Q10 (.c 0))
def Q12 : E := (tC (.c 4) Q11)
def Q13 : E := (te (.v 0) (.c 32))
def Q14 : E := (tC (.c 117) (.c 0))
def Q15 : E := (tC (.c 45) Q14)
def Q16 : E := (tC (.c 97) Q15)
def Q17 : E := (tC (.c 100) Q16)
def Q18 : E := (tC Q17 (.c 0))
def Q19 : E := (tC (.c 4) Q18)
def Q20 : E := (te (.v 0) (.c 34))
def Q21 : E := (te (.v 0) (.c 35))
def Q22 : E := (te (.v 0) (.c 36))
def Q23 : E := (te (.v 0) (.c 37))
def Q24 : E := (te (.v 0) (.c 38))
def Q25 : E := (te (.v 0) (.c 33))
def Q26 : E := (tC (.c 45) Q15)
def Q27 : E := (tC (.c 100) Q26)
def Q28 : E := (tC Q27 (.c 0))
def Q29 : E := (tC (.c 4) Q28)
def Q30 : E := (te (.v 0) (.c 40))
def Q31 : E := (te (.v 0) (.c 39))
def Q32 : E := (tC (.c 45) Q26)
def Q33 : E := (tC Q32 (.c 0))
def Q34 : E := (tC (.c 4) Q33)
def Q35 : E := (te (.v 0) (.c 41))
def Q36 : E := (tC (.c 45) Q2)
def Q37 : E := (tC Q36 (.c 0))
def Q38 : E := (tC (.c 4) Q37)
def Q39 : E := (te (.v 0) (.c 42))
def Q40 : E := (tC (.c 45) Q1)
def Q41 : E := (tC (.c 45) Q40)
def Q42 : E := (tC Q41 (.c 0))
def Q43 : E := (tC (.c 4) Q42)
def Q44 : E := (te (.v 0) (.c 43))
def Q45 : E := (tC (.c 0) (.c 0))
def Q46 : E := (tC (.c 0) Q45)
def tree : TT (List E) :=
 (.br (tl (.c 1) (.v 0)) (.br (tl (.v 0) (.c 23)) (.leaf [(tC (.c 4) (tC (tC (.c 100) (tC (.c 97) (tC (.c 98) Q0))) (.c 0)))]) (.br (tk (.c 23) (.v 0)) (.br (tl (.v 0) (.c 30)) (.leaf [Q5]) (.br Q6 (.leaf [Q12]) (.br Q13 (.leaf [Q19]) (.br Q20 (.leaf [Q19]) (.br Q21 (.leaf [Q19]) (.br Q22 (.leaf [Q19]) (.br Q23 (.leaf [Q19]) (.br Q24 (.leaf [Q19]) (.br Q25 (.leaf [Q29]) (.br Q30 (.leaf [Q29]) (.br Q31 (.leaf [Q34]) (.br Q35 (.leaf [Q38]) (.br Q39 (.leaf [Q43]) (.br Q44 (.leaf [Q43]) (.leaf [Q46]))))))))))))))) (.br Q6 (.leaf [Q12]) (.br Q13 (.leaf [Q19]) (.br Q20 (.leaf [Q19]) (.br Q21 (.leaf [Q19]) (.br Q22 (.leaf [Q19]) (.br Q23 (.leaf [Q19]) (.br Q24 (.leaf [Q19]) (.br Q25 (.leaf [Q29]) (.br Q30 (.leaf [Q29]) (.br Q31 (.leaf [Q34]) (.br Q35 (.leaf [Q38]) (.br Q39 (.leaf [Q43]) (.br Q44
 (.leaf [Q43]) (.leaf [Q46])))))))))))))))) (.br (tk (.c 23) (.v 0)) (.br (tl (.v 0) (.c 30)) (.leaf [Q5]) (.br Q6 (.leaf [Q12]) (.br Q13 (.leaf [Q19]) (.br Q20 (.leaf [Q19]) (.br Q21 (.leaf [Q19]) (.br Q22 (.leaf [Q19]) (.br Q23 (.leaf [Q19]) (.br Q24 (.leaf [Q19]) (.br Q25 (.leaf [Q29]) (.br Q30 (.leaf [Q29]) (.br Q31 (.leaf [Q34]) (.br Q35 (.leaf [Q38]) (.br Q39 (.leaf [Q43]) (.br Q44 (.leaf [Q43]) (.leaf [Q46]))))))))))))))) (.br Q6 (.leaf [Q12]) (.br Q13 (.leaf [Q19]) (.br Q20 (.leaf [Q19]) (.br Q21 (.leaf [Q19]) (.br Q22 (.leaf [Q19]) (.br Q23 (.leaf [Q19]) (.br Q24 (.leaf [Q19]) (.br Q25 (.leaf [Q29]) (.br Q30 (.leaf [Q29]) (.br Q31 (.leaf [Q34]) (.br Q35 (.leaf [Q38]) (.br Q39 (.leaf [Q43]) (.br Q44 (.leaf [Q43]) (.leaf [Q46]))))))))))))))))
noncomputable def sq0 : Int := (kZ 4 (kZ (kZ 100 (kZ 97 (kZ 45 (kZ 117 0)))) 0))
noncomputable def sq1 : Int := (kZ 4 (kZ (kZ 100 (kZ 45 (kZ 45 (kZ 117 0)))) 0))
noncomputable def sq2 : Int := (kZ 4 (kZ (kZ 45 (kZ 45 (kZ 45 (kZ 45 0)))) 0))
def sL0 (a z0 : Int) : Prop := qQw z0 = qQw (kZ (iteZ (PL 1 a) (iteZ (PL a 43) 4 0) 0) (kZ (kZ (iteZ (PL a 38) 100 (iteZ (Pe a 40) 100 45)) (kZ (iteZ (PL a 32) 97 (iteZ (Pe a 33) 45 (iteZ (PL a 38) 97 (iteZ (Pe a 41) 97 45)))) (kZ (iteZ (PL a 23) 98 45) (kZ (iteZ (Pe a 31) 115 (iteZ (PL a 31) 45 (iteZ (PL a 40) 117 45))) 0)))) 0)) ∧ True
def sq3 (a : Int) : Prop := (Pb (Pe a 31) (sL0 a (kZ 4 (kZ (kZ 100 (kZ 97 (kZ 45 (kZ 115 0)))) 0))) (Pb (Pe a 32) (sL0 a sq0) (Pb (Pe a 34) (sL0 a sq0) (Pb (Pe a 35) (sL0 a sq0) (Pb (Pe a 36) (sL0 a sq0) (Pb (Pe a 37) (sL0 a sq0) (Pb (Pe a 38) (sL0 a sq0) (Pb (Pe a 33) (sL0 a sq1) (Pb (Pe a 40) (sL0 a sq1) (Pb (Pe a 39) (sL0 a (kZ 4 (kZ (kZ 45 (kZ 45 (kZ 45 (kZ 117 0)))) 0))) (Pb (Pe a 41) (sL0 a (kZ 4 (kZ (kZ 45 (kZ 97 (kZ 45 (kZ 45 0)))) 0))) (Pb (Pe a 42) (sL0 a sq2) (Pb (Pe a 43) (sL0 a sq2) (sL0 a (kZ 0 (kZ 0 0))))))))))))))))
def P (a : Int) : Prop :=
 (Pb (PL 1 a) (Pb (PL a 23) (sL0 a (kZ 4 (kZ (kZ 100 (kZ 97 (kZ 98 (kZ 45 0)))) 0))) (Pb (Pl 23 a) (Pb (PL a 30) (sL0 a (kZ 4 (kZ (kZ 100 (kZ 97 (kZ 45 (kZ 45 0)))) 0))) (sq3 a)) (sq3 a))) (Pb (Pl 23 a) (Pb (PL a 30) (sL0 a (kZ 4 (kZ (kZ 100 (kZ 97 (kZ 45 (kZ 45 0)))) 0))) (sq3 a)) (sq3 a)))
theorem str4 {L b0 b1 b2 b3 L' c0 c1 c2 c3 : Int} (h : L = L') (h0 : b0 = c0) (h1 : b1 = c1) (h2 : b2 = c2) (h3 : b3 = c3) : qQw (qQz L (qQz (qQz b0 (qQz b1 (qQz b2 (qQz b3 0)))) 0)) = qQw (qQz L' (qQz (qQz c0 (qQz c1 (qQz c2 (qQz c3 0)))) 0)) := by
 rw [h, h0, h1, h2, h3]
theorem str0 {L q q' : Int} (h : 0 = L) : qQw (qQz 0 q') = qQw (qQz L q) := by
 subst h
 have e : ∀ q, qZb (qQz 0 q) = 0 := fun q => by unfold qZb; rw [qQx]; simp [qXq]
 unfold qQw
 rw [e, e]
 simp
set_option maxHeartbeats 4000000 in
theorem holds (p0 : Int) (l_p0 : -9223372036854775808 ≤ p0) (u_p0 : p0 ≤ 9223372036854775807) : P p0 := by
 delta P sq0 sq1 sq2 sq3 sL0 Pb PL Pl Pe kZ
 simp only [nrm, Int.reduceEq, Int.reduceNeg, reduceIte]
 repeat' (refine And.intro (fun _ => ?_) (fun _ => ?_))
 all_goals first
  | (exfalso; omega)
  | (have : 1 ≤ p0 ∧ p0 ≤ 43 := by omega
     exact str4 (by omega) (by omega) (by omega) (by omega) (by omega))
  | exact str0 (by omega)
theorem plain (i v ro p) : statR 2 rc tree ⟨i, fN, v, ro, p⟩ = P (i 0) := by kernel_rfl
theorem ran : ranR us (fun f _ => if [43].contains f then .unroll 400 else .auto) rc 2 tree = true := by kernel_rfl
theorem fineT : fineR 2 rc tree = true := by kernel_rfl
theorem ok : RcOk (cxOf 2) rc := okR us_ok ran fineT okb fun i v ro p hρ hcap hpre => by rw [plain]; have q := hρ.hi; exact holds _ (q 0 _ rfl).1 (q 0 _ rfl).2
end CRShape06
end Go.Proofs.Ythfckifhnaoopac
