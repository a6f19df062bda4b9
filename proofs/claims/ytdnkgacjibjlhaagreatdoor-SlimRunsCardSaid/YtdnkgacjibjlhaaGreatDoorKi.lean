/-
  What functions of the program answer, as numbers of what they are handed: their runs by the engine, the plain statements behind them. No condition.
-/
import Derived.Test.YtdnkgacjibjlhaaGreatDoorKb
import Derived.Test.YtdnkgacjibjlhaaGreatDoorKg
import Derived.Test.YtdnkgacjibjlhaaGreatDoorKh
import Derived.Test.YtdnkgacjibjlhaaGreatDoorGab
import Derived.Test.YtdnkgacjibjlhaaGreatDoorGp5
import Derived.Test.YtdnkgacjibjlhaaGreatDoorGp2
import Derived.Test.YtdnkgacjibjlhaaGreatDoorGp3
set_option linter.unusedVariables false
set_option linter.unusedSimpArgs false
set_option maxRecDepth 100000
namespace Go.Proofs.YtdnkgacjibjlhaaGreatDoor
open Go.Eng Go.RowKit
namespace CRPlaces45
def rc : Rc := ⟨45, [none], [.row [.int .u32] 1000000], [(.b .le .i64 (.v 0) (.c 1000))], .one, [.row [.int .i64] 3 (.f 172 (.v 1) (.v 0) (.c 0)) (.f 171 (.v 1) (.v 0) (.c 0))]⟩
theorem okb : rc.ok = true := by kernel_rfl
noncomputable def us : SMs := fun Γ ins n => smH (cxG n Γ ins) [] (smR (cxG n Γ ins) [CRDec.rc, CRReached18.rc])
theorem us_ok : SMsOk us := fun Γ ins n => qZs (tabsG n Γ ins) (qZy _) (qZp (tabsG n Γ ins) (qQh CRDec.okb (rc_n CRDec.ok) (qQh CRReached18.okb (rc_n CRReached18.ok) (qZv _))))
def Q0 : E := (.cl 1002 0 4611686018427387904)
def Q1 : E := (tR (.v 1) Q0)
def Q2 : E := (.w .u32 Q1)
def Q3 : E := (.cl 1001 0 1000000)
def Q4 : E := (tp Q3 (.c 1))
def Q5 : E := (tl Q4 (.c 1000000))
def Q6 : E := (tp Q0 (.c 1))
def Q7 : E := (tl Q6 (.c 4611686018427387904))
def Q8 : E := (.f 14 (.v 1000) Q3 Q0)
def tree : TT (List E) :=
 (.br (tl (.v 0) (.v 2)) (.br (tl (.v 0) (.c 1000)) (.loop ⟨1000, [none, some (0, 1000000), some (0, 4611686018427387904)], [(.c 0), (.c 0), (.c 0)], 1010⟩ (.br (tk Q0 (.v 0)) (.new 1004 (.f 67 Q2 (.c 0) (.c 0)) (.new 1005 (.f 67 Q2 (.c 1) (.c 0)) (.new 1006 (.f 67 Q2 (.c 2) (.c 0)) (.new 1007 (.f 67 Q2 (.c 3) (.c 0)) (.new 1008 (.f 67 Q2 (.c 4) (.c 0)) (.new 1009 (.f 67 Q2 (.c 5) (.c 0)) (.br (tR (.f 164 (.v 1) (.v 0) (tC (.c 0) (tC (.c (-1)) (.c 0)))) Q0) (.br (tn (.cl 1009 (-32768) 65535) (.c 0)) (.br Q5 (.br Q5 (.br Q7 (.back [Q8, Q4, Q6]) (.bad 303)) (.bad 303)) (.bad 200)) (.br (tn (.cl 1004 (-32768) 65535) (.c 42)) (.br Q5 (.br Q5 (.br Q7 (.back [Q8, Q4, Q6]) (.bad 303)) (.bad 303)) (.bad 200)) (.br Q7 (.back [(.v 1000), Q3, Q6]) (.bad 303)))) (.br Q7 (.back [(.v 1000), Q3, Q6])
 (.bad 303))))))))) (.exit 0)) (.leaf [Q3, (.v 1000)])) (.bad 200)) (.bad 200))
def P (a b c : Int) : Prop :=
 (Pm (PL a c) (Pm (PL a 1000) (∃ I1000 : Int → Int → Int → Nat → Prop, (∃ m, I1000 0 0 0 m) ∧ ∀ y0 y1 y2 : Int, ∀ m0, (True ∧ (0 ≤ y1 ∧ y1 ≤ 1000000) ∧ (0 ≤ y2 ∧ y2 ≤ 4611686018427387904) ∧ True) → I1000 y0 y1 y2 m0 → (Pb (Pl y2 a) (Pn (decZ (U3 (rdZ b y2)) 0) (-32768) 65535 fun y4 => Pn (decZ (U3 (rdZ b y2)) 1) (-32768) 65535 fun y5 => Pn (decZ (U3 (rdZ b y2)) 2) (-32768) 65535 fun y6 => Pn (decZ (U3 (rdZ b y2)) 3) (-32768) 65535 fun y7 => Pn (decZ (U3 (rdZ b y2)) 4) (-32768) 65535 fun y8 => Pn (decZ (U3 (rdZ b y2)) 5) (-32768) 65535 fun y9 => (Pb (rdZ (gfmZ b a (kZ 0 (kZ (-1) 0))) y2) (Pb (Pd y9 0) (Pm (PL (y1 + 1) 1000000) (Pm (PL (y1 + 1) 1000000) (Pm (PL (y2 + 1) 4611686018427387904) (∃ m', m' < m0 ∧ I1000 (updZ y0 y1 y2) (y1 + 1) (y2 + 1) m')))) (Pb (Pd y4 42) (Pm (PL (y1 + 1)
 1000000) (Pm (PL (y1 + 1) 1000000) (Pm (PL (y2 + 1) 4611686018427387904) (∃ m', m' < m0 ∧ I1000 (updZ y0 y1 y2) (y1 + 1) (y2 + 1) m')))) (Pm (PL (y2 + 1) 4611686018427387904) (∃ m', m' < m0 ∧ I1000 y0 y1 (y2 + 1) m')))) (Pm (PL (y2 + 1) 4611686018427387904) (∃ m', m' < m0 ∧ I1000 y0 y1 (y2 + 1) m')))) ((y1 : Int) = (plcN b a) ∧ qQy [.int .i64] y0 (plcZ b a) y1 ∧ True)))))
set_option maxHeartbeats 4000000 in
open Classical in
theorem holds (n0 c0 r0 : Int) (l_n0 : 0 ≤ n0) (u_n0 : n0 ≤ 1000000) (h_n0 : n0 ≤ r0) (h_pre0 : qQz (decide (n0  ≤  1000)) ≠ 0) : P n0 c0 r0 := by
 delta P Pb Pm Pn PL Pl Pd U3 kZ
 simp only [nrm, nro, Int.reduceEq, Int.reduceNeg, reduceIte]
 have hn : n0 ≤ 1000 := by simpa [qQz] using h_pre0
 have e2 : min n0.toNat 1000 = n0.toNat := by omega
 refine ⟨h_n0, hn, ?_⟩
 refine ⟨fun q l p m => (0 ≤ p ∧ p ≤ n0) ∧ Rw q (plcF c0 n0 p.toNat) ∧ l = (plcF c0 n0 p.toNat).length ∧ m = (n0 - p).toNat, ⟨_, ⟨by omega, by omega⟩, by simpa [plcF] using Rw.nil 0, by simp [plcF], rfl⟩, ?_⟩
 rintro q l p m ⟨⟨l0, l1⟩, ⟨p8, p9⟩⟩ ⟨⟨p0, p1⟩, hR, hl, rfl⟩
 obtain ⟨x, rfl⟩ := Int.eq_ofNat_of_zero_le p0
 rw [Int.toNat_natCast] at hR hl
 have hll := plcF_len c0 n0 x
 have hnx := qKq (c := c0) (n := n0) (p := x)
 have ex : ((x : Int) + 1).toNat = x + 1 := by omega
 refine ⟨fun plt => ?_, fun pge => ?_⟩
 ·have hr := gfm_0 (c := c0) hn p0 plt
  rw [Int.toNat_natCast] at hr
  rintro y0 e0 - y1 - - y2 - - y3 - - y4 - - y5 e5 -
  have hno : ¬styP c0 n0 x → (x : Int) + 1 ≤ 4611686018427387904 ∧ ∃ m', m' < (n0 - (x : Int)).toNat ∧ (0 ≤ (x : Int) + 1 ∧ (x : Int) + 1 ≤ n0) ∧ Rw q (plcF c0 n0 ((x : Int) + 1).toNat) ∧ l = (plcF c0 n0 ((x : Int) + 1).toNat).length ∧ m' = (n0 - ((x : Int) + 1)).toNat := fun h => by
   rw [if_neg h, List.append_nil] at hnx
   exact ⟨by omega, _, by omega, ⟨by omega, by omega⟩, by rw [ex, hnx]; exact hR, by rw [ex, hnx]; exact hl, rfl⟩
  have hyes : styP c0 n0 x → l + 1 ≤ 1000000 ∧ l + 1 ≤ 1000000 ∧ (x : Int) + 1 ≤ 4611686018427387904 ∧ ∃ m', m' < (n0 - (x : Int)).toNat ∧ (0 ≤ (x : Int) + 1 ∧ (x : Int) + 1 ≤ n0) ∧ Rw (updZ q l x) (plcF c0 n0 ((x : Int) + 1).toNat) ∧ l + 1 = (plcF c0 n0 ((x : Int) + 1).toNat).length ∧ m' = (n0 - ((x : Int) + 1)).toNat := fun h => by
   rw [if_pos h] at hnx
   refine ⟨by omega, by omega, by omega, _, ?_, ⟨by omega, by omega⟩, ?_, by rw [ex, hnx, List.length_append, List.length_singleton, hl]; rfl, rfl⟩
   ·omega
   ·rw [ex, hnx]; exact hR.snoc hl
  have h2 := dec_two (rdZ c0 x)
  rw [← e0, ← e5] at h2
  refine ⟨fun h0 => ⟨fun h5 => hyes ⟨hr.1 h0, by rw [← e0]; omega⟩, fun h5 => ⟨fun h => hyes ⟨hr.1 h0, by rw [← e0]; exact h⟩, fun h => hno fun g => g.2 (by rw [← e0]; exact h)⟩⟩, fun h0 => hno fun g => hr.2 g.1 h0⟩
 ·have e : (x : Int) = n0 := by omega
  subst e
  unfold plcN plcZ
  rw [e2, Int.toNat_natCast]
  refine ⟨hl, ?_⟩
  exact hR.eq (by rw [hl]; exact Int.le_refl _)
theorem plain (i v ro p) : statR 2 rc tree ⟨i, fN, v, ro, p⟩ = P (i 0) (i 1) (i 2) := by kernel_rfl
theorem ran : ranR us (fun _ _ => .auto) rc 2 tree = true := by kernel_rfl
theorem fineT : fineR 2 rc tree = true := by kernel_rfl
theorem ok : RcOk (cxOf 2) rc := okR us_ok ran fineT okb fun i v ro p hρ hcap hpre => by rw [plain]; have q := hρ.hi; exact holds _ _ _ (q 0 _ rfl).1 (q 0 _ rfl).2 (hcap _ (mg 0 rfl)) (hpre _ (mg 0 rfl))
end CRPlaces45
namespace CRNumber45
def rc : Rc := ⟨27, [none, none], [.row [.int .u32] 1000000, .int .i64], [(.b .le .i64 (.v 0) (.c 1000))], .one, [.int .i64 (.f 173 (.f 172 (.v 2) (.v 0) (.c 0)) (.f 171 (.v 2) (.v 0) (.c 0)) (.v 1))]⟩
theorem okb : rc.ok = true := by kernel_rfl
noncomputable def us : SMs := fun Γ ins n => smH (cxG n Γ ins) [] (smR (cxG n Γ ins) [CRPlaces45.rc])
theorem us_ok : SMsOk us := fun Γ ins n => qZs (tabsG n Γ ins) (qZy _) (qZp (tabsG n Γ ins) (qQh CRPlaces45.okb (rc_n CRPlaces45.ok) (qZv _)))
def tree : TT (List E) :=
(.br (.b .le .i64 (.v 0) (.v 3))
 (.br (.b .le .i64 (.v 0) (.c 1000))
 (.loop ⟨1000, [some (0, 4611686018427387904), some (0, 4611686018427387904)], [(.c 0), (.c 0)], 1003⟩
 (.br (.b .lt .i64 (.cl 1001 0 4611686018427387904) (.f 171 (.v 2) (.v 0) (.c 0)))
 (.br (.b .lt .i64 (.w .i64 (.f 13 (.f 172 (.v 2) (.v 0) (.c 0)) (.cl 1001 0 4611686018427387904) (.c 0))) (.v 1))
 (.br (.b .le .i64 (.b .padd .i64 (.cl 1000 0 4611686018427387904) (.c 1)) (.c 4611686018427387904))
 (.br (.b .le .i64 (.b .padd .i64 (.cl 1001 0 4611686018427387904) (.c 1)) (.c 4611686018427387904))
 (.back [(.b .padd .i64 (.cl 1000 0 4611686018427387904) (.c 1)), (.b .padd .i64 (.cl 1001 0 4611686018427387904) (.c 1))])
 (.bad 303))
 (.bad 303))
 (.br (.b .le .i64 (.b .padd .i64 (.cl 1001 0 4611686018427387904) (.c 1)) (.c 4611686018427387904))
 (.back [(.cl 1000 0 4611686018427387904), (.b .padd .i64 (.cl 1001 0 4611686018427387904) (.c 1))])
 (.bad 303)))
 (.exit 0))
 (.leaf [(.cl 1000 0 4611686018427387904)]))
 (.bad 200))
 (.bad 200))
def P (n0 p1 c0 r0 : Int) : Prop :=
 (((qQz (decide (n0 ≤ r0))) ≠ 0 →
  (((qQz (decide (n0 ≤ 1000))) ≠ 0 →
   ∃ I1000 : Int → Int → Nat → Prop, (∃ m, I1000 0 0 m) ∧
   ∀ y1000 y1001 : Int, ∀ m1000, ((0 ≤ y1000 ∧ y1000 ≤ 4611686018427387904) ∧ (0 ≤ y1001 ∧ y1001 ≤ 4611686018427387904) ∧ True) → I1000 y1000 y1001 m1000 →
    (((qQz (decide (y1001 < (plcN c0 n0)))) ≠ 0 →
     (((qQz (decide ((IntKind.wrap .i64 (rdZ (plcZ c0 n0) y1001)) < p1))) ≠ 0 →
      (((qQz (decide ((y1000 + 1) ≤ 4611686018427387904))) ≠ 0 →
       (((qQz (decide ((y1001 + 1) ≤ 4611686018427387904))) ≠ 0 →
        ∃ m', m' < m1000 ∧ I1000 (y1000 + 1) (y1001 + 1) m') ∧ ((qQz (decide ((y1001 + 1) ≤ 4611686018427387904))) = 0 →
        False))) ∧ ((qQz (decide ((y1000 + 1) ≤ 4611686018427387904))) = 0 →
       False))) ∧ ((qQz (decide ((IntKind.wrap .i64 (rdZ (plcZ c0 n0) y1001)) < p1))) = 0 →
      (((qQz (decide ((y1001 + 1) ≤ 4611686018427387904))) ≠ 0 →
       ∃ m', m' < m1000 ∧ I1000 y1000 (y1001 + 1) m') ∧ ((qQz (decide ((y1001 + 1) ≤ 4611686018427387904))) = 0 →
       False))))) ∧ ((qQz (decide (y1001 < (plcN c0 n0)))) = 0 →
     (y1000 : Int) = (cltZ (plcZ c0 n0) (plcN c0 n0) p1) ∧ True))) ∧ ((qQz (decide (n0 ≤ 1000))) = 0 →
   False))) ∧ ((qQz (decide (n0 ≤ r0))) = 0 →
  False))
set_option maxHeartbeats 4000000 in
theorem holds (n0 p1 c0 r0 : Int) (l_n0 : 0 ≤ n0) (u_n0 : n0 ≤ 1000000) (l_p1 : -9223372036854775808 ≤ p1) (u_p1 : p1 ≤ 9223372036854775807) (h_n0 : n0 ≤ r0) (h_pre0 : qQz (decide (n0  ≤  1000)) ≠ 0) : P n0 p1 c0 r0 := by
 unfold P
 simp only [nrm, nro, Int.reduceEq, Int.reduceNeg, reduceIte]
 have hn : n0 ≤ 1000 := by simpa [qQz] using h_pre0
 have hb := qKd c0 n0
 refine ⟨h_n0, hn, ?_⟩
 refine ⟨fun s k m => (0 ≤ k ∧ k ≤ plcN c0 n0) ∧ s = cltF (plcZ c0 n0) p1 k.toNat ∧ m = (plcN c0 n0 - k).toNat, ⟨_, ⟨by omega, by omega⟩, by simp [cltF], rfl⟩, ?_⟩
 rintro s k m ⟨⟨s0, s1⟩, ⟨k8, k9⟩⟩ ⟨⟨k0, k1⟩, hs, rfl⟩
 obtain ⟨x, rfl⟩ := Int.eq_ofNat_of_zero_le k0
 rw [Int.toNat_natCast] at hs
 have hle := cltF_le (plcZ c0 n0) p1 x
 have hnx := cltF_next (c := plcZ c0 n0) (t := p1) (k := x)
 have ex : ((x : Int) + 1).toNat = x + 1 := by omega
 refine ⟨fun klt => ⟨fun h => ⟨by omega, by omega, _, ?_, ⟨by omega, by omega⟩, ?_, rfl⟩, fun h => ⟨by omega, _, ?_, ⟨by omega, by omega⟩, ?_, rfl⟩⟩, fun kge => ?_⟩
 ·omega
 ·rw [ex, hnx, if_pos h, hs]
 ·omega
 ·rw [ex, hnx, if_neg (by omega), hs]; omega
 ·rw [cltZ_eq (by omega), hs]
  congr 1
  omega
theorem plain (i v ro p) : statR 2 rc tree ⟨i, fN, v, ro, p⟩ = P (i 0) (i 1) (i 2) (i 3) := by kernel_rfl
theorem ran : ranR us (fun _ _ => .auto) rc 2 tree = true := by kernel_rfl
theorem fineT : fineR 2 rc tree = true := by kernel_rfl
theorem ok : RcOk (cxOf 2) rc := okR us_ok ran fineT okb fun i v ro p hρ hcap hpre => by rw [plain]; have q := hρ.hi; exact holds _ _ _ _ (q 0 _ rfl).1 (q 0 _ rfl).2 (q 1 _ rfl).1 (q 1 _ rfl).2 (hcap _ (mg 0 rfl)) (hpre _ (mg 0 rfl))
end CRNumber45
namespace CCNew
def rk : Rk := ⟨7, [(0, 16384), (0, 2048)], 6, [.sl (.inp 0) 1 (.c 0) (.v 0) (some (.v 4)), .sl (.inp 1) 1 (.c 0) (.v 1) (some (.v 5))], [], [], .tup [.ptr 0 0, .int .i64 (.c 0)], [.cells [.ptr 1 0, .sl (.own 2) 6 (.c 0) (.v 1000000) none, .int .i32 (.c 0), .int .i32 (.c 0), .int .i32 (.c 0), .int .i32 (.c 0), .int .i32 (.c 0), .int .i32 (.c 0), .int .i32 (.c 0), .int .i32 (.c 0), .int .i32 (.c 0), .int .i32 (.c 0), .int .i32 (.c 0), .int .i32 (.c 0), .int .i32 (.c 0), .int .i32 (.c 0), .int .i32 (.c 0), .int .i32 (.c 0), .int .i32 (.c 0), .int .i32 (.c 0), .int .i32 (.c 0), .int .i32 (.c 0), .int .i32 (.c 0), .int .i32 (.c 0), .int .i32 (.c 0), .int .i32 (.c 0), .int .i32 (.c 0), .int .i32 (.c 0), .int .i32 (.c 0), .int .i32 (.c 0), .int .i32 (.c 0), .int .i32 (.c 0), .int .i32 (.c 0), .int .i32 (.c 0), .int .i64 (.c 0), .int .i64 (.c 0), .int .i64 (.c 0), .lit (.slice none 0 0)] 67 none, .cells [.sl (.own 3) 1 (.c 0) (.v 1) none, .bool (.c 1)] 96 none, .arr [.int .i64, .int .i64, .int .i64, .int .i64, .int .i64, .bool] 71 (.v 1000001) (.v 1000000), .arr [.int .i32] 21 (.v 1000002) (.v 1)], [.num (.v 0), .code [.int .i64, .int .i64, .int .i64, .int .i64, .int .i64, .bool] (.f 88 (.v 2) (.v 0) (.c 0)) (.v 0), .code [.int .i32] (.v 3) (.v 1)], [⟨[.int .u32], (.v 2), (.v 0), (.v 4), none⟩, ⟨[.int .i32], (.v 3), (.v 1), (.v 5), none⟩]⟩
theorem okk : rk.ok = true := by kernel_rfl
theorem okh : rk.rh.ok = true := by kernel_rfl
noncomputable def us : SMs := fun Γ ins n => smH (cxG n Γ ins) [] (smR (cxG n Γ ins) [CCDec.rc])
theorem us_ok : SMsOk us := fun Γ ins n => qZs (tabsG n Γ ins) (qZy _) (qZp (tabsG n Γ ins) (qQh CCDec.okb (rc_n CCDec.ok) (qZv _)))
def Q0 : E := (.cl 1000 0 4611686018427387904)
def Q1 : E := (tR (.v 2) Q0)
def Q2 : E := (.w .u32 Q1)
def Q3 : E := (.cl 1002 0 1000000)
def Q4 : E := (tp Q3 (.c 1))
def Q5 : E := (tl Q4 (.c 1000000))
def Q6 : E := (tp Q0 (.c 1))
def tree : TT (List E) :=
 (.loop ⟨1000, [some (0, 4611686018427387904), none, some (0, 1000000)], [(.c 0), (.c 0), (.c 0)], 1010⟩ (.br (tk Q0 (.v 0)) (.new 1004 (.f 67 Q2 (.c 0) (.c 0)) (.new 1005 (.f 67 Q2 (.c 1) (.c 0)) (.new 1006 (.f 67 Q2 (.c 2) (.c 0)) (.new 1007 (.f 67 Q2 (.c 3) (.c 0)) (.new 1008 (.f 67 Q2 (.c 4) (.c 0)) (.new 1009 (.f 67 Q2 (.c 5) (.c 0)) (.br Q5 (.br (tl Q6 (.c 4611686018427387904)) (.br Q5 (.back [Q6, (.f 14 (.v 1001) Q3 (tC (.cl 1004 (-32768) 65535) (tC (.cl 1005 (-32768) 65535) (tC (.cl 1006 (-32768) 65535) (tC (.cl 1007 (-32768) 65535) (tC (.cl 1008 (-32768) 65535) (tC (te (.cl 1009 (-32768) 65535) (.c 0)) (.c 0)))))))), Q4]) (.bad 303)) (.bad 303)) (.bad 200)))))))) (.exit 0)) (.leaf [Q3, (.v 1001), (.v 3)]))
def P (a b c d e f : Int) : Prop :=
 ∃ I1000 : Int → Int → Int → Nat → Prop, (∃ m, I1000 0 0 0 m) ∧ ∀ y0 y1 y2 : Int, ∀ m0, ((0 ≤ y0 ∧ y0 ≤ 4611686018427387904) ∧ True ∧ (0 ≤ y2 ∧ y2 ≤ 1000000) ∧ True) → I1000 y0 y1 y2 m0 → (Pb (Pl y0 a) (Pn (decZ (U3 (rdZ c y0)) 0) (-32768) 65535 fun y4 => Pn (decZ (U3 (rdZ c y0)) 1) (-32768) 65535 fun y5 => Pn (decZ (U3 (rdZ c y0)) 2) (-32768) 65535 fun y6 => Pn (decZ (U3 (rdZ c y0)) 3) (-32768) 65535 fun y7 => Pn (decZ (U3 (rdZ c y0)) 4) (-32768) 65535 fun y8 => Pn (decZ (U3 (rdZ c y0)) 5) (-32768) 65535 fun y9 => (Pm (PL (y2 + 1) 1000000) (Pm (PL (y0 + 1) 4611686018427387904) (Pm (PL (y2 + 1) 1000000) (∃ m', m' < m0 ∧ I1000 (y0 + 1) (updZ y1 y2 (kZ y4 (kZ y5 (kZ y6 (kZ y7 (kZ y8 (kZ (Pe y9 0) 0))))))) (y2 + 1) m'))))) ((y2 : Int) = a ∧ qQy [.int .i64, .int .i64, .int .i64, .int .i64,
 .int .i64, .bool] y1 (decW c a) a ∧ qQy [.int .i32] d d b ∧ True))
theorem holds (nc nr wq rm rW rD : Int) (l_nc : 0 ≤ nc) (u_nc : nc ≤ 16384) (l_nr : 0 ≤ nr) (u_nr : nr ≤ 2048) : P nc nr wq rm rW rD := by
 delta P Pb Pm Pn PL Pl Pe U3 kZ
 simp only [nrm, nro, Int.reduceEq, Int.reduceNeg, reduceIte]
 refine ⟨fun i q n m => n = i ∧ i ≤ nc ∧ q = decC wq i.toNat ∧ m = (nc - i).toNat, ⟨_, rfl, l_nc, rfl, rfl⟩, fun i q n m hb hI => ?_⟩
 obtain ⟨rfl, hi, rfl, rfl⟩ := hI
 refine ⟨fun h => ?_, fun h => ?_⟩
 ·rintro _ rfl _ _ rfl _ _ rfl _ _ rfl _ _ rfl _ _ rfl _
  refine ⟨by omega, by omega, by omega, _, ?_, rfl, by omega, ?_, rfl⟩
  ·omega
  ·rw [show (n + 1).toNat = n.toNat + 1 by omega, decC, show ((n.toNat : Nat) : Int) = n by omega]
   rfl
 ·rw [show n = nc by omega]
  exact ⟨rfl, qZt _ _ _, qZt _ _ _⟩
theorem plain (i v ro p) : statH 2 rk tree ⟨i, fN, v, ro, p⟩ = P (i 0) (i 1) (i 2) (i 3) (i 4) (i 5) := by kernel_rfl
theorem ran : ranH us (fun _ _ => .auto) rk 2 tree = true := by kernel_rfl
theorem fineT : fineH 2 rk tree = true := by kernel_rfl
theorem ok : RhOk (cxOf 2) rk.rh := okH us_ok ran fineT (by kernel_rfl) okk fun i v ro p hρ hpre => by rw [plain]; have q := hρ.hi; exact holds _ _ _ _ _ _ (q 0 _ rfl).1 (q 0 _ rfl).2 (q 1 _ rfl).1 (q 1 _ rfl).2
end CCNew
end Go.Proofs.YtdnkgacjibjlhaaGreatDoor
