/-
  What functions of the program answer, as numbers of what they are handed: their runs by the engine, the plain statements behind them. No condition.
-/
import Derived.Test.YtieocjnfjjgjeabKa
import Derived.Test.YtieocjnfjjgjeabGab
import Derived.Test.YtieocjnfjjgjeabGp1
import Derived.Test.YtieocjnfjjgjeabGp2
set_option linter.unusedVariables false
set_option linter.unusedSimpArgs false
set_option maxRecDepth 100000
namespace Go.Proofs.Ytieocjnfjjgjeab
open Go.Eng Go.RowKit
namespace CSMb
def rk : Rk := ⟨42, [(0, 0), (0, 1000000), (0, 1000000), (0, 1000000), (0, 1000000)], 6, [.sl (.own 0) 4 (.c 0) (.v 1) none, .int .i64 (.v 2), .int .i64 (.v 3), .int .i64 (.v 4), .func (.func 18) [] []], [.arr [.int .i64, .int .i64, .int .i64, .int .i64] 30 (.v 5) (.v 1)], [(.c 2), (.b .le .i64 (.b .padd .i64 (.v 2) (.c 1)) (.v 3)), (.b .le .i64 (.b .padd .i64 (.v 3) (.c 1)) (.v 4)), (.b .le .i64 (.v 4) (.v 1)), (.f 154 (.v 5) (.v 2) (.v 3)), (.f 154 (.v 5) (.v 3) (.v 4)), (.b .ne .i64 (.b .psub .i64 (.v 3) (.v 2)) (.c 1)), (.b .eq .i64 (.b .psub .i64 (.v 4) (.v 3)) (.c 1)), (.b .eq .i64 (.c 0) (.v 0))], .tup [], [.arr [.int .i64, .int .i64, .int .i64, .int .i64] 30 (.v 1000000) (.v 1)], [.code [.int .i64, .int .i64, .int .i64, .int .i64] (.f 153 (.v 5) (.v 1) (qQs [(.v 2), (.v 4)])) (.v 1)], []⟩
theorem okk : rk.ok = true := by kernel_rfl
theorem okh : rk.rh.ok = true := by kernel_rfl
def mk42_15 : qZd := [([0, 15], .num (-9223372036854775808) (9223372036854775807)), ([0, 14], .num (-9223372036854775808) (9223372036854775807)), ([0, 16], .wilds 1), ([0, 83], .wilds 24)]
def mk42_21 : qZd := [([0, 17], .num (-4611686018427387904) (4611686018427387904)), ([1, 0, 0], .code), ([0, 108], .wilds 21)]
noncomputable def us : SMs := fun Γ ins n => smH (cxG n Γ ins) [] (smR (cxG n Γ ins) [CTCmp.rc])
theorem us_ok : SMsOk us := fun Γ ins n => qJp (tabsG n Γ ins) (qZp _) (qJh (tabsG n Γ ins) (qJv CTCmp.okb (rc_n CTCmp.ok) (qZr _)))
def Q0 : E := (.cl 1000 (-9223372036854775808) 9223372036854775807)
def Q1 : E := (.cl 1001 (-9223372036854775808) 9223372036854775807)
def Q2 : E := (tp Q0 Q1)
def Q3 : E := (.w .u64 Q2)
def Q4 : E := (.b .shr .u64 Q3 (.c 1))
def Q5 : E := (tR (.v 5) (.v 3))
def Q6 : E := (.cl 1003 0 9223372036854775807)
def Q7 : E := (tR (.v 5) Q6)
def Q8 : E := (.cl 1011 (-9223372036854775808) 9223372036854775807)
def Q9 : E := (.cl 1007 (-9223372036854775808) 9223372036854775807)
def Q10 : E := (.cl 1015 (-4611686018427387904) 4611686018427387904)
def Q11 : E := (.b .psub .i64 Q10 (.c 1))
def Q12 : E := (tR (.v 1016) Q11)
def Q13 : E := (tR (.v 1016) Q10)
def tree : TT (List E) :=
 (.loop ⟨1000, [some (-9223372036854775808, 9223372036854775807), some (-9223372036854775808, 9223372036854775807)], [(.v 2), (.v 3)], 1013⟩ (.br (tk Q0 Q1) (.new 1003 Q4 (.br (tk (.v 3) (.v 1)) (.new 1004 (t6 (tR Q5 (.c 0))) (.new 1005 (t6 (tR Q5 (.c 1))) (.new 1006 (t6 (tR Q5 (.c 2))) (.new 1007 (t6 (tR Q5 (.c 3))) (.br (tk Q6 (.v 1)) (.new 1008 (t6 (tR Q7 (.c 0))) (.new 1009 (t6 (tR Q7 (.c 1))) (.new 1010 (t6 (tR Q7 (.c 2))) (.new 1011 (t6 (tR Q7 (.c 3))) (.new 1012 (.ite (tk Q8 Q9) (.c (-1)) (.ite (tk Q9 Q8) (.c 1) (.c 0))) (.br (.nt (tk (.cl 1012 (-1) 1) (.c 0))) (.back [(t6 (tp Q4 (.c 1))), Q1]) (.back [Q0, Q4]))))))) (.bad 200)))))) (.bad 200))) (.exit 0)) (.loop ⟨1015, [some (-4611686018427387904, 4611686018427387904), none], [(.v 3), (.v 5)], 1026⟩ (.br (tk Q0 Q10) (.br (tl (.c
 0) Q11) (.br (tk Q11 (.v 1)) (.new 1018 (t6 (tR Q12 (.c 0))) (.new 1019 (t6 (tR Q12 (.c 1))) (.new 1020 (t6 (tR Q12 (.c 2))) (.new 1021 (t6 (tR Q12 (.c 3))) (.br (tl (.c 0) Q10) (.br (tk Q10 (.v 1)) (.new 1022 (t6 (tR Q13 (.c 0))) (.new 1023 (t6 (tR Q13 (.c 1))) (.new 1024 (t6 (tR Q13 (.c 2))) (.new 1025 (t6 (tR Q13 (.c 3))) (.br (tl (.c (-4611686018427387904)) Q11) (.back [Q11, (.f 14 (.f 14 (.v 1016) Q10 (tC (.cl 1018 (-9223372036854775808) 9223372036854775807) (tC (.cl 1019 (-9223372036854775808) 9223372036854775807) (tC (.cl 1020 (-9223372036854775808) 9223372036854775807) (tC (.cl 1021 (-9223372036854775808) 9223372036854775807) (.c 0)))))) Q11 (tC (.cl 1022 (-9223372036854775808) 9223372036854775807) (tC (.cl 1023 (-9223372036854775808) 9223372036854775807) (tC (.cl 1024
 (-9223372036854775808) 9223372036854775807) (tC (.cl 1025 (-9223372036854775808) 9223372036854775807) (.c 0))))))]) (.bad 303)))))) (.bad 200)) (.bad 200)))))) (.bad 200)) (.bad 200)) (.exit 0)) (.leaf [(.v 1016)])))
def P (a b c d e f : Int) : Prop :=
 ∃ I1000 : Int → Int → Nat → Prop, (∃ m, I1000 c d m) ∧ ∀ y0 y1 : Int, ∀ m0, (((-9223372036854775808) ≤ y0 ∧ y0 ≤ 9223372036854775807) ∧ ((-9223372036854775808) ≤ y1 ∧ y1 ≤ 9223372036854775807) ∧ True) → I1000 y0 y1 m0 → (Pb (Pl y0 y1) (Pn (shrZ .u64 (IntKind.wrap .u64 (y0 + y1)) 1) 0 9223372036854775807 fun y3 => (Pm (Pl d b) (Pn (W6 (rdZ (rdZ f d) 0)) (-9223372036854775808) 9223372036854775807 fun y4 => Pn (W6 (rdZ (rdZ f d) 1)) (-9223372036854775808) 9223372036854775807 fun y5 => Pn (W6 (rdZ (rdZ f d) 2)) (-9223372036854775808) 9223372036854775807 fun y6 => Pn (W6 (rdZ (rdZ f d) 3)) (-9223372036854775808) 9223372036854775807 fun y7 => (Pm (Pl y3 b) (Pn (W6 (rdZ (rdZ f y3) 0)) (-9223372036854775808) 9223372036854775807 fun y8 => Pn (W6 (rdZ (rdZ f y3) 1)) (-9223372036854775808)
 9223372036854775807 fun y9 => Pn (W6 (rdZ (rdZ f y3) 2)) (-9223372036854775808) 9223372036854775807 fun y10 => Pn (W6 (rdZ (rdZ f y3) 3)) (-9223372036854775808) 9223372036854775807 fun y11 => Pn (iteZ (Pl y11 y7) (-1) (iteZ (Pl y7 y11) 1 0)) (-1) 1 fun y12 => (Pb (Pe (Pl y12 0) 0) (∃ m', m' < m0 ∧ I1000 (W6 ((shrZ .u64 (IntKind.wrap .u64 (y0 + y1)) 1) + 1)) y1 m') (∃ m', m' < m0 ∧ I1000 y0 (shrZ .u64 (IntKind.wrap .u64 (y0 + y1)) 1) m'))))))) (∃ I1015 : Int → Int → Nat → Prop, (∃ m, I1015 d f m) ∧ ∀ y15 y16 : Int, ∀ m15, (((-4611686018427387904) ≤ y15 ∧ y15 ≤ 4611686018427387904) ∧ True ∧ True) → I1015 y15 y16 m15 → (Pb (Pl y0 y15) (Pm (PL 0 (y15 - 1)) (Pm (Pl (y15 - 1) b) (Pn (W6 (rdZ (rdZ y16 (y15 - 1)) 0)) (-9223372036854775808) 9223372036854775807 fun y18 => Pn (W6 (rdZ (rdZ y16 (y15
 - 1)) 1)) (-9223372036854775808) 9223372036854775807 fun y19 => Pn (W6 (rdZ (rdZ y16 (y15 - 1)) 2)) (-9223372036854775808) 9223372036854775807 fun y20 => Pn (W6 (rdZ (rdZ y16 (y15 - 1)) 3)) (-9223372036854775808) 9223372036854775807 fun y21 => (Pm (PL 0 y15) (Pm (Pl y15 b) (Pn (W6 (rdZ (rdZ y16 y15) 0)) (-9223372036854775808) 9223372036854775807 fun y22 => Pn (W6 (rdZ (rdZ y16 y15) 1)) (-9223372036854775808) 9223372036854775807 fun y23 => Pn (W6 (rdZ (rdZ y16 y15) 2)) (-9223372036854775808) 9223372036854775807 fun y24 => Pn (W6 (rdZ (rdZ y16 y15) 3)) (-9223372036854775808) 9223372036854775807 fun y25 => (Pm (PL (-4611686018427387904) (y15 - 1)) (∃ m', m' < m15 ∧ I1015 (y15 - 1) (updZ (updZ y16 y15 (kZ y18 (kZ y19 (kZ y20 (kZ y21 0))))) (y15 - 1) (kZ y22 (kZ y23 (kZ y24 (kZ y25 0)))))
 m')))))))) (qJz [.int .i64, .int .i64, .int .i64, .int .i64] y16 (stbZ f b (kZ c (kZ e 0))) b ∧ True))))
theorem shr1 {x : Int} (h0 : 0 ≤ x) (h1 : x ≤ 4000000) : shrZ .u64 x 1 = x / 2 := by
 unfold shrZ
 rw [shr_ev]
 rfl
set_option maxHeartbeats 4000000 in
theorem holds (o n a mi b q : Int) (l_o : 0 ≤ o) (u_o : o ≤ 0) (l_n : 0 ≤ n) (u_n : n ≤ 1000000) (l_a : 0 ≤ a) (u_a : a ≤ 1000000) (l_mi : 0 ≤ mi) (u_mi : mi ≤ 1000000) (l_b : 0 ≤ b) (u_b : b ≤ 1000000) (h_pre0 : (2 : Int) ≠ 0) (h_pre1 : qQq (decide (a+1 ≤ mi)) ≠ 0) (h_pre2 : qQq (decide (mi+1 ≤ b)) ≠ 0) (h_pre3 : qQq (decide (b ≤ n)) ≠ 0) (h_pre4 : (srtZ q a mi) ≠ 0) (h_pre5 : (srtZ q mi b) ≠ 0) (h_pre6 : qQq (mi-a != 1) ≠ 0) (h_pre7 : qQq (b-mi == 1) ≠ 0) (h_pre8 : qQq (0 == o) ≠ 0) : P o n a mi b q := by
 delta P Pb Pm Pn PL Pl Pe W6 kZ
 simp only [nrm, Int.reduceEq, Int.reduceNeg, reduceIte]
 simp only [nrm, Int.reduceEq, Int.reduceNeg, reduceIte] at h_pre1 h_pre2 h_pre3 h_pre4 h_pre5 h_pre6 h_pre7
 have L := qXy.1 h_pre4
 have R := qXy.1 h_pre5
 refine ⟨fun s r m => a ≤ s ∧ s ≤ r ∧ r ≤ mi ∧ m = (r - s).toNat ∧ (s = a ∨ cH (elH q mi.toNat) ≤ cH (elH q (s - 1).toNat)) ∧ (r = mi ∨ cH (elH q r.toNat) < cH (elH q mi.toNat)), ⟨_, by omega, by omega, by omega, rfl, .inl rfl, .inl rfl⟩, ?_⟩
 rintro s r m _ ⟨i0, i1, i2, rfl, i3, i4⟩
 have hsr : shrZ .u64 (IntKind.wrap .u64 (s + r)) 1 = (s + r) / 2 := by
  rw [qXk .u64 _ (by show (0 : Int) ≤ _; omega) (by show _ ≤ (18446744073709551615 : Int); omega)]
  exact shr1 (by omega) (by omega)
 refine ⟨fun hlt => ?_, fun hge => ?_⟩
 ·intro c hc _
  rw [hsr] at hc
  refine ⟨fun _ => ?_, fun h => by omega⟩
  intro y5 _ _ y6 _ _ y7 _ _ y8 e8 _
  refine ⟨fun _ => ?_, fun h => by omega⟩
  intro y9 _ _ y10 _ _ y11 _ _ y12 e12 _ y13 e13 _
  rw [cH_e (by omega)] at e8 e12
  rw [hsr]
  refine ⟨fun hk => ?_, fun hk => ?_⟩
  ·have hge' : y8 ≤ y12 := by rw [e13] at hk; omega
   rw [w64 (by omega) (by omega)]
   refine ⟨(r - ((s + r) / 2 + 1)).toNat, by omega, by omega, by omega, by omega, rfl, .inr ?_, i4⟩
   rw [show (s + r) / 2 + 1 - 1 = c by omega]
   omega
  ·have hlt' : y12 < y8 := by rw [e13] at hk; omega
   refine ⟨((s + r) / 2 - s).toNat, by omega, by omega, by omega, by omega, rfl, i3, .inr ?_⟩
   rw [← hc]
   omega
 ·have hsr2 : s = r := by omega
  subst hsr2
  have hm : Mrg q n a mi b (s + 1) s b := by
   refine ⟨l_a, by omega, by omega, h_pre3, by omega, by omega, by omega, by omega, by omega, by omega, by omega, L, R, fun x y h1 h2 h3 h4 => by omega, fun x y h1 h2 h3 h4 => ?_⟩
   rcases i4 with i4 | i4
   ·omega
   ·have ey : y = mi.toNat := by omega
    rw [ey]
    by_cases hx : x = s.toNat
    ·rw [hx]; exact i4
    ·have := L s.toNat x (by omega) (by omega) h2
     omega
  refine ⟨fun k y m => s ≤ k ∧ k ≤ mi ∧ m = (k - s).toNat ∧ ∀ x : Nat, (x : Int) < n → elH y x = elH q (rotI k mi (mi + 1) x).toNat, ⟨_, by omega, by omega, rfl, fun x hx => ?_⟩, ?_⟩
  ·congr 1; unfold rotI; omega
  rintro k y m _ ⟨k0, k1, rfl, hI⟩
  refine ⟨fun hk => ⟨fun _ => ⟨fun _ => ?_, fun h => by omega⟩, fun h => by omega⟩, fun hk => ?_⟩
  ·intro y0 e0 _ y1 e1 _ y2 e2 _ y3 e3 _
   refine ⟨fun _ => ⟨fun _ => ?_, fun h => by omega⟩, fun h => by omega⟩
   intro z0 f0 _ z1 f1 _ z2 f2 _ z3 f3 _
   refine ⟨fun _ => ⟨(k - 1 - s).toNat, by omega, by omega, by omega, rfl, fun x hx => ?_⟩, fun h => by omega⟩
   rw [elH_mv _ (by omega) (by omega) f0 f1 f2 f3, elH_mv _ (by omega) (by omega) e0 e1 e2 e3]
   by_cases h1 : (x : Int) = k - 1
   ·rw [if_pos h1, hI _ (by omega)]; congr 1; unfold rotI; omega
   ·rw [if_neg h1]
    by_cases h2 : (x : Int) = k
    ·rw [if_pos h2, hI _ (by omega)]; congr 1; unfold rotI; omega
    ·rw [if_neg h2, hI x hx]; congr 1; unfold rotI; omega
  ·have ek : k = s := by omega
   subst ek
   have t : Trn q n mi k b y := fun x hx => by
    rw [hI x hx]; congr 1; unfold rotI; omega
   refine Go.Eng.Mrg.w4 hm t (fun i j h1 h2 h3 h4 => ?_) fun i j h1 h2 h3 h4 => by omega
   rcases i3 with i3 | i3
   ·omega
   ·have ej : j = mi.toNat := by omega
    rw [ej]
    by_cases hi : i = (k - 1).toNat
    ·rw [hi]; exact i3
    ·have := L i (k - 1).toNat h1 (by omega) (by omega)
     omega
theorem plain (i v ro p) : statH 2 rk tree ⟨i, fN, v, ro, p⟩ = P (i 0) (i 1) (i 2) (i 3) (i 4) (i 5) := by kernel_rfl
theorem ran : ranH us (fun f i => if f = 42 then (match i with | 15 => .tmpl (some mk42_15) | 21 => .tmpl (some mk42_21) | _ => .auto) else .auto) rk 2 tree = true := by kernel_rfl
theorem fineT : fineH 2 rk tree = true := by kernel_rfl
theorem ok : RhOk (cxOf 2) rk.rh := okH us_ok ran fineT (by kernel_rfl) okk fun i v ro p hρ hpre => by rw [plain]; have q := hρ.hi; exact holds _ _ _ _ _ _ (q 0 _ rfl).1 (q 0 _ rfl).2 (q 1 _ rfl).1 (q 1 _ rfl).2 (q 2 _ rfl).1 (q 2 _ rfl).2 (q 3 _ rfl).1 (q 3 _ rfl).2 (q 4 _ rfl).1 (q 4 _ rfl).2 (hpre _ (mg 0 rfl)) (hpre _ (mg 1 rfl)) (hpre _ (mg 2 rfl)) (hpre _ (mg 3 rfl)) (hpre _ (mg 4 rfl)) (hpre _ (mg 5 rfl)) (hpre _ (mg 6 rfl)) (hpre _ (mg 7 rfl)) (hpre _ (mg 8 rfl))
end CSMb
namespace CSSwp
def rk : Rk := ⟨62, [(0, 1000000), (0, 1000000), (0, 1000000), (0, 1000000)], 5, [.sl (.own 0) 4 (.c 0) (.v 0) none, .int .i64 (.v 1), .int .i64 (.v 2), .int .i64 (.v 3), .func (.func 18) [] []], [.arr [.int .i64, .int .i64, .int .i64, .int .i64] 30 (.v 4) (.v 0)], [(.b .le .i64 (.b .padd .i64 (.v 1) (.v 3)) (.v 2)), (.b .le .i64 (.b .padd .i64 (.v 2) (.v 3)) (.v 0))], .tup [], [.arr [.int .i64, .int .i64, .int .i64, .int .i64] 30 (.v 1000000) (.v 0)], [.code [.int .i64, .int .i64, .int .i64, .int .i64] (.f 156 (.v 4) (.v 0) (qQs [(.v 1), (.v 2), (.v 3)])) (.v 0)], []⟩
theorem okk : rk.ok = true := by kernel_rfl
theorem okh : rk.rh.ok = true := by kernel_rfl
noncomputable def us : SMs := fun Γ ins n => smH (cxG n Γ ins) [] (smR (cxG n Γ ins) [])
theorem us_ok : SMsOk us := fun Γ ins n => qJp (tabsG n Γ ins) (qZp _) (qJh (tabsG n Γ ins) (qZr _))
def Q0 : E := (.cl 1000 0 4611686018427387904)
def Q1 : E := (tp (.v 2) Q0)
def Q2 : E := (tR (.v 1001) Q1)
def Q3 : E := (tp (.v 1) Q0)
def Q4 : E := (tR (.v 1001) Q3)
def Q5 : E := (tp Q0 (.c 1))
def tree : TT (List E) :=
 (.loop ⟨1000, [some (0, 4611686018427387904), none], [(.c 0), (.v 4)], 1011⟩ (.br (tk Q0 (.v 3)) (.br (tk Q1 (.v 0)) (.new 1003 (t6 (tR Q2 (.c 0))) (.new 1004 (t6 (tR Q2 (.c 1))) (.new 1005 (t6 (tR Q2 (.c 2))) (.new 1006 (t6 (tR Q2 (.c 3))) (.br (tk Q3 (.v 0)) (.new 1007 (t6 (tR Q4 (.c 0))) (.new 1008 (t6 (tR Q4 (.c 1))) (.new 1009 (t6 (tR Q4 (.c 2))) (.new 1010 (t6 (tR Q4 (.c 3))) (.br (tl Q5 (.c 4611686018427387904)) (.back [Q5, (.f 14 (.f 14 (.v 1001) Q3 (tC (.cl 1003 (-9223372036854775808) 9223372036854775807) (tC (.cl 1004 (-9223372036854775808) 9223372036854775807) (tC (.cl 1005 (-9223372036854775808) 9223372036854775807) (tC (.cl 1006 (-9223372036854775808) 9223372036854775807) (.c 0)))))) Q1 (tC (.cl 1007 (-9223372036854775808) 9223372036854775807) (tC (.cl 1008
 (-9223372036854775808) 9223372036854775807) (tC (.cl 1009 (-9223372036854775808) 9223372036854775807) (tC (.cl 1010 (-9223372036854775808) 9223372036854775807) (.c 0))))))]) (.bad 303)))))) (.bad 200)))))) (.bad 200)) (.exit 0)) (.leaf [(.v 1001)]))
def P (a b c d e : Int) : Prop :=
 ∃ I1000 : Int → Int → Nat → Prop, (∃ m, I1000 0 e m) ∧ ∀ y0 y1 : Int, ∀ m0, ((0 ≤ y0 ∧ y0 ≤ 4611686018427387904) ∧ True ∧ True) → I1000 y0 y1 m0 → (Pb (Pl y0 d) (Pm (Pl (c + y0) a) (Pn (W6 (rdZ (rdZ y1 (c + y0)) 0)) (-9223372036854775808) 9223372036854775807 fun y3 => Pn (W6 (rdZ (rdZ y1 (c + y0)) 1)) (-9223372036854775808) 9223372036854775807 fun y4 => Pn (W6 (rdZ (rdZ y1 (c + y0)) 2)) (-9223372036854775808) 9223372036854775807 fun y5 => Pn (W6 (rdZ (rdZ y1 (c + y0)) 3)) (-9223372036854775808) 9223372036854775807 fun y6 => (Pm (Pl (b + y0) a) (Pn (W6 (rdZ (rdZ y1 (b + y0)) 0)) (-9223372036854775808) 9223372036854775807 fun y7 => Pn (W6 (rdZ (rdZ y1 (b + y0)) 1)) (-9223372036854775808) 9223372036854775807 fun y8 => Pn (W6 (rdZ (rdZ y1 (b + y0)) 2)) (-9223372036854775808)
 9223372036854775807 fun y9 => Pn (W6 (rdZ (rdZ y1 (b + y0)) 3)) (-9223372036854775808) 9223372036854775807 fun y10 => (Pm (PL (y0 + 1) 4611686018427387904) (∃ m', m' < m0 ∧ I1000 (y0 + 1) (updZ (updZ y1 (b + y0) (kZ y3 (kZ y4 (kZ y5 (kZ y6 0))))) (c + y0) (kZ y7 (kZ y8 (kZ y9 (kZ y10 0))))) m')))))) (qJz [.int .i64, .int .i64, .int .i64, .int .i64] y1 (swrZ e a (kZ b (kZ c (kZ d 0)))) a ∧ True))
theorem holds (n a b k q : Int) (l_n : 0 ≤ n) (u_n : n ≤ 1000000) (l_a : 0 ≤ a) (u_a : a ≤ 1000000) (l_b : 0 ≤ b) (u_b : b ≤ 1000000) (l_k : 0 ≤ k) (u_k : k ≤ 1000000) (h_pre0 : qQq (decide (a+k ≤ b)) ≠ 0) (h_pre1 : qQq (decide (b+k ≤ n)) ≠ 0) : P n a b k q := by
 delta P Pb Pm Pn PL Pl W6 kZ
 simp only [nrm, Int.reduceEq, Int.reduceNeg, reduceIte]
 simp only [nrm, Int.reduceEq, Int.reduceNeg, reduceIte] at h_pre0 h_pre1
 refine ⟨fun i y m => 0 ≤ i ∧ i ≤ k ∧ m = (k - i).toNat ∧ ∀ j : Nat, (j : Int) < n → elH y j = elH q (swrI a b i j).toNat, ⟨_, by omega, by omega, rfl, fun j hj => ?_⟩, ?_⟩
 ·congr 1; unfold swrI; omega
 rintro i y m _ ⟨i0, i1, rfl, hI⟩
 refine ⟨fun hi => ⟨fun _ => ?_, fun h => by omega⟩, fun hi => ?_⟩
 ·intro y0 e0 _ y1 e1 _ y2 e2 _ y3 e3 _
  refine ⟨fun _ => ?_, fun h => by omega⟩
  intro z0 f0 _ z1 f1 _ z2 f2 _ z3 f3 _
  refine ⟨fun _ => ⟨(k - (i + 1)).toNat, by omega, by omega, by omega, rfl, fun j hj => ?_⟩, fun h => by omega⟩
  rw [elH_mv _ (by omega) (by omega) f0 f1 f2 f3, elH_mv _ (by omega) (by omega) e0 e1 e2 e3]
  by_cases h1 : (j : Int) = b + i
  ·rw [if_pos h1, hI _ (by omega)]
   congr 1; unfold swrI; omega
  ·rw [if_neg h1]
   by_cases h2 : (j : Int) = a + i
   ·rw [if_pos h2, hI _ (by omega)]
    congr 1; unfold swrI; omega
   ·rw [if_neg h2, hI j hj]
    congr 1; unfold swrI; omega
 ·have e : i = k := by omega
  subst e
  exact swr_eq hI
theorem plain (i v ro p) : statH 2 rk tree ⟨i, fN, v, ro, p⟩ = P (i 0) (i 1) (i 2) (i 3) (i 4) := by kernel_rfl
theorem ran : ranH us (fun _ _ => .auto) rk 2 tree = true := by kernel_rfl
theorem fineT : fineH 2 rk tree = true := by kernel_rfl
theorem ok : RhOk (cxOf 2) rk.rh := okH us_ok ran fineT (by kernel_rfl) okk fun i v ro p hρ hpre => by rw [plain]; have q := hρ.hi; exact holds _ _ _ _ _ (q 0 _ rfl).1 (q 0 _ rfl).2 (q 1 _ rfl).1 (q 1 _ rfl).2 (q 2 _ rfl).1 (q 2 _ rfl).2 (q 3 _ rfl).1 (q 3 _ rfl).2 (hpre _ (mg 0 rfl)) (hpre _ (mg 1 rfl))
end CSSwp
namespace CSRot
def rk : Rk := ⟨57, [(0, 1000000), (0, 1000000), (0, 1000000), (0, 1000000)], 5, [.sl (.own 0) 4 (.c 0) (.v 0) none, .int .i64 (.v 1), .int .i64 (.v 2), .int .i64 (.v 3), .func (.func 18) [] []], [.arr [.int .i64, .int .i64, .int .i64, .int .i64] 30 (.v 4) (.v 0)], [(.b .le .i64 (.b .padd .i64 (.v 1) (.c 1)) (.v 2)), (.b .le .i64 (.b .padd .i64 (.v 2) (.c 1)) (.v 3)), (.b .le .i64 (.v 3) (.v 0))], .tup [], [.arr [.int .i64, .int .i64, .int .i64, .int .i64] 30 (.v 1000000) (.v 0)], [.code [.int .i64, .int .i64, .int .i64, .int .i64] (.f 155 (.v 4) (.v 0) (qQs [(.v 1), (.v 2), (.v 3)])) (.v 0)], []⟩
theorem okk : rk.ok = true := by kernel_rfl
theorem okh : rk.rh.ok = true := by kernel_rfl
noncomputable def us : SMs := fun Γ ins n => smH (cxG n Γ ins) [CSSwp.rk.rh] (smR (cxG n Γ ins) [])
theorem us_ok : SMsOk us := fun Γ ins n => qJp (tabsG n Γ ins) (qZw CSSwp.okh (rh_n CSSwp.ok) (qZp _)) (qJh (tabsG n Γ ins) (qZr _))
def Q0 : E := (.cl 1000 (-9223372036854775808) 9223372036854775807)
def Q1 : E := (.cl 1001 (-9223372036854775808) 9223372036854775807)
def Q2 : E := (.b .psub .i64 (.v 2) Q0)
def Q3 : E := (t6 Q2)
def Q4 : E := (tl (.c 0) Q3)
def Q5 : E := (tl Q3 (.c 1000000))
def Q6 : E := (tp (.v 2) Q1)
def Q7 : E := (t6 Q6)
def Q8 : E := (.b .psub .i64 Q7 Q0)
def Q9 : E := (t6 Q8)
def Q10 : E := (tl (.c 0) Q0)
def Q11 : E := (tl Q0 (.c 1000000))
def Q12 : E := (tp Q3 Q0)
def Q13 : E := (.cl 1004 (-9223372036854775808) 9223372036854775807)
def Q14 : E := (tC Q0 (.c 0))
def tree : TT (List E) :=
 (.loop ⟨1000, [some (-9223372036854775808, 9223372036854775807), some (-9223372036854775808, 9223372036854775807), none], [(.b .psub .i64 (.v 2) (.v 1)), (.b .psub .i64 (.v 3) (.v 2)), (.v 4)], 1005⟩ (.br (tn Q0 Q1) (.br (tk Q1 Q0) (.br Q4 (.br Q5 (.br (tl (.c 0) Q1) (.br (tl Q1 (.c 1000000)) (.br (tl (tp Q3 Q1) (.v 2)) (.br (tl Q6 (.v 0)) (.back [(t6 (.b .psub .i64 Q0 Q1)), Q1, (.f 156 (.v 1002) (.v 0) (tC Q3 (tC (.v 2) (tC Q1 (.c 0)))))]) (.bad 200)) (.bad 200)) (.bad 200)) (.bad 200)) (.bad 200)) (.bad 200)) (.br Q4 (.br Q5 (.br (tl (.c 0) Q9) (.br (tl Q9 (.c 1000000)) (.br Q10 (.br Q11 (.new 1004 Q9 (.br (tl Q12 Q13) (.br (tl (tp Q13 Q0) (.v 0)) (.back [Q0, (t6 (.b .psub .i64 Q1 Q0)), (.f 156 (.v 1002) (.v 0) (tC Q3 (tC Q13 Q14)))]) (.bad 200)) (.bad 200))) (.bad 200)) (.bad 200))
 (.bad 200)) (.bad 200)) (.bad 200)) (.bad 200))) (.exit 0)) (.br Q4 (.br Q5 (.br Q10 (.br Q11 (.br (tl Q12 (.v 2)) (.br (tl (tp (.v 2) Q0) (.v 0)) (.leaf [(.f 156 (.v 1002) (.v 0) (tC Q3 (tC (.v 2) Q14)))]) (.bad 200)) (.bad 200)) (.bad 200)) (.bad 200)) (.bad 200)) (.bad 200)))
def P (a b c d e : Int) : Prop :=
 ∃ I1000 : Int → Int → Int → Nat → Prop, (∃ m, I1000 (c - b) (d - c) e m) ∧ ∀ y0 y1 y2 : Int, ∀ m0, (((-9223372036854775808) ≤ y0 ∧ y0 ≤ 9223372036854775807) ∧ ((-9223372036854775808) ≤ y1 ∧ y1 ≤ 9223372036854775807) ∧ True ∧ True) → I1000 y0 y1 y2 m0 → (Pb (Pd y0 y1) (Pb (Pl y1 y0) (Pm (PL 0 (W6 (c - y0))) (Pm (PL (W6 (c - y0)) 1000000) (Pm (PL 0 y1) (Pm (PL y1 1000000) (Pm (PL ((W6 (c - y0)) + y1) c) (Pm (PL (c + y1) a) (∃ m', m' < m0 ∧ I1000 (W6 (y0 - y1)) y1 (swrZ y2 a (kZ (W6 (c - y0)) (kZ c (kZ y1 0)))) m'))))))) (Pm (PL 0 (W6 (c - y0))) (Pm (PL (W6 (c - y0)) 1000000) (Pm (PL 0 (W6 ((W6 (c + y1)) - y0))) (Pm (PL (W6 ((W6 (c + y1)) - y0)) 1000000) (Pm (PL 0 y0) (Pm (PL y0 1000000) (Pn (W6 ((W6 (c + y1)) - y0)) (-9223372036854775808) 9223372036854775807 fun y4 => (Pm (PL ((W6 (c -
 y0)) + y0) y4) (Pm (PL (y4 + y0) a) (∃ m', m' < m0 ∧ I1000 y0 (W6 (y1 - y0)) (swrZ y2 a (kZ (W6 (c - y0)) (kZ y4 (kZ y0 0)))) m'))))))))))) (Pm (PL 0 (W6 (c - y0))) (Pm (PL (W6 (c - y0)) 1000000) (Pm (PL 0 y0) (Pm (PL y0 1000000) (Pm (PL ((W6 (c - y0)) + y0) c) (Pm (PL (c + y0) a) (qJz [.int .i64, .int .i64, .int .i64, .int .i64] (swrZ y2 a (kZ (W6 (c - y0)) (kZ c (kZ y0 0)))) (rotZ e a (kZ b (kZ c (kZ d 0)))) a ∧ True))))))))
theorem rot_bd {a m b x n : Int} (h0 : 0 ≤ a) (h1 : a ≤ m) (h2 : m ≤ b) (h3 : b ≤ n) (hx : 0 ≤ x) (hx2 : x < n) : 0 ≤ rotI a m b x ∧ rotI a m b x < n := by unfold rotI; omega
theorem rot_stepA {m i j x : Int} (h : 0 < j) (h2 : j < i) : swrI (m - i) m j (rotI (m - (i - j)) m (m + j) x) = rotI (m - i) m (m + j) x := by unfold swrI rotI; omega
theorem rot_stepB {m i j x : Int} (h : 0 < i) (h2 : i < j) : swrI (m - i) (m + j - i) i (rotI (m - i) m (m + (j - i)) x) = rotI (m - i) m (m + j) x := by unfold swrI rotI; omega
theorem rot_end {m i x : Int} (h : 0 < i) : swrI (m - i) m i x = rotI (m - i) m (m + i) x := by unfold swrI rotI; omega
theorem holds (n a mi b q : Int) (l_n : 0 ≤ n) (u_n : n ≤ 1000000) (l_a : 0 ≤ a) (u_a : a ≤ 1000000) (l_mi : 0 ≤ mi) (u_mi : mi ≤ 1000000) (l_b : 0 ≤ b) (u_b : b ≤ 1000000) (h_pre0 : qQq (decide (a+1 ≤ mi)) ≠ 0) (h_pre1 : qQq (decide (mi+1 ≤ b)) ≠ 0) (h_pre2 : qQq (decide (b ≤ n)) ≠ 0) : P n a mi b q := by
 delta P Pb Pm Pn PL Pl Pd W6 kZ
 simp only [nrm, Int.reduceEq, Int.reduceNeg, reduceIte]
 simp only [nrm, Int.reduceEq, Int.reduceNeg, reduceIte] at h_pre0 h_pre1 h_pre2
 refine ⟨fun i j y m => 0 < i ∧ 0 < j ∧ i ≤ mi - a ∧ j ≤ b - mi ∧ m = (i + j).toNat ∧ ∀ x : Nat, (x : Int) < n → elH q (rotI a mi b x).toNat = elH y (rotI (mi - i) mi (mi + j) x).toNat, ⟨_, by omega, by omega, by omega, by omega, rfl, fun x hx => ?_⟩, ?_⟩
 ·rw [show mi - (mi - a) = a by omega, show mi + (b - mi) = b by omega]
 rintro i j y m _ ⟨i0, j0, i1, j1, rfl, hI⟩
 have e1 : IntKind.wrap .i64 (mi - i) = mi - i := w64 (by omega) (by omega)
 have e2 : IntKind.wrap .i64 (i - j) = i - j := w64 (by omega) (by omega)
 have e3 : IntKind.wrap .i64 (j - i) = j - i := w64 (by omega) (by omega)
 have e4 : IntKind.wrap .i64 (mi + j) = mi + j := w64 (by omega) (by omega)
 have e5 : IntKind.wrap .i64 (mi + j - i) = mi + j - i := w64 (by omega) (by omega)
 rw [e1, e2, e3, e4, e5]
 refine ⟨fun hij => ⟨fun hlt => ?_, fun hge => ?_⟩, fun hij => ?_⟩
 ·refine ⟨fun _ => ⟨fun _ => ⟨fun _ => ⟨fun _ => ⟨fun _ => ⟨fun _ => ⟨(i - j + j).toNat, by omega, by omega, by omega, by omega, by omega, rfl, fun x hx => ?_⟩, fun h => by omega⟩, fun h => by omega⟩, fun h => by omega⟩, fun h => by omega⟩, fun h => by omega⟩, fun h => by omega⟩
  obtain ⟨b0, b1⟩ := rot_bd (a := mi - (i - j)) (m := mi) (b := mi + j) (x := x) (n := n) (by omega) (by omega) (by omega) (by omega) (by omega) hx
  rw [hI x hx, elH_swr (by omega), Int.toNat_of_nonneg b0, rot_stepA j0 hlt]
 ·refine ⟨fun _ => ⟨fun _ => ⟨fun _ => ⟨fun _ => ⟨fun _ => ⟨fun _ => ?_, fun h => by omega⟩, fun h => by omega⟩, fun h => by omega⟩, fun h => by omega⟩, fun h => by omega⟩, fun h => by omega⟩
  intro z hz _
  subst hz
  refine ⟨fun _ => ⟨fun _ => ⟨(i + (j - i)).toNat, by omega, by omega, by omega, by omega, by omega, rfl, fun x hx => ?_⟩, fun h => by omega⟩, fun h => by omega⟩
  obtain ⟨b0, b1⟩ := rot_bd (a := mi - i) (m := mi) (b := mi + (j - i)) (x := x) (n := n) (by omega) (by omega) (by omega) (by omega) (by omega) hx
  rw [hI x hx, elH_swr (by omega), Int.toNat_of_nonneg b0, rot_stepB i0 (by omega)]
 ·subst hij
  refine ⟨fun _ => ⟨fun _ => ⟨fun _ => ⟨fun _ => ⟨fun _ => ⟨fun _ => ?_, fun h => by omega⟩, fun h => by omega⟩, fun h => by omega⟩, fun h => by omega⟩, fun h => by omega⟩, fun h => by omega⟩
  refine rot_eq fun x hx => ?_
  rw [hI x hx, elH_swr hx, rot_end i0]
theorem plain (i v ro p) : statH 2 rk tree ⟨i, fN, v, ro, p⟩ = P (i 0) (i 1) (i 2) (i 3) (i 4) := by kernel_rfl
theorem ran : ranH us (fun _ _ => .auto) rk 2 tree = true := by kernel_rfl
theorem fineT : fineH 2 rk tree = true := by kernel_rfl
theorem ok : RhOk (cxOf 2) rk.rh := okH us_ok ran fineT (by kernel_rfl) okk fun i v ro p hρ hpre => by rw [plain]; have q := hρ.hi; exact holds _ _ _ _ _ (q 0 _ rfl).1 (q 0 _ rfl).2 (q 1 _ rfl).1 (q 1 _ rfl).2 (q 2 _ rfl).1 (q 2 _ rfl).2 (q 3 _ rfl).1 (q 3 _ rfl).2 (hpre _ (mg 0 rfl)) (hpre _ (mg 1 rfl)) (hpre _ (mg 2 rfl))
end CSRot
namespace CSMg1
def rk : Rk := ⟨42, [(0, 1000000), (0, 1000000), (0, 1000000), (0, 1000000)], 5, [.sl (.own 0) 4 (.c 0) (.v 0) none, .int .i64 (.v 1), .int .i64 (.v 2), .int .i64 (.v 3), .func (.func 18) [] []], [.arr [.int .i64, .int .i64, .int .i64, .int .i64] 30 (.v 4) (.v 0)], [(.b .le .i64 (.b .padd .i64 (.v 1) (.c 1)) (.v 2)), (.b .le .i64 (.b .padd .i64 (.v 2) (.c 1)) (.v 3)), (.b .le .i64 (.v 3) (.v 0)), (.b .le .i64 (.b .psub .i64 (.v 3) (.v 1)) (.c 2)), (.f 154 (.v 4) (.v 1) (.v 2)), (.f 154 (.v 4) (.v 2) (.v 3))], .tup [], [.arr [.int .i64, .int .i64, .int .i64, .int .i64] 30 (.v 1000000) (.v 0)], [.code [.int .i64, .int .i64, .int .i64, .int .i64] (.f 153 (.v 4) (.v 0) (qQs [(.v 1), (.v 3)])) (.v 0)], []⟩
theorem okk : rk.ok = true := by kernel_rfl
theorem okh : rk.rh.ok = true := by kernel_rfl
theorem holds (n a mi b q : Int) (l_n : 0 ≤ n) (u_n : n ≤ 1000000) (l_a : 0 ≤ a) (u_a : a ≤ 1000000) (l_mi : 0 ≤ mi) (u_mi : mi ≤ 1000000) (l_b : 0 ≤ b) (u_b : b ≤ 1000000) (h_pre0 : qQq (decide (a+1 ≤ mi)) ≠ 0) (h_pre1 : qQq (decide (mi+1 ≤ b)) ≠ 0) (h_pre2 : qQq (decide (b ≤ n)) ≠ 0) (h_pre3 : qQq (decide (b-a ≤ 2)) ≠ 0) (h_pre4 : (srtZ q a mi) ≠ 0) (h_pre5 : (srtZ q mi b) ≠ 0) : (0 ≤ (0  : Int) ∧ (0  : Int) ≤ 0 ∧ (2 : Int) ≠ 0 ∧ qQq (decide (a+1 ≤ mi)) ≠ 0 ∧ qQq (decide (mi+1 ≤ b)) ≠ 0 ∧ qQq (decide (b ≤ n)) ≠ 0 ∧ (srtZ q a mi) ≠ 0 ∧ (srtZ q mi b) ≠ 0 ∧ qQq (mi-a == 1) ≠ 0 ∧ qQq (0 == ((0  : Int))) ≠ 0) ∨ (0 ≤ (0  : Int) ∧ (0  : Int) ≤ 0 ∧ (2 : Int) ≠ 0 ∧ qQq (decide (a+1 ≤ mi)) ≠ 0 ∧ qQq (decide (mi+1 ≤ b)) ≠ 0 ∧ qQq (decide (b ≤ n)) ≠ 0 ∧ (srtZ q a mi) ≠ 0 ∧ (srtZ q mi b) ≠ 0 ∧ qQq (mi-a != 1) ≠ 0 ∧ qQq (b-mi == 1) ≠ 0 ∧ qQq (0 == ((0  : Int))) ≠ 0) := by
 simp only [nrm, Int.reduceEq, Int.reduceNeg, reduceIte] at *
 omega
theorem htabs : ∀ d ∈ tabsL, d.c.vb 0 = true ∧ d.n.vb 0 = true ∧ d.cap.vb 0 = true := fun d hd => by have := List.all_eq_true.1 tabsAll d hd; simp only [Bool.and_eq_true] at this; exact this
theorem ok : RhOk (cxOf 2) rk.rh := fun ρ β w hρ hpre hs => by
 obtain ⟨i, f, v, ro, p⟩ := ρ
 have hf : f = fN := hρ.hF
 subst hf
 have q := hρ.hi
 rcases holds (i 0) (i 1) (i 2) (i 3) (i 4) (q 0 _ rfl).1 (q 0 _ rfl).2 (q 1 _ rfl).1 (q 1 _ rfl).2 (q 2 _ rfl).1 (q 2 _ rfl).2 (q 3 _ rfl).1 (q 3 _ rfl).2 (hpre _ (mg 0 rfl)) (hpre _ (mg 1 rfl)) (hpre _ (mg 2 rfl)) (hpre _ (mg 3 rfl)) (hpre _ (mg 4 rfl)) (hpre _ (mg 5 rfl)) with h | h
 ·obtain ⟨hx1, hx2, g0, g1, g2, g3, g4, g5, g6, g7⟩ := h
  exact qQi htabs (m := rk.rh) (p := CSMa.rk.rh) rfl rfl rfl rfl rfl rfl rfl rfl CSMa.ok rfl (fun _ => rfl) (fun _ _ _ h => h) (fun _ => rfl) (fun _ _ _ h => h) (fun _ => rfl) hρ ⟨hx1, hx2⟩ (List.forall_mem_cons.2 ⟨g0, List.forall_mem_cons.2 ⟨g1, List.forall_mem_cons.2 ⟨g2, List.forall_mem_cons.2 ⟨g3, List.forall_mem_cons.2 ⟨g4, List.forall_mem_cons.2 ⟨g5, List.forall_mem_cons.2 ⟨g6, List.forall_mem_cons.2 ⟨g7, (fun _ h => by cases h)⟩⟩⟩⟩⟩⟩⟩⟩) hs
 ·obtain ⟨hx1, hx2, g0, g1, g2, g3, g4, g5, g6, g7, g8⟩ := h
  exact qQi htabs (m := rk.rh) (p := CSMb.rk.rh) rfl rfl rfl rfl rfl rfl rfl rfl CSMb.ok rfl (fun _ => rfl) (fun _ _ _ h => h) (fun _ => rfl) (fun _ _ _ h => h) (fun _ => rfl) hρ ⟨hx1, hx2⟩ (List.forall_mem_cons.2 ⟨g0, List.forall_mem_cons.2 ⟨g1, List.forall_mem_cons.2 ⟨g2, List.forall_mem_cons.2 ⟨g3, List.forall_mem_cons.2 ⟨g4, List.forall_mem_cons.2 ⟨g5, List.forall_mem_cons.2 ⟨g6, List.forall_mem_cons.2 ⟨g7, List.forall_mem_cons.2 ⟨g8, (fun _ h => by cases h)⟩⟩⟩⟩⟩⟩⟩⟩⟩) hs
end CSMg1
end Go.Proofs.Ytieocjnfjjgjeab
