/-
  What functions of the program answer, as numbers of what they are handed: their runs by the engine, the plain statements behind them. No condition.
-/
import Derived.Test.YtieocjnfjjgjeabGab
import Derived.Test.YtieocjnfjjgjeabGp2
import Derived.Test.YtieocjnfjjgjeabGp1
set_option linter.unusedVariables false
set_option linter.unusedSimpArgs false
set_option maxRecDepth 100000
namespace Go.Proofs.Ytieocjnfjjgjeab
open Go.Eng Go.RowKit
namespace CRHeats17
def rc : Rc := ⟨7, [none, none], [.row [.int .i64, .int .i64, .int .i64, .int .i64] 1000000, .row [.int .i64, .int .i64, .int .i64, .int .i64] 1000000], [], .one, [.bool (.ite (.b .eq .i64 (.v 0) (.v 1)) (.f 161 (.v 2) (.v 3) (.v 0)) (.c 0))]⟩
theorem okb : rc.ok = true := by kernel_rfl
noncomputable def us : SMs := fun Γ ins n => smH (cxG n Γ ins) [] (smR (cxG n Γ ins) [])
theorem us_ok : SMsOk us := fun Γ ins n => qJp (tabsG n Γ ins) (qZp _) (qJh (tabsG n Γ ins) (qZr _))
def Q0 : E := (.cl 1000 0 4611686018427387904)
def Q1 : E := (tR (.v 2) Q0)
def Q2 : E := (tR (.v 3) Q0)
def Q3 : E := (tp Q0 (.c 1))
def tree : TT (List E) :=
 (.br (tn (.v 0) (.v 1)) (.leaf [(.c 0)]) (.loop ⟨1000, [some (0, 4611686018427387904)], [(.c 0)], 1010⟩ (.br (tk Q0 (.v 0)) (.new 1002 (t6 (tR Q1 (.c 0))) (.new 1003 (t6 (tR Q1 (.c 1))) (.new 1004 (t6 (tR Q1 (.c 2))) (.new 1005 (t6 (tR Q1 (.c 3))) (.br (tk Q0 (.v 1)) (.new 1006 (t6 (tR Q2 (.c 0))) (.new 1007 (t6 (tR Q2 (.c 1))) (.new 1008 (t6 (tR Q2 (.c 2))) (.new 1009 (t6 (tR Q2 (.c 3))) (.br (.nt (.ite (te (.cl 1002 (-9223372036854775808) 9223372036854775807) (.cl 1006 (-9223372036854775808) 9223372036854775807)) (.ite (te (.cl 1003 (-9223372036854775808) 9223372036854775807) (.cl 1007 (-9223372036854775808) 9223372036854775807)) (.ite (te (.cl 1004 (-9223372036854775808) 9223372036854775807) (.cl 1008 (-9223372036854775808) 9223372036854775807)) (te (.cl 1005 (-9223372036854775808)
 9223372036854775807) (.cl 1009 (-9223372036854775808) 9223372036854775807)) (.c 0)) (.c 0)) (.c 0))) (.exit 0) (.br (tl Q3 (.c 4611686018427387904)) (.back [Q3]) (.bad 303))))))) (.bad 200)))))) (.exit 1)) (.br (te (.v 1010) (.c 0)) (.leaf [(.c 0)]) (.leaf [(.c 1)]))))
def P (a b c d e f : Int) : Prop :=
 (Pb (Pd a b) (((0 : Int) ≠ 0 ↔ ((iteZ (Pe a b) (smhZ c d a) 0) : Int) ≠ 0) ∧ True) (∃ I1000 : Int → Nat → Prop, (∃ m, I1000 0 m) ∧ ∀ y0 : Int, ∀ m0, ((0 ≤ y0 ∧ y0 ≤ 4611686018427387904) ∧ True) → I1000 y0 m0 → (Pb (Pl y0 a) (Pn (W6 (rdZ (rdZ c y0) 0)) (-9223372036854775808) 9223372036854775807 fun y2 => Pn (W6 (rdZ (rdZ c y0) 1)) (-9223372036854775808) 9223372036854775807 fun y3 => Pn (W6 (rdZ (rdZ c y0) 2)) (-9223372036854775808) 9223372036854775807 fun y4 => Pn (W6 (rdZ (rdZ c y0) 3)) (-9223372036854775808) 9223372036854775807 fun y5 => (Pm (Pl y0 b) (Pn (W6 (rdZ (rdZ d y0) 0)) (-9223372036854775808) 9223372036854775807 fun y6 => Pn (W6 (rdZ (rdZ d y0) 1)) (-9223372036854775808) 9223372036854775807 fun y7 => Pn (W6 (rdZ (rdZ d y0) 2)) (-9223372036854775808) 9223372036854775807 fun y8
 => Pn (W6 (rdZ (rdZ d y0) 3)) (-9223372036854775808) 9223372036854775807 fun y9 => (Pb (Pe (iteZ (Pe y2 y6) (iteZ (Pe y3 y7) (iteZ (Pe y4 y8) (Pe y5 y9) 0) 0) 0) 0) (Pb (Pe (0 : Int) 0) (((0 : Int) ≠ 0 ↔ ((iteZ (Pe a b) (smhZ c d a) 0) : Int) ≠ 0) ∧ True) (((1 : Int) ≠ 0 ↔ ((iteZ (Pe a b) (smhZ c d a) 0) : Int) ≠ 0) ∧ True)) (Pm (PL (y0 + 1) 4611686018427387904) (∃ m', m' < m0 ∧ I1000 (y0 + 1) m')))))) (Pb (Pe (1 : Int) 0) (((0 : Int) ≠ 0 ↔ ((iteZ (Pe a b) (smhZ c d a) 0) : Int) ≠ 0) ∧ True) (((1 : Int) ≠ 0 ↔ ((iteZ (Pe a b) (smhZ c d a) 0) : Int) ≠ 0) ∧ True)))))
theorem holds (n0 n1 c0 c1 r0 r1 : Int) (l_n0 : 0 ≤ n0) (u_n0 : n0 ≤ 1000000) (l_n1 : 0 ≤ n1) (u_n1 : n1 ≤ 1000000) (h_n0 : n0 ≤ r0) (h_n1 : n1 ≤ r1) : P n0 n1 c0 c1 r0 r1 := by
 delta P Pb Pm Pn PL Pl Pe Pd W6
 simp only [nrm, Int.reduceEq, Int.reduceNeg, reduceIte]
 refine And.intro (fun h => by simp [h]) (fun h => ?_)
 have h : n0 = n1 := h
 subst h
 refine ⟨fun i m => 0 ≤ i ∧ m = (n0 - i).toNat ∧ ∀ j : Nat, (j : Int) < i → elH c0 j = elH c1 j, ⟨_, by omega, rfl, fun j hj => by omega⟩, ?_⟩
 rintro i m hb ⟨h0, rfl, hI⟩
 have e0 : ∀ c : Int, elH c i.toNat = (IntKind.wrap .i64 (rdZ (rdZ c i) 0), IntKind.wrap .i64 (rdZ (rdZ c i) 1), IntKind.wrap .i64 (rdZ (rdZ c i) 2), IntKind.wrap .i64 (rdZ (rdZ c i) 3)) := fun c => by
  unfold elH; rw [Int.toNat_of_nonneg h0]
 refine And.intro (fun hi a0 ha0 _ a1 ha1 _ a2 ha2 _ a3 ha3 _ => And.intro (fun _ b0 hb0 _ b1 hb1 _ b2 hb2 _ b3 hb3 _ => And.intro (fun hz => ?_) (fun hz => And.intro (fun _ => ⟨_, ?_, by omega, rfl, fun j hj => ?_⟩) (fun h => by omega))) (fun h => by omega)) (fun hi => ?_)
 ·have hne : smhZ c0 c1 n0 = 0 := by
   unfold smhZ
   refine if_neg fun g => ?_
   have := g i.toNat (by omega)
   rw [e0, e0, ← ha0, ← ha1, ← ha2, ← ha3, ← hb0, ← hb1, ← hb2, ← hb3] at this
   obtain ⟨g0, g1, g2, g3⟩ : a0 = b0 ∧ a1 = b1 ∧ a2 = b2 ∧ a3 = b3 := by simpa using this
   simp [g0, g1, g2, g3, qQq] at hz
  simp [hne]
 ·omega
 ·by_cases e : (j : Int) = i
  ·have ej : j = i.toNat := by omega
   rw [ej, e0, e0, ← ha0, ← ha1, ← ha2, ← ha3, ← hb0, ← hb1, ← hb2, ← hb3]
   by_cases g0 : a0 = b0
   ·by_cases g1 : a1 = b1
    ·by_cases g2 : a2 = b2
     ·by_cases g3 : a3 = b3
      ·rw [g0, g1, g2, g3]
      ·exfalso
       have g4 := beq_eq_false_iff_ne.2 g3
       simp [g0, g1, g2, g4, qQq] at hz
     ·simp [g0, g1, g2] at hz
    ·simp [g0, g1] at hz
   ·simp [g0] at hz
  ·exact hI j (by omega)
 ·unfold smhZ
  rw [if_pos fun j hj => hI j (by omega)]
  simp
theorem plain (i v ro p) : statR 2 rc tree ⟨i, fN, v, ro, p⟩ = P (i 0) (i 1) (i 2) (i 3) (i 4) (i 5) := by kernel_rfl
theorem ran : ranR us (fun _ _ => .auto) rc 2 tree = true := by kernel_rfl
theorem fineT : fineR 2 rc tree = true := by kernel_rfl
theorem ok : RcOk (cxOf 2) rc := okR us_ok ran fineT okb fun i v ro p hρ hcap hpre => by rw [plain]; have q := hρ.hi; exact holds _ _ _ _ _ _ (q 0 _ rfl).1 (q 0 _ rfl).2 (q 1 _ rfl).1 (q 1 _ rfl).2 (hcap _ (mg 0 rfl)) (hcap _ (mg 1 rfl))
end CRHeats17
namespace CTCmp
def rc : Rc := ⟨18, [some 4, some 4], [.int .i64, .int .i64, .int .i64, .int .i64, .int .i64, .int .i64, .int .i64, .int .i64], [], .one, [.int .i64 (.ite (.b .lt .i64 (.v 7) (.v 3)) (.b .psub .i64 (.c 0) (.c 1)) (.ite (.b .lt .i64 (.v 3) (.v 7)) (.c 1) (.c 0)))]⟩
theorem okb : rc.ok = true := by kernel_rfl
noncomputable def us : SMs := fun Γ ins n => smH (cxG n Γ ins) [] (smR (cxG n Γ ins) [])
theorem us_ok : SMsOk us := fun Γ ins n => qJp (tabsG n Γ ins) (qZp _) (qJh (tabsG n Γ ins) (qZr _))
def tree : TT (List E) :=
(.br (.b .lt .i64 (.v 7) (.v 3))
 (.leaf [(.c (-1))])
 (.br (.b .lt .i64 (.v 3) (.v 7))
 (.leaf [(.c 1)])
 (.leaf [(.c 0)])))
def P (p0_0 p0_1 p0_2 p0_3 p1_0 p1_1 p1_2 p1_3 : Int) : Prop :=
 (((qQq (decide (p1_3 < p0_3))) ≠ 0 →
  ((-1) : Int) = (iteZ (qQq (decide (p1_3 < p0_3))) (0 - 1) (iteZ (qQq (decide (p0_3 < p1_3))) 1 0)) ∧ True) ∧ ((qQq (decide (p1_3 < p0_3))) = 0 →
  (((qQq (decide (p0_3 < p1_3))) ≠ 0 →
   (1 : Int) = (iteZ (qQq (decide (p1_3 < p0_3))) (0 - 1) (iteZ (qQq (decide (p0_3 < p1_3))) 1 0)) ∧ True) ∧ ((qQq (decide (p0_3 < p1_3))) = 0 →
   (0 : Int) = (iteZ (qQq (decide (p1_3 < p0_3))) (0 - 1) (iteZ (qQq (decide (p0_3 < p1_3))) 1 0)) ∧ True))))
theorem holds (p0_0 p0_1 p0_2 p0_3 p1_0 p1_1 p1_2 p1_3 : Int) (l_p0_0 : -9223372036854775808 ≤ p0_0) (u_p0_0 : p0_0 ≤ 9223372036854775807) (l_p0_1 : -9223372036854775808 ≤ p0_1) (u_p0_1 : p0_1 ≤ 9223372036854775807) (l_p0_2 : -9223372036854775808 ≤ p0_2) (u_p0_2 : p0_2 ≤ 9223372036854775807) (l_p0_3 : -9223372036854775808 ≤ p0_3) (u_p0_3 : p0_3 ≤ 9223372036854775807) (l_p1_0 : -9223372036854775808 ≤ p1_0) (u_p1_0 : p1_0 ≤ 9223372036854775807) (l_p1_1 : -9223372036854775808 ≤ p1_1) (u_p1_1 : p1_1 ≤ 9223372036854775807) (l_p1_2 : -9223372036854775808 ≤ p1_2) (u_p1_2 : p1_2 ≤ 9223372036854775807) (l_p1_3 : -9223372036854775808 ≤ p1_3) (u_p1_3 : p1_3 ≤ 9223372036854775807) : P p0_0 p0_1 p0_2 p0_3 p1_0 p1_1 p1_2 p1_3 := by
 unfold P
 simp only [nrm, Int.reduceEq, Int.reduceNeg, reduceIte]
 repeat' (first | exact trivial | omega | (refine And.intro (fun _ => ?_) (fun _ => ?_)))
theorem plain (i v ro p) : statR 2 rc tree ⟨i, fN, v, ro, p⟩ = P (i 0) (i 1) (i 2) (i 3) (i 4) (i 5) (i 6) (i 7) := by kernel_rfl
theorem ran : ranR us (fun f _ => if [18].contains f then .unroll 400 else .auto) rc 2 tree = true := by kernel_rfl
theorem fineT : fineR 2 rc tree = true := by kernel_rfl
theorem ok : RcOk (cxOf 2) rc := okR us_ok ran fineT okb fun i v ro p hρ hcap hpre => by rw [plain]; have q := hρ.hi; exact holds _ _ _ _ _ _ _ _ (q 0 _ rfl).1 (q 0 _ rfl).2 (q 1 _ rfl).1 (q 1 _ rfl).2 (q 2 _ rfl).1 (q 2 _ rfl).2 (q 3 _ rfl).1 (q 3 _ rfl).2 (q 4 _ rfl).1 (q 4 _ rfl).2 (q 5 _ rfl).1 (q 5 _ rfl).2 (q 6 _ rfl).1 (q 6 _ rfl).2 (q 7 _ rfl).1 (q 7 _ rfl).2
end CTCmp
namespace CSIns
def rk : Rk := ⟨32, [(0, 1000000), (0, 1000000), (0, 1000000)], 4, [.sl (.own 0) 4 (.c 0) (.v 0) none, .int .i64 (.v 1), .int .i64 (.v 2), .func (.func 18) [] []], [.arr [.int .i64, .int .i64, .int .i64, .int .i64] 30 (.v 3) (.v 0)], [(.b .le .i64 (.v 1) (.v 2)), (.b .le .i64 (.v 2) (.v 0))], .tup [], [.arr [.int .i64, .int .i64, .int .i64, .int .i64] 30 (.v 1000000) (.v 0)], [.code [.int .i64, .int .i64, .int .i64, .int .i64] (.f 153 (.v 3) (.v 0) (qQs [(.v 1), (.v 2)])) (.v 0)], []⟩
theorem okk : rk.ok = true := by kernel_rfl
theorem okh : rk.rh.ok = true := by kernel_rfl
def mk32_4 : qZd := [([0, 9], .num (-4611686018427387904) (4611686018427387904)), ([1, 0, 0], .code), ([0, 18], .wilds 35)]
def mk32_1 : qZd := [([0, 8], .num (-4611686018427387904) (4611686018427387904)), ([1, 0, 0], .code), ([0, 9], .wilds 1), ([0, 12], .wilds 41)]
noncomputable def us : SMs := fun Γ ins n => smH (cxG n Γ ins) [] (smR (cxG n Γ ins) [CTCmp.rc])
theorem us_ok : SMsOk us := fun Γ ins n => qJp (tabsG n Γ ins) (qZp _) (qJh (tabsG n Γ ins) (qJv CTCmp.okb (rc_n CTCmp.ok) (qZr _)))
def Q0 : E := (.cl 1000 (-4611686018427387904) 4611686018427387904)
def Q1 : E := (.cl 1003 (-4611686018427387904) 4611686018427387904)
def Q2 : E := (tR (.v 1004) Q1)
def Q3 : E := (.b .psub .i64 Q1 (.c 1))
def Q4 : E := (tR (.v 1004) Q3)
def Q5 : E := (.cl 1013 (-9223372036854775808) 9223372036854775807)
def Q6 : E := (.cl 1009 (-9223372036854775808) 9223372036854775807)
def Q7 : E := (tp Q0 (.c 1))
def Q8 : E := (tl Q7 (.c 4611686018427387904))
def tree : TT (List E) :=
 (.loop ⟨1000, [some (-4611686018427387904, 4611686018427387904), none], [(tp (.v 1) (.c 1)), (.v 3)], 1016⟩ (.br (tk Q0 (.v 2)) (.loop ⟨1003, [some (-4611686018427387904, 4611686018427387904), none], [Q0, (.v 1001)], 1015⟩ (.br (tk (.v 1) Q1) (.br (tl (.c 0) Q1) (.br (tk Q1 (.v 0)) (.new 1006 (t6 (tR Q2 (.c 0))) (.new 1007 (t6 (tR Q2 (.c 1))) (.new 1008 (t6 (tR Q2 (.c 2))) (.new 1009 (t6 (tR Q2 (.c 3))) (.br (tl (.c 0) Q3) (.br (tk Q3 (.v 0)) (.new 1010 (t6 (tR Q4 (.c 0))) (.new 1011 (t6 (tR Q4 (.c 1))) (.new 1012 (t6 (tR Q4 (.c 2))) (.new 1013 (t6 (tR Q4 (.c 3))) (.new 1014 (.ite (tk Q5 Q6) (.c (-1)) (.ite (tk Q6 Q5) (.c 1) (.c 0))) (.br (tk (.cl 1014 (-1) 1) (.c 0)) (.br (tl (.c (-4611686018427387904)) Q3) (.back [Q3, (.f 14 (.f 14 (.v 1004) Q1 (tC (.cl 1010 (-9223372036854775808)
 9223372036854775807) (tC (.cl 1011 (-9223372036854775808) 9223372036854775807) (tC (.cl 1012 (-9223372036854775808) 9223372036854775807) (tC Q5 (.c 0)))))) Q3 (tC (.cl 1006 (-9223372036854775808) 9223372036854775807) (tC (.cl 1007 (-9223372036854775808) 9223372036854775807) (tC (.cl 1008 (-9223372036854775808) 9223372036854775807) (tC Q6 (.c 0))))))]) (.bad 303)) (.exit 0))))))) (.bad 200)) (.bad 200)))))) (.bad 200)) (.bad 200)) (.exit 1)) (.br (te (.v 1015) (.c 0)) (.br Q8 (.back [Q7, (.v 1004)]) (.bad 303)) (.br Q8 (.back [Q7, (.v 1004)]) (.bad 303)))) (.exit 0)) (.leaf [(.v 1001)]))
def P (a b c d : Int) : Prop :=
 ∃ I1000 : Int → Int → Nat → Prop, (∃ m, I1000 (b + 1) d m) ∧ ∀ y0 y1 : Int, ∀ m0, (((-4611686018427387904) ≤ y0 ∧ y0 ≤ 4611686018427387904) ∧ True ∧ True) → I1000 y0 y1 m0 → (Pb (Pl y0 c) (∃ I1003 : Int → Int → Nat → Prop, (∃ m, I1003 y0 y1 m) ∧ ∀ y3 y4 : Int, ∀ m3, (((-4611686018427387904) ≤ y3 ∧ y3 ≤ 4611686018427387904) ∧ True ∧ True) → I1003 y3 y4 m3 → (Pb (Pl b y3) (Pm (PL 0 y3) (Pm (Pl y3 a) (Pn (W6 (rdZ (rdZ y4 y3) 0)) (-9223372036854775808) 9223372036854775807 fun y6 => Pn (W6 (rdZ (rdZ y4 y3) 1)) (-9223372036854775808) 9223372036854775807 fun y7 => Pn (W6 (rdZ (rdZ y4 y3) 2)) (-9223372036854775808) 9223372036854775807 fun y8 => Pn (W6 (rdZ (rdZ y4 y3) 3)) (-9223372036854775808) 9223372036854775807 fun y9 => (Pm (PL 0 (y3 - 1)) (Pm (Pl (y3 - 1) a) (Pn (W6 (rdZ (rdZ y4 (y3 - 1))
 0)) (-9223372036854775808) 9223372036854775807 fun y10 => Pn (W6 (rdZ (rdZ y4 (y3 - 1)) 1)) (-9223372036854775808) 9223372036854775807 fun y11 => Pn (W6 (rdZ (rdZ y4 (y3 - 1)) 2)) (-9223372036854775808) 9223372036854775807 fun y12 => Pn (W6 (rdZ (rdZ y4 (y3 - 1)) 3)) (-9223372036854775808) 9223372036854775807 fun y13 => Pn (iteZ (Pl y13 y9) (-1) (iteZ (Pl y9 y13) 1 0)) (-1) 1 fun y14 => (Pb (Pl y14 0) (Pm (PL (-4611686018427387904) (y3 - 1)) (∃ m', m' < m3 ∧ I1003 (y3 - 1) (updZ (updZ y4 y3 (kZ y10 (kZ y11 (kZ y12 (kZ y13 0))))) (y3 - 1) (kZ y6 (kZ y7 (kZ y8 (kZ y9 0))))) m')) (Pb (Pe (0 : Int) 0) (Pm (PL (y0 + 1) 4611686018427387904) (∃ m', m' < m0 ∧ I1000 (y0 + 1) y4 m')) (Pm (PL (y0 + 1) 4611686018427387904) (∃ m', m' < m0 ∧ I1000 (y0 + 1) y4 m')))))))))) (Pb (Pe (1 : Int) 0) (Pm (PL
 (y0 + 1) 4611686018427387904) (∃ m', m' < m0 ∧ I1000 (y0 + 1) y4 m')) (Pm (PL (y0 + 1) 4611686018427387904) (∃ m', m' < m0 ∧ I1000 (y0 + 1) y4 m'))))) (qJz [.int .i64, .int .i64, .int .i64, .int .i64] y1 (stbZ d a (kZ b (kZ c 0))) a ∧ True))
theorem holds (n a b q : Int) (l_n : 0 ≤ n) (u_n : n ≤ 1000000) (l_a : 0 ≤ a) (u_a : a ≤ 1000000) (l_b : 0 ≤ b) (u_b : b ≤ 1000000) (h_pre0 : qQq (decide (a ≤ b)) ≠ 0) (h_pre1 : qQq (decide (b ≤ n)) ≠ 0) : P n a b q := by
 delta P Pb Pm Pn PL Pl Pe W6 kZ
 simp only [nrm, Int.reduceEq, Int.reduceNeg, reduceIte]
 simp only [nrm, Int.reduceEq, Int.reduceNeg, reduceIte] at h_pre0 h_pre1
 refine ⟨fun i y m => a + 1 ≤ i ∧ (i ≤ b ∨ a = b) ∧ m = (b - i).toNat ∧ (∀ j : Nat, (j : Int) < n → ((j : Int) < a ∨ i ≤ j ∨ b ≤ j) → elH y j = elH q j) ∧ DnS (segF (elH y) a.toNat i.toNat) ∧
  (∀ k, fK k (segF (elH y) a.toNat i.toNat) = fK k (segF (elH q) a.toNat i.toNat)), ⟨_, by omega, by omega, rfl, fun _ _ _ => rfl, ?_, fun _ => rfl⟩, ?_⟩
 ·rw [show (a + 1).toNat = a.toNat + 1 by omega, seg_one]
  exact List.pairwise_singleton _ _
 rintro i y m _ ⟨i0, i1, rfl, ho, hs, hf⟩
 refine ⟨fun hi => ?_, fun hi => ?_⟩
 ·have next : ∀ z : Int, (∀ j : Nat, (j : Int) < n → ((j : Int) < a ∨ i + 1 ≤ j ∨ b ≤ j) → elH z j = elH q j) → DnS (segF (elH z) a.toNat (i + 1).toNat) → (∀ k, fK k (segF (elH z) a.toNat (i + 1).toNat) = fK k (segF (elH q) a.toNat (i + 1).toNat)) →
      ∃ m', m' < (b - i).toNat ∧ a + 1 ≤ i + 1 ∧ (i + 1 ≤ b ∨ a = b) ∧ m' = (b - (i + 1)).toNat ∧ (∀ j : Nat, (j : Int) < n → ((j : Int) < a ∨ i + 1 ≤ j ∨ b ≤ j) → elH z j = elH q j) ∧ DnS (segF (elH z) a.toNat (i + 1).toNat) ∧
      (∀ k, fK k (segF (elH z) a.toNat (i + 1).toNat) = fK k (segF (elH q) a.toNat (i + 1).toNat)) := fun z g1 g2 g3 => ⟨_, by omega, by omega, by omega, rfl, g1, g2, g3⟩
  refine ⟨fun j z m' => a ≤ j ∧ j ≤ i ∧ m' = j.toNat ∧ (∀ x : Nat, (x : Int) < n → ((x : Int) < a ∨ i + 1 ≤ x ∨ b ≤ x) → elH z x = elH q x) ∧ ExS z a i j ∧ (∀ k, fK k (segF (elH z) a.toNat (i + 1).toNat) = fK k (segF (elH q) a.toNat (i + 1).toNat)),
   ⟨_, by omega, by omega, rfl, fun x hx hc => ho x hx (by omega), fun x y' h1 h2 h3 h4 => (seg_dn.1 hs) x y' (by omega) h2 (by omega), fun k => ?_⟩, ?_⟩
  ·rw [show (i + 1).toNat = i.toNat + 1 by omega, qZk (elH y) (by omega : a.toNat ≤ i.toNat) (by omega), qZk (elH q) (by omega : a.toNat ≤ i.toNat) (by omega), seg_one, seg_one, ho i.toNat (by omega) (by omega)]
   show List.filter _ (_ ++ _) = List.filter _ (_ ++ _)
   rw [List.filter_append, List.filter_append]
   exact congrArg (· ++ _) (hf k)
  rintro j z m' _ ⟨j0, j1, rfl, ho', hs', hf'⟩
  refine ⟨fun hj => ⟨fun _ => ⟨fun _ => ?_, fun h => by omega⟩, fun h => by omega⟩, fun hj => ?_⟩
  ·intro y0 e0 _ y1 e1 _ y2 e2 _ y3 e3 _
   refine ⟨fun _ => ⟨fun _ => ?_, fun h => by omega⟩, fun h => by omega⟩
   intro z0 f0 _ z1 f1 _ z2 f2 _ z3 f3 _ c hc _
   have k1 := cH_e (z := z) (j := j) (by omega)
   have k2 := cH_e (z := z) (j := j - 1) (by omega)
   rw [← e3] at k1
   rw [← f3] at k2
   refine ⟨fun hl => ⟨fun _ => ?_, fun h => by omega⟩, fun hl => ?_⟩
   ·have hlt : z3 < y3 := by
     rw [hc] at hl
     omega
    have e : ∀ x : Nat, elH (updZ (updZ z j (qQk z0 (qQk z1 (qQk z2 (qQk z3 0))))) (j - 1) (qQk y0 (qQk y1 (qQk y2 (qQk y3 0))))) x = if (x : Int) = j - 1 then elH z j.toNat else if (x : Int) = j then elH z (j - 1).toNat else elH z x := fun x => by
     rw [elH_mv _ (by omega) (by omega) e0 e1 e2 e3, elH_mv _ (by omega) (by omega) f0 f1 f2 f3]
    obtain ⟨g1, g2⟩ := insH_step (by omega) hj j1 e hf' hs' (by omega)
    refine ⟨(j - 1).toNat, by omega, by omega, by omega, rfl, fun x hx hc' => ?_, g2, g1⟩
    rw [e, if_neg (by omega), if_neg (by omega)]
    exact ho' x hx hc'
   ·have hge : y3 ≤ z3 := by
     rw [hc] at hl
     omega
    have hE := insH_end (by omega) hj hs' (by omega)
    exact ⟨fun _ => next z ho' hE hf', fun h => by omega⟩
  ·have hE := insH_end0 (by omega) (by omega) hs'
   exact ⟨fun _ => next z ho' hE hf', fun h => by omega⟩
 ·rcases i1 with i1 | i1
  ·have e : i = b := by omega
   subst e
   exact stb_eq l_a (by omega) h_pre1 (fun j hj hc => ho j hj (by omega)) hs hf
  ·subst i1
   refine stb_eq l_a (by omega) h_pre1 (fun j hj hc => ho j hj (by omega)) ?_ fun k => ?_
   ·rw [qKf _ (Nat.le_refl _)]; exact List.Pairwise.nil
   ·rw [qKf _ (Nat.le_refl _), qKf _ (Nat.le_refl _)]
theorem plain (i v ro p) : statH 2 rk tree ⟨i, fN, v, ro, p⟩ = P (i 0) (i 1) (i 2) (i 3) := by kernel_rfl
theorem ran : ranH us (fun f i => if f = 32 then (match i with | 4 => .tmpl (some mk32_4) | 1 => .tmpl (some mk32_1) | _ => .auto) else .auto) rk 2 tree = true := by kernel_rfl
theorem fineT : fineH 2 rk tree = true := by kernel_rfl
theorem ok : RhOk (cxOf 2) rk.rh := okH us_ok ran fineT (by kernel_rfl) okk fun i v ro p hρ hpre => by rw [plain]; have q := hρ.hi; exact holds _ _ _ _ (q 0 _ rfl).1 (q 0 _ rfl).2 (q 1 _ rfl).1 (q 1 _ rfl).2 (q 2 _ rfl).1 (q 2 _ rfl).2 (hpre _ (mg 0 rfl)) (hpre _ (mg 1 rfl))
end CSIns
namespace CSMa
def rk : Rk := ⟨42, [(0, 0), (0, 1000000), (0, 1000000), (0, 1000000), (0, 1000000)], 6, [.sl (.own 0) 4 (.c 0) (.v 1) none, .int .i64 (.v 2), .int .i64 (.v 3), .int .i64 (.v 4), .func (.func 18) [] []], [.arr [.int .i64, .int .i64, .int .i64, .int .i64] 30 (.v 5) (.v 1)], [(.c 2), (.b .le .i64 (.b .padd .i64 (.v 2) (.c 1)) (.v 3)), (.b .le .i64 (.b .padd .i64 (.v 3) (.c 1)) (.v 4)), (.b .le .i64 (.v 4) (.v 1)), (.f 154 (.v 5) (.v 2) (.v 3)), (.f 154 (.v 5) (.v 3) (.v 4)), (.b .eq .i64 (.b .psub .i64 (.v 3) (.v 2)) (.c 1)), (.b .eq .i64 (.c 0) (.v 0))], .tup [], [.arr [.int .i64, .int .i64, .int .i64, .int .i64] 30 (.v 1000000) (.v 1)], [.code [.int .i64, .int .i64, .int .i64, .int .i64] (.f 153 (.v 5) (.v 1) (qQs [(.v 2), (.v 4)])) (.v 1)], []⟩
theorem okk : rk.ok = true := by kernel_rfl
theorem okh : rk.rh.ok = true := by kernel_rfl
def mk42_3 : qZd := [([0, 11], .num (-9223372036854775808) (9223372036854775807)), ([0, 10], .num (-9223372036854775808) (9223372036854775807)), ([0, 12], .wilds 1), ([0, 31], .wilds 23)]
def mk42_9 : qZd := [([0, 13], .num (-4611686018427387904) (4611686018427387904)), ([1, 0, 0], .code), ([0, 55], .wilds 22)]
noncomputable def us : SMs := fun Γ ins n => smH (cxG n Γ ins) [] (smR (cxG n Γ ins) [CTCmp.rc])
theorem us_ok : SMsOk us := fun Γ ins n => qJp (tabsG n Γ ins) (qZp _) (qJh (tabsG n Γ ins) (qJv CTCmp.okb (rc_n CTCmp.ok) (qZr _)))
def Q0 : E := (.cl 1000 (-9223372036854775808) 9223372036854775807)
def Q1 : E := (.cl 1001 (-9223372036854775808) 9223372036854775807)
def Q2 : E := (tp Q0 Q1)
def Q3 : E := (.w .u64 Q2)
def Q4 : E := (.b .shr .u64 Q3 (.c 1))
def Q5 : E := (.cl 1003 0 9223372036854775807)
def Q6 : E := (tR (.v 5) Q5)
def Q7 : E := (tR (.v 5) (.v 2))
def Q8 : E := (.cl 1011 (-9223372036854775808) 9223372036854775807)
def Q9 : E := (.cl 1007 (-9223372036854775808) 9223372036854775807)
def Q10 : E := (.cl 1015 (-4611686018427387904) 4611686018427387904)
def Q11 : E := (tp Q10 (.c 1))
def Q12 : E := (tR (.v 1016) Q11)
def Q13 : E := (tR (.v 1016) Q10)
def tree : TT (List E) :=
 (.loop ⟨1000, [some (-9223372036854775808, 9223372036854775807), some (-9223372036854775808, 9223372036854775807)], [(.v 3), (.v 4)], 1013⟩ (.br (tk Q0 Q1) (.new 1003 Q4 (.br (tk Q5 (.v 1)) (.new 1004 (t6 (tR Q6 (.c 0))) (.new 1005 (t6 (tR Q6 (.c 1))) (.new 1006 (t6 (tR Q6 (.c 2))) (.new 1007 (t6 (tR Q6 (.c 3))) (.br (tk (.v 2) (.v 1)) (.new 1008 (t6 (tR Q7 (.c 0))) (.new 1009 (t6 (tR Q7 (.c 1))) (.new 1010 (t6 (tR Q7 (.c 2))) (.new 1011 (t6 (tR Q7 (.c 3))) (.new 1012 (.ite (tk Q8 Q9) (.c (-1)) (.ite (tk Q9 Q8) (.c 1) (.c 0))) (.br (tk (.cl 1012 (-1) 1) (.c 0)) (.back [(t6 (tp Q4 (.c 1))), Q1]) (.back [Q0, Q4]))))))) (.bad 200)))))) (.bad 200))) (.exit 0)) (.loop ⟨1015, [some (-4611686018427387904, 4611686018427387904), none], [(.v 2), (.v 5)], 1026⟩ (.br (tk Q10 (t6 (.b .psub .i64 Q0
 (.c 1)))) (.br (tl (.c 0) Q11) (.br (tk Q11 (.v 1)) (.new 1018 (t6 (tR Q12 (.c 0))) (.new 1019 (t6 (tR Q12 (.c 1))) (.new 1020 (t6 (tR Q12 (.c 2))) (.new 1021 (t6 (tR Q12 (.c 3))) (.br (tl (.c 0) Q10) (.br (tk Q10 (.v 1)) (.new 1022 (t6 (tR Q13 (.c 0))) (.new 1023 (t6 (tR Q13 (.c 1))) (.new 1024 (t6 (tR Q13 (.c 2))) (.new 1025 (t6 (tR Q13 (.c 3))) (.br (tl Q11 (.c 4611686018427387904)) (.back [Q11, (.f 14 (.f 14 (.v 1016) Q10 (tC (.cl 1018 (-9223372036854775808) 9223372036854775807) (tC (.cl 1019 (-9223372036854775808) 9223372036854775807) (tC (.cl 1020 (-9223372036854775808) 9223372036854775807) (tC (.cl 1021 (-9223372036854775808) 9223372036854775807) (.c 0)))))) Q11 (tC (.cl 1022 (-9223372036854775808) 9223372036854775807) (tC (.cl 1023 (-9223372036854775808) 9223372036854775807) (tC
 (.cl 1024 (-9223372036854775808) 9223372036854775807) (tC (.cl 1025 (-9223372036854775808) 9223372036854775807) (.c 0))))))]) (.bad 303)))))) (.bad 200)) (.bad 200)))))) (.bad 200)) (.bad 200)) (.exit 0)) (.leaf [(.v 1016)])))
def P (a b c d e f : Int) : Prop :=
 ∃ I1000 : Int → Int → Nat → Prop, (∃ m, I1000 d e m) ∧ ∀ y0 y1 : Int, ∀ m0, (((-9223372036854775808) ≤ y0 ∧ y0 ≤ 9223372036854775807) ∧ ((-9223372036854775808) ≤ y1 ∧ y1 ≤ 9223372036854775807) ∧ True) → I1000 y0 y1 m0 → (Pb (Pl y0 y1) (Pn (shrZ .u64 (IntKind.wrap .u64 (y0 + y1)) 1) 0 9223372036854775807 fun y3 => (Pm (Pl y3 b) (Pn (W6 (rdZ (rdZ f y3) 0)) (-9223372036854775808) 9223372036854775807 fun y4 => Pn (W6 (rdZ (rdZ f y3) 1)) (-9223372036854775808) 9223372036854775807 fun y5 => Pn (W6 (rdZ (rdZ f y3) 2)) (-9223372036854775808) 9223372036854775807 fun y6 => Pn (W6 (rdZ (rdZ f y3) 3)) (-9223372036854775808) 9223372036854775807 fun y7 => (Pm (Pl c b) (Pn (W6 (rdZ (rdZ f c) 0)) (-9223372036854775808) 9223372036854775807 fun y8 => Pn (W6 (rdZ (rdZ f c) 1)) (-9223372036854775808)
 9223372036854775807 fun y9 => Pn (W6 (rdZ (rdZ f c) 2)) (-9223372036854775808) 9223372036854775807 fun y10 => Pn (W6 (rdZ (rdZ f c) 3)) (-9223372036854775808) 9223372036854775807 fun y11 => Pn (iteZ (Pl y11 y7) (-1) (iteZ (Pl y7 y11) 1 0)) (-1) 1 fun y12 => (Pb (Pl y12 0) (∃ m', m' < m0 ∧ I1000 (W6 ((shrZ .u64 (IntKind.wrap .u64 (y0 + y1)) 1) + 1)) y1 m') (∃ m', m' < m0 ∧ I1000 y0 (shrZ .u64 (IntKind.wrap .u64 (y0 + y1)) 1) m'))))))) (∃ I1015 : Int → Int → Nat → Prop, (∃ m, I1015 c f m) ∧ ∀ y15 y16 : Int, ∀ m15, (((-4611686018427387904) ≤ y15 ∧ y15 ≤ 4611686018427387904) ∧ True ∧ True) → I1015 y15 y16 m15 → (Pb (Pl y15 (W6 (y0 - 1))) (Pm (PL 0 (y15 + 1)) (Pm (Pl (y15 + 1) b) (Pn (W6 (rdZ (rdZ y16 (y15 + 1)) 0)) (-9223372036854775808) 9223372036854775807 fun y18 => Pn (W6 (rdZ (rdZ y16
 (y15 + 1)) 1)) (-9223372036854775808) 9223372036854775807 fun y19 => Pn (W6 (rdZ (rdZ y16 (y15 + 1)) 2)) (-9223372036854775808) 9223372036854775807 fun y20 => Pn (W6 (rdZ (rdZ y16 (y15 + 1)) 3)) (-9223372036854775808) 9223372036854775807 fun y21 => (Pm (PL 0 y15) (Pm (Pl y15 b) (Pn (W6 (rdZ (rdZ y16 y15) 0)) (-9223372036854775808) 9223372036854775807 fun y22 => Pn (W6 (rdZ (rdZ y16 y15) 1)) (-9223372036854775808) 9223372036854775807 fun y23 => Pn (W6 (rdZ (rdZ y16 y15) 2)) (-9223372036854775808) 9223372036854775807 fun y24 => Pn (W6 (rdZ (rdZ y16 y15) 3)) (-9223372036854775808) 9223372036854775807 fun y25 => (Pm (PL (y15 + 1) 4611686018427387904) (∃ m', m' < m15 ∧ I1015 (y15 + 1) (updZ (updZ y16 y15 (kZ y18 (kZ y19 (kZ y20 (kZ y21 0))))) (y15 + 1) (kZ y22 (kZ y23 (kZ y24 (kZ y25 0)))))
 m')))))))) (qJz [.int .i64, .int .i64, .int .i64, .int .i64] y16 (stbZ f b (kZ c (kZ e 0))) b ∧ True))))
theorem shr1 {x : Int} (h0 : 0 ≤ x) (h1 : x ≤ 4000000) : shrZ .u64 x 1 = x / 2 := by
 unfold shrZ
 rw [shr_ev]
 rfl
set_option maxHeartbeats 4000000 in
theorem holds (o n a mi b q : Int) (l_o : 0 ≤ o) (u_o : o ≤ 0) (l_n : 0 ≤ n) (u_n : n ≤ 1000000) (l_a : 0 ≤ a) (u_a : a ≤ 1000000) (l_mi : 0 ≤ mi) (u_mi : mi ≤ 1000000) (l_b : 0 ≤ b) (u_b : b ≤ 1000000) (h_pre0 : (2 : Int) ≠ 0) (h_pre1 : qQq (decide (a+1 ≤ mi)) ≠ 0) (h_pre2 : qQq (decide (mi+1 ≤ b)) ≠ 0) (h_pre3 : qQq (decide (b ≤ n)) ≠ 0) (h_pre4 : (srtZ q a mi) ≠ 0) (h_pre5 : (srtZ q mi b) ≠ 0) (h_pre6 : qQq (mi-a == 1) ≠ 0) (h_pre7 : qQq (0 == o) ≠ 0) : P o n a mi b q := by
 delta P Pb Pm Pn PL Pl W6 kZ
 simp only [nrm, Int.reduceEq, Int.reduceNeg, reduceIte]
 simp only [nrm, Int.reduceEq, Int.reduceNeg, reduceIte] at h_pre1 h_pre2 h_pre3 h_pre4 h_pre5 h_pre6
 have L := qXy.1 h_pre4
 have R := qXy.1 h_pre5
 refine ⟨fun s r m => mi ≤ s ∧ s ≤ r ∧ r ≤ b ∧ m = (r - s).toNat ∧ (s = mi ∨ cH (elH q a.toNat) < cH (elH q (s - 1).toNat)) ∧ (r = b ∨ cH (elH q r.toNat) ≤ cH (elH q a.toNat)), ⟨_, by omega, by omega, by omega, rfl, .inl rfl, .inl rfl⟩, ?_⟩
 rintro s r m _ ⟨i0, i1, i2, rfl, i3, i4⟩
 have hsr : shrZ .u64 (IntKind.wrap .u64 (s + r)) 1 = (s + r) / 2 := by
  rw [qXk .u64 _ (by show (0 : Int) ≤ _; omega) (by show _ ≤ (18446744073709551615 : Int); omega)]
  exact shr1 (by omega) (by omega)
 refine ⟨fun hlt => ?_, fun hge => ?_⟩
 ·intro c hc _
  rw [hsr] at hc
  refine ⟨fun _ => ?_, fun h => by omega⟩
  intro y5 _ _ y6 _ _ y7 _ _ y8 e8 _
  refine ⟨fun _ => ?_, fun h => by omega⟩
  intro y9 _ _ y10 _ _ y11 _ _ y12 e12 _ y13 e13 _
  rw [cH_e (by omega)] at e8 e12
  rw [hsr]
  refine ⟨fun hk => ?_, fun hk => ?_⟩
  ·have hlt' : y12 < y8 := by rw [e13] at hk; omega
   rw [w64 (by omega) (by omega)]
   refine ⟨(r - ((s + r) / 2 + 1)).toNat, by omega, by omega, by omega, by omega, rfl, .inr ?_, i4⟩
   rw [show (s + r) / 2 + 1 - 1 = c by omega]
   omega
  ·have hge' : y8 ≤ y12 := by rw [e13] at hk; omega
   refine ⟨((s + r) / 2 - s).toNat, by omega, by omega, by omega, by omega, rfl, i3, .inr ?_⟩
   rw [← hc]
   omega
 ·have hsr2 : s = r := by omega
  subst hsr2
  have hw : IntKind.wrap .i64 (s - 1) = s - 1 := w64 (by omega) (by omega)
  rw [hw]
  have hm : Mrg q n a mi b (s - 1) a s := by
   refine ⟨l_a, by omega, by omega, h_pre3, by omega, by omega, by omega, by omega, by omega, by omega, by omega, L, R, fun x y h1 h2 h3 h4 => by omega, fun x y h1 h2 h3 h4 => ?_⟩
   rcases i3 with i3 | i3
   ·omega
   ·have ex : x = a.toNat := by omega
    rw [ex]
    by_cases hy : y = (s - 1).toNat
    ·rw [hy]; exact i3
    ·have := R y (s - 1).toNat h3 (by omega) (by omega)
     omega
  refine ⟨fun k y m => a ≤ k ∧ k ≤ s - 1 ∧ m = (s - 1 - k).toNat ∧ ∀ x : Nat, (x : Int) < n → elH y x = elH q (rotI a (a + 1) (k + 1) x).toNat, ⟨_, by omega, by omega, rfl, fun x hx => ?_⟩, ?_⟩
  ·congr 1; unfold rotI; omega
  rintro k y m _ ⟨k0, k1, rfl, hI⟩
  refine ⟨fun hk => ⟨fun _ => ⟨fun _ => ?_, fun h => by omega⟩, fun h => by omega⟩, fun hk => ?_⟩
  ·intro y0 e0 _ y1 e1 _ y2 e2 _ y3 e3 _
   refine ⟨fun _ => ⟨fun _ => ?_, fun h => by omega⟩, fun h => by omega⟩
   intro z0 f0 _ z1 f1 _ z2 f2 _ z3 f3 _
   refine ⟨fun _ => ⟨(s - 1 - (k + 1)).toNat, by omega, by omega, by omega, rfl, fun x hx => ?_⟩, fun h => by omega⟩
   rw [elH_mv _ (by omega) (by omega) f0 f1 f2 f3, elH_mv _ (by omega) (by omega) e0 e1 e2 e3]
   by_cases h1 : (x : Int) = k + 1
   ·rw [if_pos h1, hI _ (by omega)]; congr 1; unfold rotI; omega
   ·rw [if_neg h1]
    by_cases h2 : (x : Int) = k
    ·rw [if_pos h2, hI _ (by omega)]; congr 1; unfold rotI; omega
    ·rw [if_neg h2, hI x hx]; congr 1; unfold rotI; omega
  ·have ek : k = s - 1 := by omega
   subst ek
   have t : Trn q n mi a s y := fun x hx => by
    rw [hI x hx]; congr 1; unfold rotI; omega
   refine Go.Eng.Mrg.w4 hm t (fun i j h1 h2 h3 h4 => by omega) fun i j h1 h2 h3 h4 => ?_
   rcases i4 with i4 | i4
   ·omega
   ·have ei : i = a.toNat := by omega
    rw [ei]
    by_cases hj : j = s.toNat
    ·rw [hj]; exact i4
    ·have := R s.toNat j (by omega) (by omega) h4
     omega
theorem plain (i v ro p) : statH 2 rk tree ⟨i, fN, v, ro, p⟩ = P (i 0) (i 1) (i 2) (i 3) (i 4) (i 5) := by kernel_rfl
theorem ran : ranH us (fun f i => if f = 42 then (match i with | 3 => .tmpl (some mk42_3) | 9 => .tmpl (some mk42_9) | _ => .auto) else .auto) rk 2 tree = true := by kernel_rfl
theorem fineT : fineH 2 rk tree = true := by kernel_rfl
theorem ok : RhOk (cxOf 2) rk.rh := okH us_ok ran fineT (by kernel_rfl) okk fun i v ro p hρ hpre => by rw [plain]; have q := hρ.hi; exact holds _ _ _ _ _ _ (q 0 _ rfl).1 (q 0 _ rfl).2 (q 1 _ rfl).1 (q 1 _ rfl).2 (q 2 _ rfl).1 (q 2 _ rfl).2 (q 3 _ rfl).1 (q 3 _ rfl).2 (q 4 _ rfl).1 (q 4 _ rfl).2 (hpre _ (mg 0 rfl)) (hpre _ (mg 1 rfl)) (hpre _ (mg 2 rfl)) (hpre _ (mg 3 rfl)) (hpre _ (mg 4 rfl)) (hpre _ (mg 5 rfl)) (hpre _ (mg 6 rfl)) (hpre _ (mg 7 rfl))
end CSMa
end Go.Proofs.Ytieocjnfjjgjeab
