/-
  What functions of the program answer, as numbers of what they are handed: their runs by the engine, the plain statements behind them. No condition.
-/
import Derived.Test.YthfckifhnaoopabGreatDoorKb
import Derived.Test.YthfckifhnaoopabGreatDoorGab
import Derived.Test.YthfckifhnaoopabGreatDoorGp3
import Derived.Test.YthfckifhnaoopabGreatDoorGp1
import Derived.Test.YthfckifhnaoopabGreatDoorGib
set_option linter.unusedVariables false
set_option linter.unusedSimpArgs false
set_option maxRecDepth 100000
namespace Go.Proofs.YthfckifhnaoopabGreatDoor
open Go.Eng Go.RowKit
namespace CGNext
def rc : Rc := ⟨13, [none, none], [.row [.int .u32] 1000000, .int .i64], [], .one, [.row [.int .i64] 3 (.f 163 (.v 2) (.v 0) (.v 1)) (.f 162 (.v 2) (.v 0) (.v 1))]⟩
theorem okb : rc.ok = true := by kernel_rfl
noncomputable def us : SMs := fun Γ ins n => smH (cxG n Γ ins) [] (smR (cxG n Γ ins) [CCDec.rc])
theorem us_ok : SMsOk us := fun Γ ins n => qKw (tabsG n Γ ins) (qXj _) (qKq (tabsG n Γ ins) (qJb CCDec.okb (rc_n CCDec.ok) (qXk _)))
def Q0 : E := (tR (.v 2) (.v 1))
def Q1 : E := (.w .u32 Q0)
def Q2 : E := (.cl 1000 (-32768) 65535)
def Q3 : E := (.cl 1004 (-32768) 65535)
def Q4 : E := (tl (.v 0) Q3)
def Q5 : E := (tC Q3 (.c 0))
def Q6 : E := (tp (.v 1) (.c 1))
def Q7 : E := (t6 Q6)
def Q8 : E := (tl (.v 0) Q7)
def Q9 : E := (.nt Q8)
def Q10 : E := (tC Q7 (.c 0))
def Q11 : E := (tk Q7 Q3)
def Q12 : E := (te Q3 Q7)
def Q13 : E := (tC Q7 Q5)
def Q14 : E := (te Q7 Q3)
def Q15 : E := (tC Q3 Q10)
def tree : TT (List E) :=
 (.br (tk (.v 1) (.c 0)) (.leaf [(.c 0), (.c 0)]) (.br (tl (.v 0) (.v 1)) (.leaf [(.c 0), (.c 0)]) (.br (tl (.c 0) (.v 1)) (.br (tk (.v 1) (.v 0)) (.new 1000 (.f 67 Q1 (.c 0) (.c 0)) (.new 1001 (.f 67 Q1 (.c 1) (.c 0)) (.new 1002 (.f 67 Q1 (.c 2) (.c 0)) (.new 1003 (.f 67 Q1 (.c 3) (.c 0)) (.new 1004 (.f 67 Q1 (.c 4) (.c 0)) (.new 1005 (.f 67 Q1 (.c 5) (.c 0)) (.br (te Q2 (.c 0)) (.leaf [(.c 0), (.c 0)]) (.br (te Q2 (.c 41)) (.leaf [(.c 0), (.c 0)]) (.br (te Q2 (.c 43)) (.leaf [(.c 0), (.c 0)]) (.br (te Q2 (.c 39)) (.br Q4 (.leaf [(.c 0), (.c 0)]) (.leaf [(.c 1), Q5])) (.br (te Q2 (.c 40)) (.br Q4 (.leaf [(.c 0), (.c 0)]) (.leaf [(.c 1), Q5])) (.br (te Q2 (.c 36)) (.br Q4 (.br Q9 (.leaf [(.c 1), Q10]) (.leaf [(.c 0), (.c 0)])) (.br Q8 (.leaf [(.c 1), Q5]) (.br Q11 (.br Q12 (.leaf [(.c 1),
 Q10]) (.leaf [(.c 2), Q13])) (.br Q14 (.leaf [(.c 1), Q5]) (.leaf [(.c 2), Q15]))))) (.br (te Q2 (.c 37)) (.br Q4 (.br Q9 (.leaf [(.c 1), Q10]) (.leaf [(.c 0), (.c 0)])) (.br Q8 (.leaf [(.c 1), Q5]) (.br Q11 (.br Q12 (.leaf [(.c 1), Q10]) (.leaf [(.c 2), Q13])) (.br Q14 (.leaf [(.c 1), Q5]) (.leaf [(.c 2), Q15]))))) (.br (te Q2 (.c 38)) (.br Q4 (.br Q9 (.leaf [(.c 1), Q10]) (.leaf [(.c 0), (.c 0)])) (.br Q8 (.leaf [(.c 1), Q5]) (.br Q11 (.br Q12 (.leaf [(.c 1), Q10]) (.leaf [(.c 2), Q13])) (.br Q14 (.leaf [(.c 1), Q5]) (.leaf [(.c 2), Q15]))))) (.br Q8 (.leaf [(.c 0), (.c 0)]) (.leaf [(.c 1), Q10])))))))))))))))) (.bad 200)) (.bad 200))))
def sq0 (a y4 b c : Int) : Prop := (Pb (PL a y4) (Pb (Pe (PL a (W6 (b + 1))) 0) ((1 : Int) = (nxN c a b) ∧ qZx [.int .i64] (kZ (W6 (b + 1)) 0) (nxZ c a b) 1 ∧ True) ((0 : Int) = (nxN c a b) ∧ qZx [.int .i64] 0 (nxZ c a b) 0 ∧ True)) (Pb (PL a (W6 (b + 1))) ((1 : Int) = (nxN c a b) ∧ qZx [.int .i64] (kZ y4 0) (nxZ c a b) 1 ∧ True) (Pb (Pl (W6 (b + 1)) y4) (Pb (Pe y4 (W6 (b + 1))) ((1 : Int) = (nxN c a b) ∧ qZx [.int .i64] (kZ (W6 (b + 1)) 0) (nxZ c a b) 1 ∧ True) ((2 : Int) = (nxN c a b) ∧ qZx [.int .i64] (kZ (W6 (b + 1)) (kZ y4 0)) (nxZ c a b) 2 ∧ True)) (Pb (Pe (W6 (b + 1)) y4) ((1 : Int) = (nxN c a b) ∧ qZx [.int .i64] (kZ y4 0) (nxZ c a b) 1 ∧ True) ((2 : Int) = (nxN c a b) ∧ qZx [.int .i64] (kZ y4 (kZ (W6 (b + 1)) 0)) (nxZ c a b) 2 ∧ True)))))
def P (a b c d : Int) : Prop :=
 (Pb (Pl b 0) ((0 : Int) = (nxN c a b) ∧ qZx [.int .i64] 0 (nxZ c a b) 0 ∧ True) (Pb (PL a b) ((0 : Int) = (nxN c a b) ∧ qZx [.int .i64] 0 (nxZ c a b) 0 ∧ True) (Pm (PL 0 b) (Pm (Pl b a) (Pn (decZ (U3 (rdZ c b)) 0) (-32768) 65535 fun y0 => Pn (decZ (U3 (rdZ c b)) 1) (-32768) 65535 fun y1 => Pn (decZ (U3 (rdZ c b)) 2) (-32768) 65535 fun y2 => Pn (decZ (U3 (rdZ c b)) 3) (-32768) 65535 fun y3 => Pn (decZ (U3 (rdZ c b)) 4) (-32768) 65535 fun y4 => Pn (decZ (U3 (rdZ c b)) 5) (-32768) 65535 fun y5 => (Pb (Pe y0 0) ((0 : Int) = (nxN c a b) ∧ qZx [.int .i64] 0 (nxZ c a b) 0 ∧ True) (Pb (Pe y0 41) ((0 : Int) = (nxN c a b) ∧ qZx [.int .i64] 0 (nxZ c a b) 0 ∧ True) (Pb (Pe y0 43) ((0 : Int) = (nxN c a b) ∧ qZx [.int .i64] 0 (nxZ c a b) 0 ∧ True) (Pb (Pe y0 39) (Pb (PL a y4) ((0 : Int) =
 (nxN c a b) ∧ qZx [.int .i64] 0 (nxZ c a b) 0 ∧ True) ((1 : Int) = (nxN c a b) ∧ qZx [.int .i64] (kZ y4 0) (nxZ c a b) 1 ∧ True)) (Pb (Pe y0 40) (Pb (PL a y4) ((0 : Int) = (nxN c a b) ∧ qZx [.int .i64] 0 (nxZ c a b) 0 ∧ True) ((1 : Int) = (nxN c a b) ∧ qZx [.int .i64] (kZ y4 0) (nxZ c a b) 1 ∧ True)) (Pb (Pe y0 36) (sq0 a y4 b c) (Pb (Pe y0 37) (sq0 a y4 b c) (Pb (Pe y0 38) (sq0 a y4 b c) (Pb (PL a (W6 (b + 1))) ((0 : Int) = (nxN c a b) ∧ qZx [.int .i64] 0 (nxZ c a b) 0 ∧ True) ((1 : Int) = (nxN c a b) ∧ qZx [.int .i64] (kZ (W6 (b + 1)) 0) (nxZ c a b) 1 ∧ True)))))))))))))))
set_option maxHeartbeats 4000000 in
theorem holds (n0 p1 c0 r0 : Int) (l_n0 : 0 ≤ n0) (u_n0 : n0 ≤ 1000000) (l_p1 : -9223372036854775808 ≤ p1) (u_p1 : p1 ≤ 9223372036854775807) (h_n0 : n0 ≤ r0) : P n0 p1 c0 r0 := by
 delta P sq0 Pb Pm Pn PL Pl Pe W6 U3 kZ
 simp only [nrm, Int.reduceEq, Int.reduceNeg, reduceIte]
 have k0 : nxL c0 n0 p1 = [] → (0 : Int) = nxN c0 n0 p1 ∧ qZx [.int .i64] 0 (nxZ c0 n0 p1) 0 := fun h => nx_say h rfl rfl
 refine ⟨fun h => k0 (nxL_out (.inl h)), fun h1 => ⟨fun h => k0 (nxL_out (.inr h)), fun h2 => ⟨fun _ => ⟨fun _ => ?_, fun h => by omega⟩, fun h => by omega⟩⟩⟩
 intro y0 e0 _ y1 _ _ y2 _ _ y3 _ _ y4 e4 _ y5 _ _
 have ew : IntKind.wrap .i64 (p1 + 1) = p1 + 1 := w64 (by omega) (by omega)
 rw [ew]
 have hL := nxL_in (by omega) h2 e0 e4
 clear e0 e4
 have one : (y0 = 39 ∨ y0 = 40) → (n0 ≤ y4 → (0 : Int) = nxN c0 n0 p1 ∧ qZx [.int .i64] 0 (nxZ c0 n0 p1) 0) ∧ (y4 < n0 → (1 : Int) = nxN c0 n0 p1 ∧ qZx [.int .i64] (qQq y4 0) (nxZ c0 n0 p1) 1) := fun h =>
  ⟨fun g => k0 (by rw [hL, nxC_1 h, if_neg (by omega)]), fun g => nx_say (by rw [hL, nxC_1 h, if_pos g]) rfl (nx_z1 _).symm⟩
 refine ⟨fun h => k0 (by rw [hL, nxC_0 (by omega)]), fun a0 => ⟨fun h => k0 (by rw [hL, nxC_0 (by omega)]), fun a1 => ⟨fun h => k0 (by rw [hL, nxC_0 (by omega)]), fun a2 => ⟨fun h => one (by omega), fun a3 => ⟨fun h => one (by omega), fun a4 => ⟨fun h => nx_two (by rw [hL, nxC_2 (by omega)]), fun a5 => ⟨fun h => nx_two (by rw [hL, nxC_2 (by omega)]), fun a6 => ⟨fun h => nx_two (by rw [hL, nxC_2 (by omega)]), fun a7 => ?_⟩⟩⟩⟩⟩⟩⟩⟩
 have h3 := nxC_3 (y0 := y0) (y4 := y4) (n := n0) (p := p1) (by omega) (by omega) (by omega)
 exact ⟨fun g => k0 (by rw [hL, h3, if_neg (by omega)]), fun g => nx_say (by rw [hL, h3, if_pos g]) rfl (nx_z1 _).symm⟩
theorem plain (i v ro p) : statR 2 rc tree ⟨i, fN, v, ro, p⟩ = P (i 0) (i 1) (i 2) (i 3) := by kernel_rfl
theorem ran : ranR us (fun f _ => if [45, 24, 27, 28, 46, 60].contains f then .unroll 400 else .auto) rc 2 tree = true := by kernel_rfl
theorem fineT : fineR 2 rc tree = true := by kernel_rfl
theorem ok : RcOk (cxOf 2) rc := okR us_ok ran fineT okb fun i v ro p hρ hcap hpre => by rw [plain]; have q := hρ.hi; exact holds _ _ _ _ (q 0 _ rfl).1 (q 0 _ rfl).2 (q 1 _ rfl).1 (q 1 _ rfl).2 (hcap _ (mg 0 rfl))
theorem nextC (n : Nat) (Γ : List (Int × Int)) (ins : List InD) : NextC (cxG n Γ ins) 13 3 := nextC_of (tabsG n Γ ins) (rc_n ok) (fun _ _ _ => rfl) (fun _ _ _ => rfl)
end CGNext
namespace CRSame17
def rc : Rc := ⟨22, [none, none], [.row [.int .i64] 1000000, .row [.int .i64] 1000000], [], .one, [.bool (.ite (.b .eq .i64 (.v 0) (.v 1)) (.f 32 (.v 2) (.v 3) (.v 0)) (.c 0))]⟩
theorem okb : rc.ok = true := by kernel_rfl
noncomputable def us : SMs := fun Γ ins n => smH (cxG n Γ ins) [] (smR (cxG n Γ ins) [])
theorem us_ok : SMsOk us := fun Γ ins n => qKw (tabsG n Γ ins) (qXj _) (qKq (tabsG n Γ ins) (qXk _))
def tree : TT (List E) :=
(.br (.b .ne .i64 (.v 0) (.v 1))
 (.leaf [(.c 0)])
 (.loop ⟨1000, [some (0, 4611686018427387904)], [(.c 0)], 1002⟩
 (.br (.b .lt .i64 (.cl 1000 0 4611686018427387904) (.v 0))
 (.br (.b .lt .i64 (.cl 1000 0 4611686018427387904) (.v 1))
 (.br (.b .ne .i64 (.w .i64 (.f 13 (.v 2) (.cl 1000 0 4611686018427387904) (.c 0))) (.w .i64 (.f 13 (.v 3) (.cl 1000 0 4611686018427387904) (.c 0))))
 (.exit 0)
 (.br (.b .le .i64 (.b .padd .i64 (.cl 1000 0 4611686018427387904) (.c 1)) (.c 4611686018427387904))
 (.back [(.b .padd .i64 (.cl 1000 0 4611686018427387904) (.c 1))])
 (.bad 303)))
 (.bad 200))
 (.exit 1))
 (.br (.b .eq .i64 (.v 1002) (.c 0))
 (.leaf [(.c 0)])
 (.leaf [(.c 1)]))))
def P (n0 n1 c0 c1 r0 r1 : Int) : Prop :=
 (((qQj (n0 != n1)) ≠ 0 →
  ((0 : Int) ≠ 0 ↔ ((iteZ (qQj (n0 == n1)) (sameZ c0 c1 n0) 0) : Int) ≠ 0) ∧ True) ∧ ((qQj (n0 != n1)) = 0 →
  ∃ I1000 : Int → Nat → Prop, (∃ m, I1000 0 m) ∧
  ∀ y1000 : Int, ∀ m1000, ((0 ≤ y1000 ∧ y1000 ≤ 4611686018427387904) ∧ True) → I1000 y1000 m1000 →
   (((qQj (decide (y1000 < n0))) ≠ 0 →
    (((qQj (decide (y1000 < n1))) ≠ 0 →
     (((qQj ((IntKind.wrap .i64 (rdZ c0 y1000)) != (IntKind.wrap .i64 (rdZ c1 y1000)))) ≠ 0 →
      (((qQj ((0 : Int) == 0)) ≠ 0 →
       ((0 : Int) ≠ 0 ↔ ((iteZ (qQj (n0 == n1)) (sameZ c0 c1 n0) 0) : Int) ≠ 0) ∧ True) ∧ ((qQj ((0 : Int) == 0)) = 0 →
       ((1 : Int) ≠ 0 ↔ ((iteZ (qQj (n0 == n1)) (sameZ c0 c1 n0) 0) : Int) ≠ 0) ∧ True))) ∧ ((qQj ((IntKind.wrap .i64 (rdZ c0 y1000)) != (IntKind.wrap .i64 (rdZ c1 y1000)))) = 0 →
      (((qQj (decide ((y1000 + 1) ≤ 4611686018427387904))) ≠ 0 →
       ∃ m', m' < m1000 ∧ I1000 (y1000 + 1) m') ∧ ((qQj (decide ((y1000 + 1) ≤ 4611686018427387904))) = 0 →
       False))))) ∧ ((qQj (decide (y1000 < n1))) = 0 →
     False))) ∧ ((qQj (decide (y1000 < n0))) = 0 →
    (((qQj ((1 : Int) == 0)) ≠ 0 →
     ((0 : Int) ≠ 0 ↔ ((iteZ (qQj (n0 == n1)) (sameZ c0 c1 n0) 0) : Int) ≠ 0) ∧ True) ∧ ((qQj ((1 : Int) == 0)) = 0 →
     ((1 : Int) ≠ 0 ↔ ((iteZ (qQj (n0 == n1)) (sameZ c0 c1 n0) 0) : Int) ≠ 0) ∧ True))))))
theorem holds (n0 n1 c0 c1 r0 r1 : Int) (l_n0 : 0 ≤ n0) (u_n0 : n0 ≤ 1000000) (l_n1 : 0 ≤ n1) (u_n1 : n1 ≤ 1000000) (h_n0 : n0 ≤ r0) (h_n1 : n1 ≤ r1) : P n0 n1 c0 c1 r0 r1 := by
 unfold P
 simp only [nrm, Int.reduceEq, Int.reduceNeg, reduceIte]
 refine ⟨fun h => by simp [h], fun h => ?_⟩
 subst h
 simp only [if_true]
 have hs := sameZ_iff c0 c1 n0
 refine ⟨fun i m => (∀ k : Nat, (k : Int) < i → IntKind.wrap .i64 (rdZ c0 k) = IntKind.wrap .i64 (rdZ c1 k)) ∧ i ≤ n0 ∧ m = (n0 - i).toNat, ⟨_, fun k hk => by omega, l_n0, rfl⟩, fun i m hb hI => ?_⟩
 obtain ⟨hI, hi, rfl⟩ := hI
 obtain ⟨j, rfl⟩ : ∃ j : Nat, i = j := ⟨i.toNat, by omega⟩
 refine ⟨fun h1 => ⟨fun h2 => ⟨fun h3 => by have : ¬ (sameZ c0 c1 n0 ≠ 0) := fun h => h3 (hs.1 h j h1); simp_all, fun h3 => ⟨fun h4 => ⟨_, ?_, fun k hk => ?_, by omega, rfl⟩, fun h4 => by omega⟩⟩, fun h2 => by omega⟩, fun h1 => by have := hs.2 fun k hk => hI k (by omega); simp_all⟩
 ·omega
 ·by_cases e : k = j
  ·subst e; exact h3
  ·exact hI k (by omega)
theorem plain (i v ro p) : statR 2 rc tree ⟨i, fN, v, ro, p⟩ = P (i 0) (i 1) (i 2) (i 3) (i 4) (i 5) := by kernel_rfl
theorem ran : ranR us (fun _ _ => .auto) rc 2 tree = true := by kernel_rfl
theorem fineT : fineR 2 rc tree = true := by kernel_rfl
theorem ok : RcOk (cxOf 2) rc := okR us_ok ran fineT okb fun i v ro p hρ hcap hpre => by rw [plain]; have q := hρ.hi; exact holds _ _ _ _ _ _ (q 0 _ rfl).1 (q 0 _ rfl).2 (q 1 _ rfl).1 (q 1 _ rfl).2 (hcap _ (mg 0 rfl)) (hcap _ (mg 1 rfl))
end CRSame17
namespace CRFixes18
def rc : Rc := ⟨15, [none, none], [.row [.int .i64, .int .i64] 1000000, .row [.int .i64, .int .i64] 1000000], [], .one, [.bool (.ite (.b .eq .i64 (.v 0) (.v 1)) (.f 149 (.v 2) (.v 3) (.v 0)) (.c 0))]⟩
theorem okb : rc.ok = true := by kernel_rfl
noncomputable def us : SMs := fun Γ ins n => smH (cxG n Γ ins) [] (smR (cxG n Γ ins) [])
theorem us_ok : SMsOk us := fun Γ ins n => qKw (tabsG n Γ ins) (qXj _) (qKq (tabsG n Γ ins) (qXk _))
def Q0 : E := (.cl 1000 0 4611686018427387904)
def Q1 : E := (tR (.v 2) Q0)
def Q2 : E := (tR (.v 3) Q0)
def Q3 : E := (tp Q0 (.c 1))
def tree : TT (List E) :=
 (.br (tn (.v 0) (.v 1)) (.leaf [(.c 0)]) (.loop ⟨1000, [some (0, 4611686018427387904)], [(.c 0)], 1006⟩ (.br (tk Q0 (.v 0)) (.new 1002 (t6 (tR Q1 (.c 0))) (.new 1003 (t6 (tR Q1 (.c 1))) (.br (tk Q0 (.v 1)) (.new 1004 (t6 (tR Q2 (.c 0))) (.new 1005 (t6 (tR Q2 (.c 1))) (.br (.nt (.ite (te (.cl 1002 (-9223372036854775808) 9223372036854775807) (.cl 1004 (-9223372036854775808) 9223372036854775807)) (te (.cl 1003 (-9223372036854775808) 9223372036854775807) (.cl 1005 (-9223372036854775808) 9223372036854775807)) (.c 0))) (.exit 0) (.br (tl Q3 (.c 4611686018427387904)) (.back [Q3]) (.bad 303))))) (.bad 200)))) (.exit 1)) (.br (te (.v 1006) (.c 0)) (.leaf [(.c 0)]) (.leaf [(.c 1)]))))
def P (a b c d e f : Int) : Prop :=
 (Pb (Pd a b) (((0 : Int) ≠ 0 ↔ ((iteZ (Pe a b) (smfZ c d a) 0) : Int) ≠ 0) ∧ True) (∃ I1000 : Int → Nat → Prop, (∃ m, I1000 0 m) ∧ ∀ y0 : Int, ∀ m0, ((0 ≤ y0 ∧ y0 ≤ 4611686018427387904) ∧ True) → I1000 y0 m0 → (Pb (Pl y0 a) (Pn (W6 (rdZ (rdZ c y0) 0)) (-9223372036854775808) 9223372036854775807 fun y2 => Pn (W6 (rdZ (rdZ c y0) 1)) (-9223372036854775808) 9223372036854775807 fun y3 => (Pm (Pl y0 b) (Pn (W6 (rdZ (rdZ d y0) 0)) (-9223372036854775808) 9223372036854775807 fun y4 => Pn (W6 (rdZ (rdZ d y0) 1)) (-9223372036854775808) 9223372036854775807 fun y5 => (Pb (Pe (iteZ (Pe y2 y4) (Pe y3 y5) 0) 0) (Pb (Pe (0 : Int) 0) (((0 : Int) ≠ 0 ↔ ((iteZ (Pe a b) (smfZ c d a) 0) : Int) ≠ 0) ∧ True) (((1 : Int) ≠ 0 ↔ ((iteZ (Pe a b) (smfZ c d a) 0) : Int) ≠ 0) ∧ True)) (Pm (PL (y0 + 1)
 4611686018427387904) (∃ m', m' < m0 ∧ I1000 (y0 + 1) m')))))) (Pb (Pe (1 : Int) 0) (((0 : Int) ≠ 0 ↔ ((iteZ (Pe a b) (smfZ c d a) 0) : Int) ≠ 0) ∧ True) (((1 : Int) ≠ 0 ↔ ((iteZ (Pe a b) (smfZ c d a) 0) : Int) ≠ 0) ∧ True)))))
theorem holds (n0 n1 c0 c1 r0 r1 : Int) (l_n0 : 0 ≤ n0) (u_n0 : n0 ≤ 1000000) (l_n1 : 0 ≤ n1) (u_n1 : n1 ≤ 1000000) (h_n0 : n0 ≤ r0) (h_n1 : n1 ≤ r1) : P n0 n1 c0 c1 r0 r1 := by
 delta P Pb Pm Pn PL Pl Pe Pd W6
 simp only [nrm, Int.reduceEq, Int.reduceNeg, reduceIte]
 refine And.intro (fun h => by simp [h]) (fun h => ?_)
 have h : n0 = n1 := h
 subst h
 refine ⟨fun i m => 0 ≤ i ∧ m = (n0 - i).toNat ∧ ∀ j : Nat, (j : Int) < i → qQw [.int .i64, .int .i64] (rdZ c0 j) = qQw [.int .i64, .int .i64] (rdZ c1 j), ⟨_, by omega, rfl, fun j hj => by omega⟩, ?_⟩
 rintro i m hb ⟨h0, rfl, hI⟩
 have e0 : ∀ c : Int, qQw [.int .i64, .int .i64] (rdZ c i) = [.int .i64 (IntKind.wrap .i64 (rdZ (rdZ c i) 0)), .int .i64 (IntKind.wrap .i64 (rdZ (rdZ c i) 1))] := fun c => rfl
 refine And.intro (fun hi a ha _ b hb1 _ => And.intro (fun _ c hc _ d hd _ => And.intro (fun hz => ?_) (fun hz => And.intro (fun _ => ⟨_, ?_, by omega, rfl, fun j hj => ?_⟩) (fun h => by omega))) (fun h => by omega)) (fun hi => ?_)
 ·subst ha hb1 hc hd
  have hne : smfZ c0 c1 n0 = 0 := by
   unfold smfZ
   refine if_neg fun g => ?_
   have := g i.toNat (by omega)
   rw [show ((i.toNat : Nat) : Int) = i by omega, e0, e0] at this
   simp only [List.cons.injEq, Value.int.injEq, true_and, and_true] at this
   rw [this.1, this.2] at hz
   simp [qQj] at hz
  simp [hne]
 ·omega
 ·by_cases e : (j : Int) = i
  ·subst ha hb1 hc hd
   rw [e, e0, e0]
   by_cases g1 : IntKind.wrap .i64 (rdZ (rdZ c0 i) 0) = IntKind.wrap .i64 (rdZ (rdZ c1 i) 0)
   ·by_cases g2 : IntKind.wrap .i64 (rdZ (rdZ c0 i) 1) = IntKind.wrap .i64 (rdZ (rdZ c1 i) 1)
    ·rw [g1, g2]
    ·exfalso
     have g3 := beq_eq_false_iff_ne.2 g2
     simp [g1, g3, qQj] at hz
   ·simp [g1] at hz
  ·exact hI j (by omega)
 ·unfold smfZ
  rw [if_pos fun j hj => hI j (by omega)]
  simp
theorem plain (i v ro p) : statR 2 rc tree ⟨i, fN, v, ro, p⟩ = P (i 0) (i 1) (i 2) (i 3) (i 4) (i 5) := by kernel_rfl
theorem ran : ranR us (fun _ _ => .auto) rc 2 tree = true := by kernel_rfl
theorem fineT : fineR 2 rc tree = true := by kernel_rfl
theorem ok : RcOk (cxOf 2) rc := okR us_ok ran fineT okb fun i v ro p hρ hcap hpre => by rw [plain]; have q := hρ.hi; exact holds _ _ _ _ _ _ (q 0 _ rfl).1 (q 0 _ rfl).2 (q 1 _ rfl).1 (q 1 _ rfl).2 (hcap _ (mg 0 rfl)) (hcap _ (mg 1 rfl))
end CRFixes18
namespace CAwake18
def rc : Rc := ⟨6, [], [], [], .one, [.bool (.c 1)]⟩
theorem okb : rc.ok = true := by kernel_rfl
noncomputable def us : SMs := fun Γ ins n => smH (cxG n Γ ins) [] (smAnd 14 (libGAhead Γ ins n) (smAnd 16 (libGBacks Γ ins n) (smAnd 17 (libGLoop Γ ins n) (smAnd 5 (libGCyc Γ ins n) (smR (cxG n Γ ins) [CGNext.rc, CRSame17.rc, CRFixes18.rc])))))
theorem us_ok : SMsOk us := fun Γ ins n => qKw (tabsG n Γ ins) (qXj _) (qJu (libGAhead_ok CGNext.nextC Γ ins n) (qJu (libGBacks_ok CGNext.nextC Γ ins n) (qJu (libGLoop_ok CGNext.nextC Γ ins n) (qJu (libGCyc_ok CGNext.nextC Γ ins n) (qKq (tabsG n Γ ins) (qJb CGNext.okb (rc_n CGNext.ok) (qJb CRSame17.okb (rc_n CRSame17.ok) (qJb CRFixes18.okb (rc_n CRFixes18.ok) (qXk _)))))))))
def Q0 : E := (tC (.c 2415919104) (.c 0))
def Q1 : E := (tC (.c 2617245697) Q0)
def Q2 : E := (tC (.c 0) (tC (.c 1) (.c 0)))
def tree : TT (List E) :=
 (.new 1000 (.f 162 Q1 (.c 2) (.c 1)) (.new 1001 (.ite (te (.cl 1000 0 2) (.c 1)) (.f 32 (.f 163 Q1 (.c 2) (.c 1)) (tC (.c 0) (.c 0)) (.cl 1000 0 2)) (.c 0)) (.br (.cl 1001 0 1) (.br (.f 165 Q1 (.c 2) Q2) (.new 1002 (.f 166 Q1 (.c 2) (.c 0)) (.new 1003 (.ite (te (.cl 1002 0 2000) (.c 1)) (.f 149 (.f 167 Q1 (.c 2) (.c 0)) (tC (tC (.c 1) (tC (.c 0) (.c 0))) (.c 0)) (.cl 1002 0 2000)) (.c 0)) (.br (.cl 1003 0 1) (.br (.f 170 Q1 (.c 2) (.c 0)) (.new 1004 (.f 168 Q1 (.c 2) (.c 0)) (.new 1005 (.ite (te (.cl 1004 0 1000) (.c 2)) (.f 32 (.f 169 Q1 (.c 2) (.c 0)) Q2 (.cl 1004 0 1000)) (.c 0)) (.leaf [(.cl 1005 0 1)]))) (.leaf [(.c 0)])) (.leaf [(.c 0)])))) (.leaf [(.c 0)])) (.leaf [(.c 0)]))))
def P : Prop :=
 Pn (nxN (kZ 2617245697 (kZ 2415919104 0)) 2 1) 0 2 fun y0 => Pn (iteZ (Pe y0 1) (sameZ (nxZ (kZ 2617245697 (kZ 2415919104 0)) 2 1) (kZ 0 0) y0) 0) 0 1 fun y1 => (Pb y1 (Pb (ahdZ (kZ 2617245697 (kZ 2415919104 0)) 2 (kZ 0 (kZ 1 0))) (Pn (bkN (kZ 2617245697 (kZ 2415919104 0)) 2) 0 2000 fun y2 => Pn (iteZ (Pe y2 1) (smfZ (bkZ (kZ 2617245697 (kZ 2415919104 0)) 2) (kZ (kZ 1 (kZ 0 0)) 0) y2) 0) 0 1 fun y3 => (Pb y3 (Pb (cycZ (kZ 2617245697 (kZ 2415919104 0)) 2) (Pn (lpN (kZ 2617245697 (kZ 2415919104 0)) 2 0) 0 1000 fun y4 => Pn (iteZ (Pe y4 2) (sameZ (lpZ (kZ 2617245697 (kZ 2415919104 0)) 2 0) (kZ 0 (kZ 1 0)) y4) 0) 0 1 fun y5 => (((y5 : Int) ≠ 0 ↔ (1 : Int) ≠ 0) ∧ True)) Pf) Pf)) Pf) Pf)
theorem holds  : P := by
 delta P Pb Pn Pf Pe kZ
 simp only [show qQq 2617245697 (qQq 2415919104 0) = qA from rfl, aw_nxN, aw_nxZ, aw_bkN, aw_bkZ, aw_lpN, aw_lpZ]
 rintro y0 rfl - y1 rfl -
 refine ⟨fun _ => ⟨fun _ => ?_, fun h => absurd h aw_ahdZ⟩, fun h => ?_⟩
 ·rintro y2 rfl - y3 rfl -
  refine ⟨fun _ => ⟨fun _ => ?_, fun h => absurd h aw_cyc⟩, fun h => ?_⟩
  ·rintro y4 rfl - y5 rfl -
   simp [iteZ, qQj, sameZ_refl]
  ·simp [iteZ, qQj, smf_self] at h
 ·simp [iteZ, qQj, sameZ_refl] at h
theorem plain (i v ro p) : statR 2 rc tree ⟨i, fN, v, ro, p⟩ = P  := by kernel_rfl
theorem ran : ranR us (fun f _ => if [12].contains f then .unroll 400 else .auto) rc 2 tree = true := by kernel_rfl
theorem fineT : fineR 2 rc tree = true := by kernel_rfl
theorem ok : RcOk (cxOf 2) rc := okR us_ok ran fineT okb fun i v ro p hρ hcap hpre => by rw [plain]; have q := hρ.hi; exact holds
end CAwake18
end Go.Proofs.YthfckifhnaoopabGreatDoor
