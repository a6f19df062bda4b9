/-
  What functions of the program answer, as numbers of what they are handed: their runs by the engine, the plain statements behind them. No condition.
-/
import Derived.Test.YtppkkgicidagmaaDoorKa
import Derived.Test.YtppkkgicidagmaaDoorGab
import Derived.Test.YtppkkgicidagmaaDoorGp1
set_option linter.unusedVariables false
set_option linter.unusedSimpArgs false
set_option maxRecDepth 100000
namespace Go.Proofs.YtppkkgicidagmaaDoor
open Go.Eng Go.RowKit
namespace CGNext
def rc : Rc := ⟨46, [none, none], [.row [.int .u32] 1000000, .int .i64], [], .one, [.row [.int .i64] 3 (.f 163 (.v 2) (.v 0) (.v 1)) (.f 162 (.v 2) (.v 0) (.v 1))]⟩
theorem okb : rc.ok = true := by kernel_rfl
noncomputable def us : SMs := fun Γ ins n => smH (cxG n Γ ins) [] (smR (cxG n Γ ins) [CCDec.rc])
theorem us_ok : SMsOk us := fun Γ ins n => qXu (tabsG n Γ ins) (qJp _) (qXm (tabsG n Γ ins) (qQp CCDec.okb (rc_n CCDec.ok) (qJs _)))
def Q0 : E := (tR (.v 2) (.v 1))
def Q1 : E := (.w .u32 Q0)
def Q2 : E := (.cl 1000 (-32768) 65535)
def Q3 : E := (.cl 1004 (-32768) 65535)
def Q4 : E := (tl (.v 0) Q3)
def Q5 : E := (tC Q3 (.c 0))
def Q6 : E := (tp (.v 1) (.c 1))
def Q7 : E := (t6 Q6)
def Q8 : E := (tl (.v 0) Q7)
def Q9 : E := (.nt Q8)
def Q10 : E := (tC Q7 (.c 0))
def Q11 : E := (tk Q7 Q3)
def Q12 : E := (te Q3 Q7)
def Q13 : E := (tC Q7 Q5)
def Q14 : E := (te Q7 Q3)
def Q15 : E := (tC Q3 Q10)
def tree : TT (List E) :=
 (.br (tk (.v 1) (.c 0)) (.leaf [(.c 0), (.c 0)]) (.br (tl (.v 0) (.v 1)) (.leaf [(.c 0), (.c 0)]) (.br (tl (.c 0) (.v 1)) (.br (tk (.v 1) (.v 0)) (.new 1000 (.f 67 Q1 (.c 0) (.c 0)) (.new 1001 (.f 67 Q1 (.c 1) (.c 0)) (.new 1002 (.f 67 Q1 (.c 2) (.c 0)) (.new 1003 (.f 67 Q1 (.c 3) (.c 0)) (.new 1004 (.f 67 Q1 (.c 4) (.c 0)) (.new 1005 (.f 67 Q1 (.c 5) (.c 0)) (.br (te Q2 (.c 0)) (.leaf [(.c 0), (.c 0)]) (.br (te Q2 (.c 41)) (.leaf [(.c 0), (.c 0)]) (.br (te Q2 (.c 43)) (.leaf [(.c 0), (.c 0)]) (.br (te Q2 (.c 39)) (.br Q4 (.leaf [(.c 0), (.c 0)]) (.leaf [(.c 1), Q5])) (.br (te Q2 (.c 40)) (.br Q4 (.leaf [(.c 0), (.c 0)]) (.leaf [(.c 1), Q5])) (.br (te Q2 (.c 36)) (.br Q4 (.br Q9 (.leaf [(.c 1), Q10]) (.leaf [(.c 0), (.c 0)])) (.br Q8 (.leaf [(.c 1), Q5]) (.br Q11 (.br Q12 (.leaf [(.c 1),
 Q10]) (.leaf [(.c 2), Q13])) (.br Q14 (.leaf [(.c 1), Q5]) (.leaf [(.c 2), Q15]))))) (.br (te Q2 (.c 37)) (.br Q4 (.br Q9 (.leaf [(.c 1), Q10]) (.leaf [(.c 0), (.c 0)])) (.br Q8 (.leaf [(.c 1), Q5]) (.br Q11 (.br Q12 (.leaf [(.c 1), Q10]) (.leaf [(.c 2), Q13])) (.br Q14 (.leaf [(.c 1), Q5]) (.leaf [(.c 2), Q15]))))) (.br (te Q2 (.c 38)) (.br Q4 (.br Q9 (.leaf [(.c 1), Q10]) (.leaf [(.c 0), (.c 0)])) (.br Q8 (.leaf [(.c 1), Q5]) (.br Q11 (.br Q12 (.leaf [(.c 1), Q10]) (.leaf [(.c 2), Q13])) (.br Q14 (.leaf [(.c 1), Q5]) (.leaf [(.c 2), Q15]))))) (.br Q8 (.leaf [(.c 0), (.c 0)]) (.leaf [(.c 1), Q10])))))))))))))))) (.bad 200)) (.bad 200))))
def sq0 (a y4 b c : Int) : Prop := (Pb (PL a y4) (Pb (Pe (PL a (W6 (b + 1))) 0) ((1 : Int) = (nxN c a b) ∧ qQd [.int .i64] (kZ (W6 (b + 1)) 0) (nxZ c a b) 1 ∧ True) ((0 : Int) = (nxN c a b) ∧ qQd [.int .i64] 0 (nxZ c a b) 0 ∧ True)) (Pb (PL a (W6 (b + 1))) ((1 : Int) = (nxN c a b) ∧ qQd [.int .i64] (kZ y4 0) (nxZ c a b) 1 ∧ True) (Pb (Pl (W6 (b + 1)) y4) (Pb (Pe y4 (W6 (b + 1))) ((1 : Int) = (nxN c a b) ∧ qQd [.int .i64] (kZ (W6 (b + 1)) 0) (nxZ c a b) 1 ∧ True) ((2 : Int) = (nxN c a b) ∧ qQd [.int .i64] (kZ (W6 (b + 1)) (kZ y4 0)) (nxZ c a b) 2 ∧ True)) (Pb (Pe (W6 (b + 1)) y4) ((1 : Int) = (nxN c a b) ∧ qQd [.int .i64] (kZ y4 0) (nxZ c a b) 1 ∧ True) ((2 : Int) = (nxN c a b) ∧ qQd [.int .i64] (kZ y4 (kZ (W6 (b + 1)) 0)) (nxZ c a b) 2 ∧ True)))))
def P (a b c d : Int) : Prop :=
 (Pb (Pl b 0) ((0 : Int) = (nxN c a b) ∧ qQd [.int .i64] 0 (nxZ c a b) 0 ∧ True) (Pb (PL a b) ((0 : Int) = (nxN c a b) ∧ qQd [.int .i64] 0 (nxZ c a b) 0 ∧ True) (Pm (PL 0 b) (Pm (Pl b a) (Pn (decZ (U3 (rdZ c b)) 0) (-32768) 65535 fun y0 => Pn (decZ (U3 (rdZ c b)) 1) (-32768) 65535 fun y1 => Pn (decZ (U3 (rdZ c b)) 2) (-32768) 65535 fun y2 => Pn (decZ (U3 (rdZ c b)) 3) (-32768) 65535 fun y3 => Pn (decZ (U3 (rdZ c b)) 4) (-32768) 65535 fun y4 => Pn (decZ (U3 (rdZ c b)) 5) (-32768) 65535 fun y5 => (Pb (Pe y0 0) ((0 : Int) = (nxN c a b) ∧ qQd [.int .i64] 0 (nxZ c a b) 0 ∧ True) (Pb (Pe y0 41) ((0 : Int) = (nxN c a b) ∧ qQd [.int .i64] 0 (nxZ c a b) 0 ∧ True) (Pb (Pe y0 43) ((0 : Int) = (nxN c a b) ∧ qQd [.int .i64] 0 (nxZ c a b) 0 ∧ True) (Pb (Pe y0 39) (Pb (PL a y4) ((0 : Int) =
 (nxN c a b) ∧ qQd [.int .i64] 0 (nxZ c a b) 0 ∧ True) ((1 : Int) = (nxN c a b) ∧ qQd [.int .i64] (kZ y4 0) (nxZ c a b) 1 ∧ True)) (Pb (Pe y0 40) (Pb (PL a y4) ((0 : Int) = (nxN c a b) ∧ qQd [.int .i64] 0 (nxZ c a b) 0 ∧ True) ((1 : Int) = (nxN c a b) ∧ qQd [.int .i64] (kZ y4 0) (nxZ c a b) 1 ∧ True)) (Pb (Pe y0 36) (sq0 a y4 b c) (Pb (Pe y0 37) (sq0 a y4 b c) (Pb (Pe y0 38) (sq0 a y4 b c) (Pb (PL a (W6 (b + 1))) ((0 : Int) = (nxN c a b) ∧ qQd [.int .i64] 0 (nxZ c a b) 0 ∧ True) ((1 : Int) = (nxN c a b) ∧ qQd [.int .i64] (kZ (W6 (b + 1)) 0) (nxZ c a b) 1 ∧ True)))))))))))))))
set_option maxHeartbeats 4000000 in
theorem holds (n0 p1 c0 r0 : Int) (l_n0 : 0 ≤ n0) (u_n0 : n0 ≤ 1000000) (l_p1 : -9223372036854775808 ≤ p1) (u_p1 : p1 ≤ 9223372036854775807) (h_n0 : n0 ≤ r0) : P n0 p1 c0 r0 := by
 delta P sq0 Pb Pm Pn PL Pl Pe W6 U3 kZ
 simp only [nrm, Int.reduceEq, Int.reduceNeg, reduceIte]
 have k0 : nxL c0 n0 p1 = [] → (0 : Int) = nxN c0 n0 p1 ∧ qQd [.int .i64] 0 (nxZ c0 n0 p1) 0 := fun h => nx_say h rfl rfl
 refine ⟨fun h => k0 (nxL_out (.inl h)), fun h1 => ⟨fun h => k0 (nxL_out (.inr h)), fun h2 => ⟨fun _ => ⟨fun _ => ?_, fun h => by omega⟩, fun h => by omega⟩⟩⟩
 intro y0 e0 _ y1 _ _ y2 _ _ y3 _ _ y4 e4 _ y5 _ _
 have ew : IntKind.wrap .i64 (p1 + 1) = p1 + 1 := w64 (by omega) (by omega)
 rw [ew]
 have hL := nxL_in (by omega) h2 e0 e4
 clear e0 e4
 have one : (y0 = 39 ∨ y0 = 40) → (n0 ≤ y4 → (0 : Int) = nxN c0 n0 p1 ∧ qQd [.int .i64] 0 (nxZ c0 n0 p1) 0) ∧ (y4 < n0 → (1 : Int) = nxN c0 n0 p1 ∧ qQd [.int .i64] (qQq y4 0) (nxZ c0 n0 p1) 1) := fun h =>
  ⟨fun g => k0 (by rw [hL, nxC_1 h, if_neg (by omega)]), fun g => nx_say (by rw [hL, nxC_1 h, if_pos g]) rfl (nx_z1 _).symm⟩
 refine ⟨fun h => k0 (by rw [hL, nxC_0 (by omega)]), fun a0 => ⟨fun h => k0 (by rw [hL, nxC_0 (by omega)]), fun a1 => ⟨fun h => k0 (by rw [hL, nxC_0 (by omega)]), fun a2 => ⟨fun h => one (by omega), fun a3 => ⟨fun h => one (by omega), fun a4 => ⟨fun h => nx_two (by rw [hL, nxC_2 (by omega)]), fun a5 => ⟨fun h => nx_two (by rw [hL, nxC_2 (by omega)]), fun a6 => ⟨fun h => nx_two (by rw [hL, nxC_2 (by omega)]), fun a7 => ?_⟩⟩⟩⟩⟩⟩⟩⟩
 have h3 := nxC_3 (y0 := y0) (y4 := y4) (n := n0) (p := p1) (by omega) (by omega) (by omega)
 exact ⟨fun g => k0 (by rw [hL, h3, if_neg (by omega)]), fun g => nx_say (by rw [hL, h3, if_pos g]) rfl (nx_z1 _).symm⟩
theorem plain (i v ro p) : statR 2 rc tree ⟨i, fN, v, ro, p⟩ = P (i 0) (i 1) (i 2) (i 3) := by kernel_rfl
theorem ran : ranR us (fun f _ => if [60, 54, 57, 58, 61, 63].contains f then .unroll 400 else .auto) rc 2 tree = true := by kernel_rfl
theorem fineT : fineR 2 rc tree = true := by kernel_rfl
theorem ok : RcOk (cxOf 2) rc := okR us_ok ran fineT okb fun i v ro p hρ hcap hpre => by rw [plain]; have q := hρ.hi; exact holds _ _ _ _ (q 0 _ rfl).1 (q 0 _ rfl).2 (q 1 _ rfl).1 (q 1 _ rfl).2 (hcap _ (mg 0 rfl))
theorem nextC (n : Nat) (Γ : List (Int × Int)) (ins : List InD) : NextC (cxG n Γ ins) 46 3 := nextC_of (tabsG n Γ ins) (rc_n ok) (fun _ _ _ => rfl) (fun _ _ _ => rfl)
end CGNext
namespace COCost
def rc : Rc := ⟨20, [none], [.int .i64], [], .one, [.int .i64 (.f 66 (.v 0) (.c 0) (.c 0))]⟩
theorem okb : rc.ok = true := by kernel_rfl
noncomputable def us : SMs := fun Γ ins n => smH (cxG n Γ ins) [] (smR (cxG n Γ ins) [])
theorem us_ok : SMsOk us := fun Γ ins n => qXu (tabsG n Γ ins) (qJp _) (qXm (tabsG n Γ ins) (qJs _))
def tree : TT (List E) :=
(.br (.b .le .i64 (.c 1) (.v 0))
 (.br (.nt (.b .le .i64 (.v 0) (.c 43)))
 (.leaf [(.c 0)])
 (.br (.b .le .i64 (.c 0) (.w .i64 (.b .psub .i64 (.v 0) (.c 1))))
 (.br (.b .lt .i64 (.w .i64 (.b .psub .i64 (.v 0) (.c 1))) (.c 43))
 (.leaf [(.w .i64 (.f 13 (.f 11 (.c 1) (.f 11 (.c 1) (.f 11 (.c 1) (.f 11 (.c 1) (.f 11 (.c 1) (.f 11 (.c 1) (.f 11 (.c 1) (.f 11 (.c 1) (.f 11 (.c 1) (.f 11 (.c 1) (.f 11 (.c 1) (.f 11 (.c 1) (.f 11 (.c 1) (.f 11 (.c 1) (.f 11 (.c 1) (.f 11 (.c 1) (.f 11 (.c 1) (.f 11 (.c 3) (.f 11 (.c 3) (.f 11 (.c 3) (.f 11 (.c 3) (.f 11 (.c 2) (.f 11 (.c 2) (.f 11 (.c 1) (.f 11 (.c 1) (.f 11 (.c 1) (.f 11 (.c 1) (.f 11 (.c 1) (.f 11 (.c 1) (.f 11 (.c 1) (.f 11 (.c 1) (.f 11 (.c 1) (.f 11 (.c 1) (.f 11 (.c 2) (.f 11 (.c 2) (.f 11 (.c 1) (.f 11 (.c 1) (.f 11 (.c 1) (.f 11 (.c 3) (.f 11 (.c 3) (.f 11 (.c 3) (.f 11 (.c 1) (.f 11 (.c 1) (.c 0) (.c 0)) (.c 0)) (.c 0)) (.c 0)) (.c 0)) (.c 0)) (.c 0)) (.c 0)) (.c 0)) (.c 0)) (.c 0)) (.c 0)) (.c 0)) (.c 0)) (.c 0)) (.c 0)) (.c 0)) (.c 0)) (.c 0)) (.c 0)) (.c 0)) (.c 0)) (.c 0)) (.c 0)) (.c 0)) (.c 0)) (.c 0)) (.c 0)) (.c 0)) (.c 0)) (.c 0)) (.c 0)) (.c 0)) (.c 0)) (.c 0)) (.c 0)) (.c 0)) (.c 0)) (.c 0)) (.c 0)) (.c 0)) (.c 0)) (.c 0)) (.w .i64 (.b .psub .i64 (.v 0) (.c 1))) (.c 0)))])
 (.bad 200))
 (.bad 200)))
 (.leaf [(.c 0)]))
def P (p0 : Int) : Prop :=
 (((qQz (decide (1 ≤ p0))) ≠ 0 →
  (((qQz ((qQz (decide (p0 ≤ 43))) == 0)) ≠ 0 →
   (0 : Int) = (opCo p0) ∧ True) ∧ ((qQz ((qQz (decide (p0 ≤ 43))) == 0)) = 0 →
   (((qQz (decide (0 ≤ (IntKind.wrap .i64 (p0 - 1))))) ≠ 0 →
    (((qQz (decide ((IntKind.wrap .i64 (p0 - 1)) < 43))) ≠ 0 →
     ((IntKind.wrap .i64 (rdZ (qQq 1 (qQq 1 (qQq 1 (qQq 1 (qQq 1 (qQq 1 (qQq 1 (qQq 1 (qQq 1 (qQq 1 (qQq 1 (qQq 1 (qQq 1 (qQq 1 (qQq 1 (qQq 1 (qQq 1 (qQq 3 (qQq 3 (qQq 3 (qQq 3 (qQq 2 (qQq 2 (qQq 1 (qQq 1 (qQq 1 (qQq 1 (qQq 1 (qQq 1 (qQq 1 (qQq 1 (qQq 1 (qQq 1 (qQq 2 (qQq 2 (qQq 1 (qQq 1 (qQq 1 (qQq 3 (qQq 3 (qQq 3 (qQq 1 (qQq 1 0))))))))))))))))))))))))))))))))))))))))))) (IntKind.wrap .i64 (p0 - 1)))) : Int) = (opCo p0) ∧ True) ∧ ((qQz (decide ((IntKind.wrap .i64 (p0 - 1)) < 43))) = 0 →
     False))) ∧ ((qQz (decide (0 ≤ (IntKind.wrap .i64 (p0 - 1))))) = 0 →
    False))))) ∧ ((qQz (decide (1 ≤ p0))) = 0 →
  (0 : Int) = (opCo p0) ∧ True))
def costL : List Int := [1, 1, 1, 1, 1, 1, 1, 1, 1, 1, 1, 1, 1, 1, 1, 1, 1, 3, 3, 3, 3, 2, 2, 1, 1, 1, 1, 1, 1, 1, 1, 1, 1, 2, 2, 1, 1, 1, 3, 3, 3, 1, 1]
theorem cost_all : ∀ k : Fin 43, costL.getD k 0 = opCo ((k.val : Int) + 1) := by decide
theorem cost_rd {p : Int} (h1 : 1 ≤ p) (h2 : p ≤ 43) : IntKind.wrap .i64 (rdZ (chn costL) (IntKind.wrap .i64 (p - 1))) = opCo p := by
 rw [w64 (x := p - 1) (by omega) (by omega)]
 have e : p - 1 = ((p - 1).toNat : Nat) := by omega
 rw [e, rd_chn, cost_all ⟨(p - 1).toNat, by omega⟩]
 have := opCo_bd (((⟨(p - 1).toNat, by omega⟩ : Fin 43).val : Int) + 1)
 rw [w64 (by omega) (by omega)]
 congr 1
 show ((p - 1).toNat : Int) + 1 = p
 omega
theorem holds (p0 : Int) (l_p0 : -9223372036854775808 ≤ p0) (u_p0 : p0 ≤ 9223372036854775807) : P p0 := by
 unfold P
 simp only [nrm, Int.reduceEq, Int.reduceNeg, reduceIte]
 have e : ∀ p, p < 1 ∨ 43 < p → (0 : Int) = opCo p := fun p h => by unfold opCo; rw [if_pos h]
 refine ⟨fun h1 => ⟨fun h2 => e _ (by omega), fun h2 => ?_⟩, fun h1 => e _ (by omega)⟩
 have hw : IntKind.wrap .i64 (p0 - 1) = p0 - 1 := w64 (by omega) (by omega)
 exact ⟨fun h3 => ⟨fun h4 => cost_rd h1 (by omega), fun h4 => by omega⟩, fun h3 => by omega⟩
theorem plain (i v ro p) : statR 2 rc tree ⟨i, fN, v, ro, p⟩ = P (i 0) := by kernel_rfl
theorem ran : ranR us (fun _ _ => .auto) rc 2 tree = true := by kernel_rfl
theorem fineT : fineR 2 rc tree = true := by kernel_rfl
theorem ok : RcOk (cxOf 2) rc := okR us_ok ran fineT okb fun i v ro p hρ hcap hpre => by rw [plain]; have q := hρ.hi; exact holds _ (q 0 _ rfl).1 (q 0 _ rfl).2
theorem costC (n : Nat) (Γ : List (Int × Int)) (ins : List InD) : CostC (cxG n Γ ins) 20 := costC_of (tabsG n Γ ins) (rc_n ok) (fun _ _ _ => rfl)
end COCost
end Go.Proofs.YtppkkgicidagmaaDoor
