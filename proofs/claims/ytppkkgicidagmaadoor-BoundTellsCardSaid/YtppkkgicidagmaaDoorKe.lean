/-
  What functions of the program answer, as numbers of what they are handed: their runs by the engine, the plain statements behind them. No condition.
-/
import Derived.Test.YtppkkgicidagmaaDoorKc
import Derived.Test.YtppkkgicidagmaaDoorGab
import Derived.Test.YtppkkgicidagmaaDoorGp2
set_option linter.unusedVariables false
set_option linter.unusedSimpArgs false
set_option maxRecDepth 100000
namespace Go.Proofs.YtppkkgicidagmaaDoor
open Go.Eng Go.RowKit
namespace CRNext18
def rc : Rc := ⟨40, [none, none], [.row [.int .u32] 1000000, .int .i64], [], .one, [.row [.int .i64] 3 (.f 163 (.v 2) (.v 0) (.v 1)) (.f 162 (.v 2) (.v 0) (.v 1))]⟩
theorem okb : rc.ok = true := by kernel_rfl
noncomputable def us : SMs := fun Γ ins n => smH (cxG n Γ ins) [] (smR (cxG n Γ ins) [CRDec.rc])
theorem us_ok : SMsOk us := fun Γ ins n => qXu (tabsG n Γ ins) (qJp _) (qXm (tabsG n Γ ins) (qQp CRDec.okb (rc_n CRDec.ok) (qJs _)))
def Q0 : E := (tR (.v 2) (.v 1))
def Q1 : E := (.w .u32 Q0)
def Q2 : E := (.cl 1000 (-32768) 65535)
def Q3 : E := (.cl 1004 (-32768) 65535)
def Q4 : E := (tk Q3 (.c 0))
def Q5 : E := (tn Q2 (.c 39))
def Q6 : E := (tn Q2 (.c 40))
def Q7 : E := (tp (.v 1) (.c 1))
def Q8 : E := (t6 Q7)
def Q9 : E := (tk Q8 (.c 0))
def Q10 : E := (tl (.v 0) Q8)
def Q11 : E := (tC Q8 (.c 0))
def Q12 : E := (tl (.v 0) Q3)
def Q13 : E := (tC Q3 (.c 0))
def Q14 : E := (te Q3 Q8)
def Q15 : E := (tk Q3 Q8)
def Q16 : E := (tC Q3 Q11)
def Q17 : E := (tC Q8 Q13)
def tree : TT (List E) :=
 (.br (tk (.v 1) (.c 0)) (.leaf [(.c 0), (.c 0)]) (.br (tl (.v 0) (.v 1)) (.leaf [(.c 0), (.c 0)]) (.br (tl (.c 0) (.v 1)) (.br (tk (.v 1) (.v 0)) (.new 1000 (.f 67 Q1 (.c 0) (.c 0)) (.new 1001 (.f 67 Q1 (.c 1) (.c 0)) (.new 1002 (.f 67 Q1 (.c 2) (.c 0)) (.new 1003 (.f 67 Q1 (.c 3) (.c 0)) (.new 1004 (.f 67 Q1 (.c 4) (.c 0)) (.new 1005 (.f 67 Q1 (.c 5) (.c 0)) (.br (tn (.cl 1005 (-32768) 65535) (.c 0)) (.leaf [(.c 0), (.c 0)]) (.br (te Q2 (.c 41)) (.leaf [(.c 0), (.c 0)]) (.br (te Q2 (.c 43)) (.leaf [(.c 0), (.c 0)]) (.br (te Q2 (.c 36)) (.br Q4 (.br Q5 (.br Q6 (.br Q9 (.leaf [(.c 0), (.c 0)]) (.br Q10 (.leaf [(.c 0), (.c 0)]) (.leaf [(.c 1), Q11]))) (.leaf [(.c 0), (.c 0)])) (.leaf [(.c 0), (.c 0)])) (.br Q12 (.br Q5 (.br Q6 (.br Q9 (.leaf [(.c 0), (.c 0)]) (.br Q10 (.leaf [(.c 0), (.c
 0)]) (.leaf [(.c 1), Q11]))) (.leaf [(.c 0), (.c 0)])) (.leaf [(.c 0), (.c 0)])) (.br Q5 (.br Q6 (.br Q9 (.leaf [(.c 1), Q13]) (.br Q10 (.leaf [(.c 1), Q13]) (.br Q14 (.leaf [(.c 1), Q13]) (.br Q15 (.leaf [(.c 2), Q16]) (.leaf [(.c 2), Q17]))))) (.leaf [(.c 1), Q13])) (.leaf [(.c 1), Q13])))) (.br (te Q2 (.c 37)) (.br Q4 (.br Q5 (.br Q6 (.br Q9 (.leaf [(.c 0), (.c 0)]) (.br Q10 (.leaf [(.c 0), (.c 0)]) (.leaf [(.c 1), Q11]))) (.leaf [(.c 0), (.c 0)])) (.leaf [(.c 0), (.c 0)])) (.br Q12 (.br Q5 (.br Q6 (.br Q9 (.leaf [(.c 0), (.c 0)]) (.br Q10 (.leaf [(.c 0), (.c 0)]) (.leaf [(.c 1), Q11]))) (.leaf [(.c 0), (.c 0)])) (.leaf [(.c 0), (.c 0)])) (.br Q5 (.br Q6 (.br Q9 (.leaf [(.c 1), Q13]) (.br Q10 (.leaf [(.c 1), Q13]) (.br Q14 (.leaf [(.c 1), Q13]) (.br Q15 (.leaf [(.c 2), Q16]) (.leaf
 [(.c 2), Q17]))))) (.leaf [(.c 1), Q13])) (.leaf [(.c 1), Q13])))) (.br (te Q2 (.c 38)) (.br Q4 (.br Q5 (.br Q6 (.br Q9 (.leaf [(.c 0), (.c 0)]) (.br Q10 (.leaf [(.c 0), (.c 0)]) (.leaf [(.c 1), Q11]))) (.leaf [(.c 0), (.c 0)])) (.leaf [(.c 0), (.c 0)])) (.br Q12 (.br Q5 (.br Q6 (.br Q9 (.leaf [(.c 0), (.c 0)]) (.br Q10 (.leaf [(.c 0), (.c 0)]) (.leaf [(.c 1), Q11]))) (.leaf [(.c 0), (.c 0)])) (.leaf [(.c 0), (.c 0)])) (.br Q5 (.br Q6 (.br Q9 (.leaf [(.c 1), Q13]) (.br Q10 (.leaf [(.c 1), Q13]) (.br Q14 (.leaf [(.c 1), Q13]) (.br Q15 (.leaf [(.c 2), Q16]) (.leaf [(.c 2), Q17]))))) (.leaf [(.c 1), Q13])) (.leaf [(.c 1), Q13])))) (.br (te Q2 (.c 39)) (.br Q4 (.br Q5 (.br Q6 (.br Q9 (.leaf [(.c 0), (.c 0)]) (.br Q10 (.leaf [(.c 0), (.c 0)]) (.leaf [(.c 1), Q11]))) (.leaf [(.c 0), (.c 0)]))
 (.leaf [(.c 0), (.c 0)])) (.br Q12 (.br Q5 (.br Q6 (.br Q9 (.leaf [(.c 0), (.c 0)]) (.br Q10 (.leaf [(.c 0), (.c 0)]) (.leaf [(.c 1), Q11]))) (.leaf [(.c 0), (.c 0)])) (.leaf [(.c 0), (.c 0)])) (.br Q5 (.br Q6 (.br Q9 (.leaf [(.c 1), Q13]) (.br Q10 (.leaf [(.c 1), Q13]) (.br Q14 (.leaf [(.c 1), Q13]) (.br Q15 (.leaf [(.c 2), Q16]) (.leaf [(.c 2), Q17]))))) (.leaf [(.c 1), Q13])) (.leaf [(.c 1), Q13])))) (.br (te Q2 (.c 40)) (.br Q4 (.br Q5 (.br Q6 (.br Q9 (.leaf [(.c 0), (.c 0)]) (.br Q10 (.leaf [(.c 0), (.c 0)]) (.leaf [(.c 1), Q11]))) (.leaf [(.c 0), (.c 0)])) (.leaf [(.c 0), (.c 0)])) (.br Q12 (.br Q5 (.br Q6 (.br Q9 (.leaf [(.c 0), (.c 0)]) (.br Q10 (.leaf [(.c 0), (.c 0)]) (.leaf [(.c 1), Q11]))) (.leaf [(.c 0), (.c 0)])) (.leaf [(.c 0), (.c 0)])) (.br Q5 (.br Q6 (.br Q9 (.leaf [(.c
 1), Q13]) (.br Q10 (.leaf [(.c 1), Q13]) (.br Q14 (.leaf [(.c 1), Q13]) (.br Q15 (.leaf [(.c 2), Q16]) (.leaf [(.c 2), Q17]))))) (.leaf [(.c 1), Q13])) (.leaf [(.c 1), Q13])))) (.br Q5 (.br Q6 (.br Q9 (.leaf [(.c 0), (.c 0)]) (.br Q10 (.leaf [(.c 0), (.c 0)]) (.leaf [(.c 1), Q11]))) (.leaf [(.c 0), (.c 0)])) (.leaf [(.c 0), (.c 0)])))))))))))))))) (.bad 200)) (.bad 200))))
def sq0 (y4 y0 b c a : Int) : Prop := (Pb (Pl y4 0) (Pb (Pd y0 39) (Pb (Pd y0 40) (Pb (Pl (W6 (b + 1)) 0) ((0 : Int) = (nxN c a b) ∧ qQd [.int .i64] 0 (nxZ c a b) 0 ∧ True) (Pb (PL a (W6 (b + 1))) ((0 : Int) = (nxN c a b) ∧ qQd [.int .i64] 0 (nxZ c a b) 0 ∧ True) ((1 : Int) = (nxN c a b) ∧ qQd [.int .i64] (kZ (W6 (b + 1)) 0) (nxZ c a b) 1 ∧ True))) ((0 : Int) = (nxN c a b) ∧ qQd [.int .i64] 0 (nxZ c a b) 0 ∧ True)) ((0 : Int) = (nxN c a b) ∧ qQd [.int .i64] 0 (nxZ c a b) 0 ∧ True)) (Pb (PL a y4) (Pb (Pd y0 39) (Pb (Pd y0 40) (Pb (Pl (W6 (b + 1)) 0) ((0 : Int) = (nxN c a b) ∧ qQd [.int .i64] 0 (nxZ c a b) 0 ∧ True) (Pb (PL a (W6 (b + 1))) ((0 : Int) = (nxN c a b) ∧ qQd [.int .i64] 0 (nxZ c a b) 0 ∧ True) ((1 : Int) = (nxN c a b) ∧ qQd [.int .i64] (kZ (W6 (b + 1)) 0) (nxZ c
 a b) 1 ∧ True))) ((0 : Int) = (nxN c a b) ∧ qQd [.int .i64] 0 (nxZ c a b) 0 ∧ True)) ((0 : Int) = (nxN c a b) ∧ qQd [.int .i64] 0 (nxZ c a b) 0 ∧ True)) (Pb (Pd y0 39) (Pb (Pd y0 40) (Pb (Pl (W6 (b + 1)) 0) ((1 : Int) = (nxN c a b) ∧ qQd [.int .i64] (kZ y4 0) (nxZ c a b) 1 ∧ True) (Pb (PL a (W6 (b + 1))) ((1 : Int) = (nxN c a b) ∧ qQd [.int .i64] (kZ y4 0) (nxZ c a b) 1 ∧ True) (Pb (Pe y4 (W6 (b + 1))) ((1 : Int) = (nxN c a b) ∧ qQd [.int .i64] (kZ y4 0) (nxZ c a b) 1 ∧ True) (Pb (Pl y4 (W6 (b + 1))) ((2 : Int) = (nxN c a b) ∧ qQd [.int .i64] (kZ y4 (kZ (W6 (b + 1)) 0)) (nxZ c a b) 2 ∧ True) ((2 : Int) = (nxN c a b) ∧ qQd [.int .i64] (kZ (W6 (b + 1)) (kZ y4 0)) (nxZ c a b) 2 ∧ True))))) ((1 : Int) = (nxN c a b) ∧ qQd [.int .i64] (kZ y4 0) (nxZ c a b) 1 ∧ True)) ((1 : Int)
 = (nxN c a b) ∧ qQd [.int .i64] (kZ y4 0) (nxZ c a b) 1 ∧ True))))
def P (a b c d : Int) : Prop :=
 (Pb (Pl b 0) ((0 : Int) = (nxN c a b) ∧ qQd [.int .i64] 0 (nxZ c a b) 0 ∧ True) (Pb (PL a b) ((0 : Int) = (nxN c a b) ∧ qQd [.int .i64] 0 (nxZ c a b) 0 ∧ True) (Pm (PL 0 b) (Pm (Pl b a) (Pn (decZ (U3 (rdZ c b)) 0) (-32768) 65535 fun y0 => Pn (decZ (U3 (rdZ c b)) 1) (-32768) 65535 fun y1 => Pn (decZ (U3 (rdZ c b)) 2) (-32768) 65535 fun y2 => Pn (decZ (U3 (rdZ c b)) 3) (-32768) 65535 fun y3 => Pn (decZ (U3 (rdZ c b)) 4) (-32768) 65535 fun y4 => Pn (decZ (U3 (rdZ c b)) 5) (-32768) 65535 fun y5 => (Pb (Pd y5 0) ((0 : Int) = (nxN c a b) ∧ qQd [.int .i64] 0 (nxZ c a b) 0 ∧ True) (Pb (Pe y0 41) ((0 : Int) = (nxN c a b) ∧ qQd [.int .i64] 0 (nxZ c a b) 0 ∧ True) (Pb (Pe y0 43) ((0 : Int) = (nxN c a b) ∧ qQd [.int .i64] 0 (nxZ c a b) 0 ∧ True) (Pb (Pe y0 36) (sq0 y4 y0 b c a) (Pb (Pe y0
 37) (sq0 y4 y0 b c a) (Pb (Pe y0 38) (sq0 y4 y0 b c a) (Pb (Pe y0 39) (sq0 y4 y0 b c a) (Pb (Pe y0 40) (sq0 y4 y0 b c a) (Pb (Pd y0 39) (Pb (Pd y0 40) (Pb (Pl (W6 (b + 1)) 0) ((0 : Int) = (nxN c a b) ∧ qQd [.int .i64] 0 (nxZ c a b) 0 ∧ True) (Pb (PL a (W6 (b + 1))) ((0 : Int) = (nxN c a b) ∧ qQd [.int .i64] 0 (nxZ c a b) 0 ∧ True) ((1 : Int) = (nxN c a b) ∧ qQd [.int .i64] (kZ (W6 (b + 1)) 0) (nxZ c a b) 1 ∧ True))) ((0 : Int) = (nxN c a b) ∧ qQd [.int .i64] 0 (nxZ c a b) 0 ∧ True)) ((0 : Int) = (nxN c a b) ∧ qQd [.int .i64] 0 (nxZ c a b) 0 ∧ True)))))))))))))))
set_option maxHeartbeats 4000000 in
theorem holds (n0 p1 c0 r0 : Int) (l_n0 : 0 ≤ n0) (u_n0 : n0 ≤ 1000000) (l_p1 : -9223372036854775808 ≤ p1) (u_p1 : p1 ≤ 9223372036854775807) (h_n0 : n0 ≤ r0) : P n0 p1 c0 r0 := by
 delta P sq0 Pb Pm Pn PL Pl Pe Pd W6 U3 kZ
 simp only [nrm, Int.reduceEq, Int.reduceNeg, reduceIte]
 have k0 : nxL c0 n0 p1 = [] → (0 : Int) = nxN c0 n0 p1 ∧ qQd [.int .i64] 0 (nxZ c0 n0 p1) 0 := fun h => nx_say h rfl rfl
 refine ⟨fun h => k0 (nxL_out (.inl h)), fun h1 => ⟨fun h => k0 (nxL_out (.inr h)), fun h2 => ⟨fun _ => ⟨fun _ => ?_, fun h => by omega⟩, fun h => by omega⟩⟩⟩
 intro y0 e0 _ y1 _ _ y2 _ _ y3 _ _ y4 e4 _ y5 e5 _
 have ew : IntKind.wrap .i64 (p1 + 1) = p1 + 1 := w64 (by omega) (by omega)
 rw [ew]
 obtain ⟨f5, f4, l0, l1, l2, l3, l4⟩ := nx_doc (by omega) h2 e0 e4 e5
 clear e0 e4 e5 ew k0
 repeat' first
  | refine And.intro (fun _ => ?_) (fun _ => ?_)
  | exact l0 (by clear l0 l1 l2 l3 l4; omega)
  | exact l1 (by clear l0 l1 l2 l3 l4; omega)
  | exact l2 (by clear l0 l1 l2 l3 l4; omega)
  | exact l3 (by clear l0 l1 l2 l3 l4; omega)
  | exact l4 (by clear l0 l1 l2 l3 l4; omega)
  | (exfalso; clear l0 l1 l2 l3 l4; omega)
theorem plain (i v ro p) : statR 2 rc tree ⟨i, fN, v, ro, p⟩ = P (i 0) (i 1) (i 2) (i 3) := by kernel_rfl
theorem ran : ranR us (fun f _ => if [52, 42].contains f then .unroll 400 else .auto) rc 2 tree = true := by kernel_rfl
theorem fineT : fineR 2 rc tree = true := by kernel_rfl
theorem ok : RcOk (cxOf 2) rc := okR us_ok ran fineT okb fun i v ro p hρ hcap hpre => by rw [plain]; have q := hρ.hi; exact holds _ _ _ _ (q 0 _ rfl).1 (q 0 _ rfl).2 (q 1 _ rfl).1 (q 1 _ rfl).2 (hcap _ (mg 0 rfl))
end CRNext18
namespace CRFrom18
def rc : Rc := ⟨38, [none, none, none], [.row [.int .u32] 1000000, .int .i64, .int .i64], [(.b .le .i64 (.v 0) (.c 1000))], .one, [.row [.bool] 4 (.f 164 (.v 3) (.v 0) (.f 11 (.v 1) (.f 11 (.v 2) (.c 0) (.c 0)) (.c 0))) (.v 0)]⟩
theorem okb : rc.ok = true := by kernel_rfl
def mk38_9 : qJq := [([0, 9], .num (0) (4611686018427387904)), ([0, 8], .num (0) (1)), ([1, 0, 0], .code), ([0, 10], .wilds 2), ([0, 33], .wilds 42)]
def mk38_14 : qJq := [([0, 11], .num (0) (4611686018427387904)), ([0, 8], .num (0) (1)), ([1, 0, 0], .code), ([0, 47], .wilds 28)]
noncomputable def us : SMs := fun Γ ins n => smH (cxG n Γ ins) [] (smR (cxG n Γ ins) [CRNext18.rc])
theorem us_ok : SMsOk us := fun Γ ins n => qXu (tabsG n Γ ins) (qJp _) (qXm (tabsG n Γ ins) (qQp CRNext18.okb (rc_n CRNext18.ok) (qJs _)))
def Q0 : E := (.cl 1004 0 4611686018427387904)
def Q1 : E := (tp Q0 (.c 1))
def Q2 : E := (tl Q1 (.c 4611686018427387904))
def Q3 : E := (.cl 1008 0 4611686018427387904)
def Q4 : E := (.f 163 (.v 3) (.v 0) Q0)
def Q5 : E := (tR Q4 Q3)
def Q6 : E := (t6 Q5)
def Q7 : E := (tp Q3 (.c 1))
def Q8 : E := (tl Q7 (.c 4611686018427387904))
def tree : TT (List E) :=
 (.br (tk (.v 1) (.c 0)) (.leaf [(.v 0), (.c 0)]) (.br (tl (.v 0) (.v 1)) (.leaf [(.v 0), (.c 0)]) (.br (te (.v 1) (.v 2)) (.leaf [(.v 0), (.c 0)]) (.br (tl (.c 0) (.v 1)) (.br (tk (.v 1) (.v 0)) (.loop ⟨1000, [some (0, 1), none], [(.c 1), (.f 14 (.c 0) (.v 1) (.c 1))], 1013⟩ (.br (.cl 1000 0 1) (.loop ⟨1003, [some (0, 1), some (0, 4611686018427387904), none], [(.c 0), (.c 0), (.v 1001)], 1012⟩ (.br (tk Q0 (.v 0)) (.br (.nt (tR (.v 1005) Q0)) (.br Q2 (.back [(.cl 1003 0 1), Q1, (.v 1005)]) (.bad 303)) (.br (tl (.v 0) (.v 4)) (.loop ⟨1007, [some (0, 1), some (0, 4611686018427387904), none], [(.cl 1003 0 1), (.c 0), (.v 1005)], 1011⟩ (.br (tk Q3 (.f 162 (.v 3) (.v 0) Q0)) (.br (tn Q6 (.v 2)) (.br (tl (.c 0) Q6) (.br (tk Q6 (.v 0)) (.br (.nt (tR (.v 1009) Q6)) (.br Q8 (.back [(.c 1), Q7, (.f
 14 (.v 1009) Q6 (.c 1))]) (.bad 303)) (.br Q8 (.back [(.cl 1007 0 1), Q7, (.v 1009)]) (.bad 303))) (.bad 200)) (.bad 200)) (.br Q8 (.back [(.cl 1007 0 1), Q7, (.v 1009)]) (.bad 303))) (.exit 0)) (.br Q2 (.back [(.cl 1007 0 1), Q1, (.v 1009)]) (.bad 303))) (.bad 200))) (.exit 0)) (.back [(.cl 1003 0 1), (.v 1005)])) (.exit 0)) (.leaf [(.v 0), (.v 1001)])) (.bad 200)) (.bad 200)))))
def P (a b c d e : Int) : Prop :=
 (Pb (Pl b 0) ((a : Int) = a ∧ qQd [.bool] 0 (gfmZ d a (kZ b (kZ c 0))) a ∧ True) (Pb (PL a b) ((a : Int) = a ∧ qQd [.bool] 0 (gfmZ d a (kZ b (kZ c 0))) a ∧ True) (Pb (Pe b c) ((a : Int) = a ∧ qQd [.bool] 0 (gfmZ d a (kZ b (kZ c 0))) a ∧ True) (Pm (PL 0 b) (Pm (Pl b a) (∃ I1000 : Int → Int → Nat → Prop, (∃ m, I1000 1 (updZ 0 b 1) m) ∧ ∀ y0 y1 : Int, ∀ m0, ((0 ≤ y0 ∧ y0 ≤ 1) ∧ True ∧ True) → I1000 y0 y1 m0 → (Pb y0 (∃ I1003 : Int → Int → Int → Nat → Prop, (∃ m, I1003 0 0 y1 m) ∧ ∀ y3 y4 y5 : Int, ∀ m3, ((0 ≤ y3 ∧ y3 ≤ 1) ∧ (0 ≤ y4 ∧ y4 ≤ 4611686018427387904) ∧ True ∧ True) → I1003 y3 y4 y5 m3 → (Pb (Pl y4 a) (Pb (Pe (rdZ y5 y4) 0) (Pm (PL (y4 + 1) 4611686018427387904) (∃ m', m' < m3 ∧ I1003 y3 (y4 + 1) y5 m')) (Pm (PL a e) (∃ I1007 : Int → Int → Int → Nat → Prop, (∃ m, I1007 y3 0 y5
 m) ∧ ∀ y7 y8 y9 : Int, ∀ m7, ((0 ≤ y7 ∧ y7 ≤ 1) ∧ (0 ≤ y8 ∧ y8 ≤ 4611686018427387904) ∧ True ∧ True) → I1007 y7 y8 y9 m7 → (Pb (Pl y8 (nxN d a y4)) (Pb (Pd (W6 (rdZ (nxZ d a y4) y8)) c) (Pm (PL 0 (W6 (rdZ (nxZ d a y4) y8))) (Pm (Pl (W6 (rdZ (nxZ d a y4) y8)) a) (Pb (Pe (rdZ y9 (W6 (rdZ (nxZ d a y4) y8))) 0) (Pm (PL (y8 + 1) 4611686018427387904) (∃ m', m' < m7 ∧ I1007 1 (y8 + 1) (updZ y9 (W6 (rdZ (nxZ d a y4) y8)) 1) m')) (Pm (PL (y8 + 1) 4611686018427387904) (∃ m', m' < m7 ∧ I1007 y7 (y8 + 1) y9 m'))))) (Pm (PL (y8 + 1) 4611686018427387904) (∃ m', m' < m7 ∧ I1007 y7 (y8 + 1) y9 m'))) (Pm (PL (y4 + 1) 4611686018427387904) (∃ m', m' < m3 ∧ I1003 y7 (y4 + 1) y9 m')))))) (∃ m', m' < m0 ∧ I1000 y3 y5 m'))) ((a : Int) = a ∧ qQd [.bool] y1 (gfmZ d a (kZ b (kZ c 0))) a ∧ True))))))))
set_option maxHeartbeats 4000000 in
theorem holds (n0 p1 p2 c0 r0 : Int) (l_n0 : 0 ≤ n0) (u_n0 : n0 ≤ 1000000) (l_p1 : -9223372036854775808 ≤ p1) (u_p1 : p1 ≤ 9223372036854775807) (l_p2 : -9223372036854775808 ≤ p2) (u_p2 : p2 ≤ 9223372036854775807) (h_n0 : n0 ≤ r0) (h_pre0 : qQz (decide (n0  ≤  1000)) ≠ 0) : P n0 p1 p2 c0 r0 := by
 delta P Pb Pm PL Pl Pe Pd W6 kZ
 simp only [nrm, nro, Int.reduceEq, Int.reduceNeg, reduceIte]
 have hn : n0 ≤ 1000 := by simpa [qQz] using h_pre0
 refine ⟨fun h => gfm_none hn (by omega), fun h1 => ⟨fun h => gfm_none hn (by omega), fun h2 => ⟨fun h => gfm_none hn (by omega), fun h3 => ⟨by omega, by omega, ?_⟩⟩⟩⟩
 refine ⟨fun ch q m => FmS c0 n0 p1 p2 q ∧ (ch = 0 → CloG c0 n0 p2 q n0) ∧ m = 2 * (n0.toNat - cntS q n0) + ch.toNat, ⟨_, fm_start (by omega) h3, fun h => by omega, rfl⟩, ?_⟩
 rintro ch q m ⟨c0', c1'⟩ ⟨hS, hC, rfl⟩
 refine ⟨fun hch => ?_, fun hch => fm_end hn (by omega) (by omega) hS (hC hch)⟩
 refine ⟨fun ch' p q' m => (0 ≤ p ∧ p ≤ n0) ∧ FmM c0 n0 p1 p2 q q' ch' p ∧ m = (n0 - p).toNat, ⟨_, ⟨by omega, by omega⟩, ⟨hS, by simp, fun _ x hx => by omega⟩, rfl⟩, ?_⟩
 rintro ch' p q' m ⟨⟨d0, d1⟩, -, -⟩ ⟨⟨p0, p9⟩, hM, rfl⟩
 refine ⟨fun hlt => ⟨fun h0 => ⟨by omega, _, ?_, ⟨by omega, by omega⟩, hM.skip p0 h0, rfl⟩, fun h0 => ⟨by omega, ?_⟩⟩, fun hge => ?_⟩
 ·omega
 ·refine ⟨fun ch2 k q2 m => (0 ≤ k ∧ k ≤ nxN c0 n0 p) ∧ FmI c0 n0 p1 p2 q q2 ch2 p k ∧ m = (nxN c0 n0 p - k).toNat, ⟨_, ⟨by omega, (nxN_bd c0 n0 p).1⟩, hM.in h0, rfl⟩, ?_⟩
  rintro ch2 k q2 m ⟨⟨e0, e1⟩, -, -⟩ ⟨⟨k0, k1⟩, hI, rfl⟩
  refine ⟨fun klt => ?_, fun kge => ⟨by omega, _, ?_, ⟨by omega, by omega⟩, hI.out p0 (by omega), rfl⟩⟩
  ·obtain ⟨t, ht, hw, htn⟩ := nx_at hn p0 k0 klt
   have hN := nxN_bd c0 n0 p
   simp only [hw]
   refine ⟨fun hb => ⟨by omega, by omega, fun hz => ⟨by omega, _, ?_, ⟨by omega, by omega⟩, hI.put p0 hlt ⟨e0, e1⟩ k0 ht hb hz, rfl⟩, fun hz => ⟨by omega, _, ?_, ⟨by omega, by omega⟩, hI.on k0 ht (.inr hz), rfl⟩⟩, fun hb => ⟨by omega, _, ?_, ⟨by omega, by omega⟩, hI.on k0 ht (.inl hb), rfl⟩⟩
   all_goals omega
  ·omega
 ·have e : p = n0 := by omega
  subst e
  have h1 := cntS_le q p
  have h2 := cntS_le q' p
  have h3 := hM.ct
  exact ⟨_, by omega, hM.s, hM.cl, rfl⟩
theorem plain (i v ro p) : statR 2 rc tree ⟨i, fN, v, ro, p⟩ = P (i 0) (i 1) (i 2) (i 3) (i 4) := by kernel_rfl
theorem ran : ranR us (fun f i => if f = 38 then (match i with | 9 => .tmpl (some mk38_9) | 14 => .tmpl (some mk38_14) | _ => .auto) else .auto) rc 2 tree = true := by kernel_rfl
theorem fineT : fineR 2 rc tree = true := by kernel_rfl
theorem ok : RcOk (cxOf 2) rc := okR us_ok ran fineT okb fun i v ro p hρ hcap hpre => by rw [plain]; have q := hρ.hi; exact holds _ _ _ _ _ (q 0 _ rfl).1 (q 0 _ rfl).2 (q 1 _ rfl).1 (q 1 _ rfl).2 (q 2 _ rfl).1 (q 2 _ rfl).2 (hcap _ (mg 0 rfl)) (hpre _ (mg 0 rfl))
end CRFrom18
namespace CRReached18
def rc : Rc := ⟨22, [none], [.row [.int .u32] 1000000], [(.b .le .i64 (.v 0) (.c 1000))], .one, [.row [.bool] 4 (.f 164 (.v 1) (.v 0) (.f 11 (.c 0) (.f 11 (.c (-1)) (.c 0) (.c 0)) (.c 0))) (.v 0)]⟩
theorem okb : rc.ok = true := by kernel_rfl
noncomputable def us : SMs := fun Γ ins n => smH (cxG n Γ ins) [] (smR (cxG n Γ ins) [CRFrom18.rc])
theorem us_ok : SMsOk us := fun Γ ins n => qXu (tabsG n Γ ins) (qJp _) (qXm (tabsG n Γ ins) (qQp CRFrom18.okb (rc_n CRFrom18.ok) (qJs _)))
def tree : TT (List E) :=
(.br (.b .le .i64 (.v 0) (.v 2))
 (.br (.b .le .i64 (.v 0) (.c 1000))
 (.leaf [(.v 0), (.f 164 (.v 1) (.v 0) (.f 11 (.c 0) (.f 11 (.c (-1)) (.c 0) (.c 0)) (.c 0)))])
 (.bad 200))
 (.bad 200))
def P (n0 c0 r0 : Int) : Prop :=
 (((qQz (decide (n0 ≤ r0))) ≠ 0 →
  (((qQz (decide (n0 ≤ 1000))) ≠ 0 →
   (n0 : Int) = n0 ∧ qQd [.bool] (gfmZ c0 n0 (qQq 0 (qQq (-1) 0))) (gfmZ c0 n0 (qQq 0 (qQq (-1) 0))) n0 ∧ True) ∧ ((qQz (decide (n0 ≤ 1000))) = 0 →
   False))) ∧ ((qQz (decide (n0 ≤ r0))) = 0 →
  False))
theorem holds (n0 c0 r0 : Int) (l_n0 : 0 ≤ n0) (u_n0 : n0 ≤ 1000000) (h_n0 : n0 ≤ r0) (h_pre0 : qQz (decide (n0  ≤  1000)) ≠ 0) : P n0 c0 r0 := by
 unfold P
 simp only [nrm, nro, Int.reduceEq, Int.reduceNeg, reduceIte]
 have hn : n0 ≤ 1000 := by simpa [qQz] using h_pre0
 exact ⟨h_n0, hn, fun i _ => rfl⟩
theorem plain (i v ro p) : statR 2 rc tree ⟨i, fN, v, ro, p⟩ = P (i 0) (i 1) (i 2) := by kernel_rfl
theorem ran : ranR us (fun _ _ => .auto) rc 2 tree = true := by kernel_rfl
theorem fineT : fineR 2 rc tree = true := by kernel_rfl
theorem ok : RcOk (cxOf 2) rc := okR us_ok ran fineT okb fun i v ro p hρ hcap hpre => by rw [plain]; have q := hρ.hi; exact holds _ _ _ (q 0 _ rfl).1 (q 0 _ rfl).2 (hcap _ (mg 0 rfl)) (hpre _ (mg 0 rfl))
end CRReached18
end Go.Proofs.YtppkkgicidagmaaDoor
