/-
  What functions of the program answer, as numbers of what they are handed: their runs by the engine, the plain statements behind them. No condition.
-/
import Derived.Test.YtppkkgicidagmabGreatDoorGab
import Derived.Test.YtppkkgicidagmabGreatDoorGp2
set_option linter.unusedVariables false
set_option linter.unusedSimpArgs false
set_option maxRecDepth 100000
namespace Go.Proofs.YtppkkgicidagmabGreatDoor
open Go.Eng Go.RowKit
namespace CCDec
def rc : Rc := ⟨15, [none], [.int .u32], [], .tup [some 5, none], [.int .i64 (.f 67 (.v 0) (.c 0) (.c 0)), .int .i64 (.f 67 (.v 0) (.c 1) (.c 0)), .int .i64 (.f 67 (.v 0) (.c 2) (.c 0)), .int .i64 (.f 67 (.v 0) (.c 3) (.c 0)), .int .i64 (.f 67 (.v 0) (.c 4) (.c 0)), .int .i64 (.f 67 (.v 0) (.c 5) (.c 0))]⟩
theorem okb : rc.ok = true := by kernel_rfl
noncomputable def us : SMs := fun Γ ins n => smH (cxG n Γ ins) [] (smR (cxG n Γ ins) [])
theorem us_ok : SMsOk us := fun Γ ins n => smH_ok (tabsG n Γ ins) (qKh _) (smR_ok (tabsG n Γ ins) (qKi _))
def Q0 : E := (.b .shr .u32 (.v 0) (.c 26))
def Q1 : E := (.b .shr .u32 (.v 0) (.c 21))
def Q2 : E := (.b .and .u32 Q1 (.c 31))
def Q3 : E := (.b .and .u32 Q2 (.c 31))
def Q4 : E := (.b .shl .u32 Q0 (.c 26))
def Q5 : E := (.b .shl .u32 (.cl 1000 0 31) (.c 21))
def Q6 : E := (.b .or .u32 Q4 Q5)
def Q7 : E := (.b .shr .u32 (.v 0) (.c 16))
def Q8 : E := (.b .and .u32 Q7 (.c 31))
def Q9 : E := (.b .and .u32 Q8 (.c 31))
def Q10 : E := (.b .shr .u32 (.v 0) (.c 11))
def Q11 : E := (.b .and .u32 Q10 (.c 31))
def Q12 : E := (.cl 1001 0 4294967295)
def Q13 : E := (.b .shl .u32 (.cl 1002 0 31) (.c 16))
def Q14 : E := (.b .or .u32 Q12 Q13)
def Q15 : E := (.b .or .u32 Q14 (.c 0))
def Q16 : E := (.cl 1003 0 4294967295)
def Q17 : E := (.b .shr .u32 (.v 0) (.c 0))
def Q18 : E := (.b .and .u32 Q17 (.c 65535))
def Q19 : E := (.w .i16 Q18)
def Q20 : E := (.b .and .u32 Q18 (.c 65535))
def Q21 : E := (.b .or .u32 Q12 (.c 0))
def Q22 : E := (.b .or .u32 Q21 (.c 0))
def Q23 : E := (.b .shl .u32 (.cl 1002 0 65535) (.c 0))
def Q24 : E := (.b .or .u32 Q22 Q23)
def Q25 : E := (tn Q16 (.v 0))
def Q26 : E := (.b .or .u32 Q4 (.c 0))
def Q27 : E := (.cl 1000 0 4294967295)
def Q28 : E := (.b .or .u32 Q27 (.c 0))
def Q29 : E := (.b .or .u32 Q28 (.c 0))
def tree : TT (List E) :=
 (.br (tl (.c 1) Q0) (.br (.nt (tl Q0 (.c 43))) (.leaf [(.c 0), (.c 0), (.c 0), (.c 0), (.c 0), (.c 2)]) (.br (tl Q0 (.c 23)) (.new 1000 Q3 (.new 1001 Q6 (.new 1002 Q9 (.new 1003 (.b .and .u32 Q11 (.c 31)) (.new 1004 (.b .or .u32 Q14 (.b .shl .u32 (.cl 1003 0 31) (.c 11))) (.br (tn (.b .or .u32 (.cl 1004 0 4294967295) (.c 0)) (.v 0)) (.leaf [(.c 0), (.c 0), (.c 0), (.c 0), (.c 0), (.c 3)]) (.leaf [Q0, Q2, Q8, Q11, (.c 0), (.c 0)]))))))) (.br (tl Q0 (.c 30)) (.new 1000 Q3 (.new 1001 Q6 (.new 1002 Q9 (.new 1003 Q15 (.br (tn (.b .or .u32 Q16 (.c 0)) (.v 0)) (.leaf [(.c 0), (.c 0), (.c 0), (.c 0), (.c 0), (.c 3)]) (.leaf [Q0, Q2, Q8, (.c 0), (.c 0), (.c 0)])))))) (.br (te Q0 (.c 31)) (.new 1000 Q3 (.new 1001 Q6 (.new 1002 Q9 (.new 1003 Q15 (.new 1004 Q19 (.new 1005 (.b .shl .u32 (.b .and .u32
 (.w .u32 (.cl 1004 (-32768) 32767)) (.c 65535)) (.c 0)) (.br (tn (.b .or .u32 Q16 (.cl 1005 0 65535)) (.v 0)) (.leaf [(.c 0), (.c 0), (.c 0), (.c 0), (.c 0), (.c 3)]) (.leaf [Q0, Q2, Q8, (.c 0), Q19, (.c 0)])))))))) (.br (te Q0 (.c 33)) (.new 1000 Q3 (.new 1001 Q6 (.new 1002 Q20 (.new 1003 Q24 (.br Q25 (.leaf [(.c 0), (.c 0), (.c 0), (.c 0), (.c 0), (.c 3)]) (.leaf [Q0, Q2, (.c 0), (.c 0), Q18, (.c 0)])))))) (.br (te Q0 (.c 40)) (.new 1000 Q3 (.new 1001 Q6 (.new 1002 Q20 (.new 1003 Q24 (.br Q25 (.leaf [(.c 0), (.c 0), (.c 0), (.c 0), (.c 0), (.c 3)]) (.leaf [Q0, Q2, (.c 0), (.c 0), Q18, (.c 0)])))))) (.br (tk Q0 (.c 39)) (.new 1000 Q3 (.new 1001 Q6 (.new 1002 Q9 (.new 1003 Q15 (.new 1004 Q20 (.br (tn (.b .or .u32 Q16 (.b .shl .u32 (.cl 1004 0 65535) (.c 0))) (.v 0)) (.leaf [(.c 0), (.c
 0), (.c 0), (.c 0), (.c 0), (.c 3)]) (.leaf [Q0, Q2, Q8, (.c 0), Q18, (.c 0)]))))))) (.br (te Q0 (.c 39)) (.new 1000 Q26 (.new 1001 Q20 (.new 1002 (.b .or .u32 Q29 (.b .shl .u32 (.cl 1001 0 65535) (.c 0))) (.br (tn (.cl 1002 0 4294967295) (.v 0)) (.leaf [(.c 0), (.c 0), (.c 0), (.c 0), (.c 0), (.c 3)]) (.leaf [Q0, (.c 0), (.c 0), (.c 0), Q18, (.c 0)]))))) (.br (te Q0 (.c 41)) (.new 1000 Q26 (.new 1001 Q9 (.new 1002 (.b .or .u32 (.b .or .u32 Q27 (.b .shl .u32 (.cl 1001 0 31) (.c 16))) (.c 0)) (.br (tn (.b .or .u32 (.cl 1002 0 4294967295) (.c 0)) (.v 0)) (.leaf [(.c 0), (.c 0), (.c 0), (.c 0), (.c 0), (.c 3)]) (.leaf [Q0, (.c 0), Q8, (.c 0), (.c 0), (.c 0)]))))) (.new 1000 Q26 (.new 1001 (.b .or .u32 Q29 (.c 0)) (.br (tn Q12 (.v 0)) (.leaf [(.c 0), (.c 0), (.c 0), (.c 0), (.c 0), (.c 3)])
 (.leaf [Q0, (.c 0), (.c 0), (.c 0), (.c 0), (.c 0)]))))))))))))) (.leaf [(.c 0), (.c 0), (.c 0), (.c 0), (.c 0), (.c 2)]))
noncomputable def sq0 (a y0 : Int) : Int := (bor .u32 (shlZ .u32 (shrZ .u32 a 26) 26) (shlZ .u32 y0 21))
def sL0 (a z0 z2 z4 z6 z8 z10 : Int) : Prop := (z0 : Int) = (decZ a 0) ∧ (z2 : Int) = (decZ a 1) ∧ (z4 : Int) = (decZ a 2) ∧ (z6 : Int) = (decZ a 3) ∧ (z8 : Int) = (decZ a 4) ∧ (z10 : Int) = (decZ a 5) ∧ True
def sq1 (a : Int) : Prop := (Pn (band .u32 (band .u32 (shrZ .u32 a 21) 31) 31) 0 31 fun y0 => Pn (sq0 a y0) 0 4294967295 fun y1 => Pn (band .u32 (band .u32 (shrZ .u32 a 0) 65535) 65535) 0 65535 fun y2 => Pn (bor .u32 (bor .u32 (bor .u32 y1 0) 0) (shlZ .u32 y2 0)) 0 4294967295 fun y3 => (Pb (Pd y3 a) (sL0 a 0 0 0 0 0 3) (sL0 a (shrZ .u32 a 26) (band .u32 (shrZ .u32 a 21) 31) 0 0 (band .u32 (shrZ .u32 a 0) 65535) 0)))
def P (a : Int) : Prop :=
 (Pb (PL 1 (shrZ .u32 a 26)) (Pb (Pe (PL (shrZ .u32 a 26) 43) 0) (sL0 a 0 0 0 0 0 2) (Pb (PL (shrZ .u32 a 26) 23) (Pn (band .u32 (band .u32 (shrZ .u32 a 21) 31) 31) 0 31 fun y0 => Pn (sq0 a y0) 0 4294967295 fun y1 => Pn (band .u32 (band .u32 (shrZ .u32 a 16) 31) 31) 0 31 fun y2 => Pn (band .u32 (band .u32 (shrZ .u32 a 11) 31) 31) 0 31 fun y3 => Pn (bor .u32 (bor .u32 y1 (shlZ .u32 y2 16)) (shlZ .u32 y3 11)) 0 4294967295 fun y4 => (Pb (Pd (bor .u32 y4 0) a) (sL0 a 0 0 0 0 0 3) (sL0 a (shrZ .u32 a 26) (band .u32 (shrZ .u32 a 21) 31) (band .u32 (shrZ .u32 a 16) 31) (band .u32 (shrZ .u32 a 11) 31) 0 0))) (Pb (PL (shrZ .u32 a 26) 30) (Pn (band .u32 (band .u32 (shrZ .u32 a 21) 31) 31) 0 31 fun y0 => Pn (sq0 a y0) 0 4294967295 fun y1 => Pn (band .u32 (band .u32 (shrZ .u32 a 16) 31) 31) 0 31 fun
 y2 => Pn (bor .u32 (bor .u32 y1 (shlZ .u32 y2 16)) 0) 0 4294967295 fun y3 => (Pb (Pd (bor .u32 y3 0) a) (sL0 a 0 0 0 0 0 3) (sL0 a (shrZ .u32 a 26) (band .u32 (shrZ .u32 a 21) 31) (band .u32 (shrZ .u32 a 16) 31) 0 0 0))) (Pb (Pe (shrZ .u32 a 26) 31) (Pn (band .u32 (band .u32 (shrZ .u32 a 21) 31) 31) 0 31 fun y0 => Pn (sq0 a y0) 0 4294967295 fun y1 => Pn (band .u32 (band .u32 (shrZ .u32 a 16) 31) 31) 0 31 fun y2 => Pn (bor .u32 (bor .u32 y1 (shlZ .u32 y2 16)) 0) 0 4294967295 fun y3 => Pn (IntKind.wrap .i16 (band .u32 (shrZ .u32 a 0) 65535)) (-32768) 32767 fun y4 => Pn (shlZ .u32 (band .u32 (U3 y4) 65535) 0) 0 65535 fun y5 => (Pb (Pd (bor .u32 y3 y5) a) (sL0 a 0 0 0 0 0 3) (sL0 a (shrZ .u32 a 26) (band .u32 (shrZ .u32 a 21) 31) (band .u32 (shrZ .u32 a 16) 31) 0 (IntKind.wrap .i16 (band
 .u32 (shrZ .u32 a 0) 65535)) 0))) (Pb (Pe (shrZ .u32 a 26) 33) (sq1 a) (Pb (Pe (shrZ .u32 a 26) 40) (sq1 a) (Pb (Pl (shrZ .u32 a 26) 39) (Pn (band .u32 (band .u32 (shrZ .u32 a 21) 31) 31) 0 31 fun y0 => Pn (sq0 a y0) 0 4294967295 fun y1 => Pn (band .u32 (band .u32 (shrZ .u32 a 16) 31) 31) 0 31 fun y2 => Pn (bor .u32 (bor .u32 y1 (shlZ .u32 y2 16)) 0) 0 4294967295 fun y3 => Pn (band .u32 (band .u32 (shrZ .u32 a 0) 65535) 65535) 0 65535 fun y4 => (Pb (Pd (bor .u32 y3 (shlZ .u32 y4 0)) a) (sL0 a 0 0 0 0 0 3) (sL0 a (shrZ .u32 a 26) (band .u32 (shrZ .u32 a 21) 31) (band .u32 (shrZ .u32 a 16) 31) 0 (band .u32 (shrZ .u32 a 0) 65535) 0))) (Pb (Pe (shrZ .u32 a 26) 39) (Pn (bor .u32 (shlZ .u32 (shrZ .u32 a 26) 26) 0) 0 4294967295 fun y0 => Pn (band .u32 (band .u32 (shrZ .u32 a 0) 65535) 65535) 0
 65535 fun y1 => Pn (bor .u32 (bor .u32 (bor .u32 y0 0) 0) (shlZ .u32 y1 0)) 0 4294967295 fun y2 => (Pb (Pd y2 a) (sL0 a 0 0 0 0 0 3) (sL0 a (shrZ .u32 a 26) 0 0 0 (band .u32 (shrZ .u32 a 0) 65535) 0))) (Pb (Pe (shrZ .u32 a 26) 41) (Pn (bor .u32 (shlZ .u32 (shrZ .u32 a 26) 26) 0) 0 4294967295 fun y0 => Pn (band .u32 (band .u32 (shrZ .u32 a 16) 31) 31) 0 31 fun y1 => Pn (bor .u32 (bor .u32 y0 (shlZ .u32 y1 16)) 0) 0 4294967295 fun y2 => (Pb (Pd (bor .u32 y2 0) a) (sL0 a 0 0 0 0 0 3) (sL0 a (shrZ .u32 a 26) 0 (band .u32 (shrZ .u32 a 16) 31) 0 0 0))) (Pn (bor .u32 (shlZ .u32 (shrZ .u32 a 26) 26) 0) 0 4294967295 fun y0 => Pn (bor .u32 (bor .u32 (bor .u32 y0 0) 0) 0) 0 4294967295 fun y1 => (Pb (Pd y1 a) (sL0 a 0 0 0 0 0 3) (sL0 a (shrZ .u32 a 26) 0 0 0 0 0)))))))))))) (sL0 a 0 0 0 0 0 2))
theorem wi16 (x : Int) : IntKind.wrap .i16 x = (x + 32768) % 65536 - 32768 := by
 simp [IntKind.wrap, IntKind.bits, IntKind.signed] <;> (try split) <;> omega
set_option maxHeartbeats 4000000 in
theorem holds (p0 : Int) (l_p0 : 0 ≤ p0) (u_p0 : p0 ≤ 4294967295) : P p0 := by
 delta P sq0 sq1 sL0 Pb Pn PL Pl Pe Pd U3
 simp only [sh26, sh21, sh16, sh11, sh0, sl26, sl21, sl16, sl11, sl0, ba31, ba16, wi16, wu32]
 simp only [nrm, Int.reduceEq, Int.reduceNeg, reduceIte]
 refine ⟨fun c1 => ⟨fun c2 => dec_no2 l_p0 u_p0 (by omega), fun c2 => ?_⟩, fun c1 => dec_no2 l_p0 u_p0 (by omega)⟩
 refine ⟨fun d0 => ?_, fun d0 => ?_⟩
 ·skip
  intro y0 hy0 by0 y1 hy1 by1 y2 hy2 by2 y3 hy3 by3 y4 hy4 by4
  have ey1 : y1 = p0 / 67108864 * 67108864 + y0 * 2097152 := by rw [hy1, or21 (h := p0 / 67108864 * 67108864 % 4294967296) (by omega) (by omega) (by omega) (by omega) (by omega)] <;> omega
  have ey4 : y4 = y1 + y2 * 65536 + y3 * 2048 := by rw [hy4, or16 (h := y1) (by omega) (by omega) (by omega) (by omega) (by omega), or11 (h := y1 + y2 * 65536 % 4294967296) (by omega) (by omega) (by omega) (by omega) (by omega)] <;> omega
  rw [or_0 (h := y4) (by omega) (by omega)]
  refine ⟨fun hne => dec_no3 l_p0 u_p0 (by omega) (by unfold decP; simp only; omega), fun heq => dec_fit l_p0 u_p0 (by unfold decP; simp only; omega) (by omega) (by omega) (by omega) (by split <;> omega) (by unfold decN; simp only; split <;> (try split) <;> omega)⟩
 refine ⟨fun d1 => ?_, fun d1 => ?_⟩
 ·skip
  intro y0 hy0 by0 y1 hy1 by1 y2 hy2 by2 y3 hy3 by3
  have ey1 : y1 = p0 / 67108864 * 67108864 + y0 * 2097152 := by rw [hy1, or21 (h := p0 / 67108864 * 67108864 % 4294967296) (by omega) (by omega) (by omega) (by omega) (by omega)] <;> omega
  have ey3 : y3 = y1 + y2 * 65536 := by rw [hy3, or16 (h := y1) (by omega) (by omega) (by omega) (by omega) (by omega), or_0 (h := y1 + y2 * 65536 % 4294967296) (by omega) (by omega)] <;> omega
  rw [or_0 (h := y3) (by omega) (by omega)]
  refine ⟨fun hne => dec_no3 l_p0 u_p0 (by omega) (by unfold decP; simp only; omega), fun heq => dec_fit l_p0 u_p0 (by unfold decP; simp only; omega) (by omega) (by omega) (by omega) (by split <;> omega) (by unfold decN; simp only; split <;> (try split) <;> omega)⟩
 refine ⟨fun d2 => ?_, fun d2 => ?_⟩
 ·skip
  intro y0 hy0 by0 y1 hy1 by1 y2 hy2 by2 y3 hy3 by3 y4 hy4 by4 y5 hy5 by5
  have ey1 : y1 = p0 / 67108864 * 67108864 + y0 * 2097152 := by rw [hy1, or21 (h := p0 / 67108864 * 67108864 % 4294967296) (by omega) (by omega) (by omega) (by omega) (by omega)] <;> omega
  have ey3 : y3 = y1 + y2 * 65536 := by rw [hy3, or16 (h := y1) (by omega) (by omega) (by omega) (by omega) (by omega), or_0 (h := y1 + y2 * 65536 % 4294967296) (by omega) (by omega)] <;> omega
  rw [or11 (h := y3) (by omega) (by omega) (by omega) (by omega) (by omega)]
  refine ⟨fun hne => dec_no3 l_p0 u_p0 (by omega) (by unfold decP; simp only; omega), fun heq => dec_fit l_p0 u_p0 (by unfold decP; simp only; omega) (by omega) (by omega) (by omega) (by split <;> omega) (by unfold decN; simp only; split <;> (try split) <;> omega)⟩
 refine ⟨fun d3 => ?_, fun d3 => ?_⟩
 ·skip
  intro y0 hy0 by0 y1 hy1 by1 y2 hy2 by2 y3 hy3 by3
  have ey1 : y1 = p0 / 67108864 * 67108864 + y0 * 2097152 := by rw [hy1, or21 (h := p0 / 67108864 * 67108864 % 4294967296) (by omega) (by omega) (by omega) (by omega) (by omega)] <;> omega
  have ey3 : y3 = y1 + y2 := by rw [hy3, or_0 (h := y1) (by omega) (by omega), or_0 (h := y1) (by omega) (by omega), or11 (h := y1) (by omega) (by omega) (by omega) (by omega) (by omega)] <;> omega
  refine ⟨fun hne => dec_no3 l_p0 u_p0 (by omega) (by unfold decP; simp only; omega), fun heq => dec_fit l_p0 u_p0 (by unfold decP; simp only; omega) (by omega) (by omega) (by omega) (by split <;> omega) (by unfold decN; simp only; split <;> (try split) <;> omega)⟩
 refine ⟨fun d4 => ?_, fun d4 => ?_⟩
 ·skip
  intro y0 hy0 by0 y1 hy1 by1 y2 hy2 by2 y3 hy3 by3
  have ey1 : y1 = p0 / 67108864 * 67108864 + y0 * 2097152 := by rw [hy1, or21 (h := p0 / 67108864 * 67108864 % 4294967296) (by omega) (by omega) (by omega) (by omega) (by omega)] <;> omega
  have ey3 : y3 = y1 + y2 := by rw [hy3, or_0 (h := y1) (by omega) (by omega), or_0 (h := y1) (by omega) (by omega), or11 (h := y1) (by omega) (by omega) (by omega) (by omega) (by omega)] <;> omega
  refine ⟨fun hne => dec_no3 l_p0 u_p0 (by omega) (by unfold decP; simp only; omega), fun heq => dec_fit l_p0 u_p0 (by unfold decP; simp only; omega) (by omega) (by omega) (by omega) (by split <;> omega) (by unfold decN; simp only; split <;> (try split) <;> omega)⟩
 refine ⟨fun d5 => ?_, fun d5 => ?_⟩
 ·skip
  intro y0 hy0 by0 y1 hy1 by1 y2 hy2 by2 y3 hy3 by3 y4 hy4 by4
  have ey1 : y1 = p0 / 67108864 * 67108864 + y0 * 2097152 := by rw [hy1, or21 (h := p0 / 67108864 * 67108864 % 4294967296) (by omega) (by omega) (by omega) (by omega) (by omega)] <;> omega
  have ey3 : y3 = y1 + y2 * 65536 := by rw [hy3, or16 (h := y1) (by omega) (by omega) (by omega) (by omega) (by omega), or_0 (h := y1 + y2 * 65536 % 4294967296) (by omega) (by omega)] <;> omega
  rw [or11 (h := y3) (by omega) (by omega) (by omega) (by omega) (by omega)]
  refine ⟨fun hne => dec_no3 l_p0 u_p0 (by omega) (by unfold decP; simp only; omega), fun heq => dec_fit l_p0 u_p0 (by unfold decP; simp only; omega) (by omega) (by omega) (by omega) (by split <;> omega) (by unfold decN; simp only; split <;> (try split) <;> omega)⟩
 refine ⟨fun d6 => ?_, fun d6 => ?_⟩
 ·skip
  intro y0 hy0 by0 y1 hy1 by1 y2 hy2 by2
  have ey0 : y0 = p0 / 67108864 * 67108864 := by rw [hy0, or_0 (h := p0 / 67108864 * 67108864 % 4294967296) (by omega) (by omega)] <;> omega
  have ey2 : y2 = y0 + y1 := by rw [hy2, or_0 (h := y0) (by omega) (by omega), or_0 (h := y0) (by omega) (by omega), or11 (h := y0) (by omega) (by omega) (by omega) (by omega) (by omega)] <;> omega
  refine ⟨fun hne => dec_no3 l_p0 u_p0 (by omega) (by unfold decP; simp only; omega), fun heq => dec_fit l_p0 u_p0 (by unfold decP; simp only; omega) (by omega) (by omega) (by omega) (by split <;> omega) (by unfold decN; simp only; split <;> (try split) <;> omega)⟩
 refine ⟨fun d7 => ?_, fun d7 => ?_⟩
 ·skip
  intro y0 hy0 by0 y1 hy1 by1 y2 hy2 by2
  have ey0 : y0 = p0 / 67108864 * 67108864 := by rw [hy0, or_0 (h := p0 / 67108864 * 67108864 % 4294967296) (by omega) (by omega)] <;> omega
  have ey2 : y2 = y0 + y1 * 65536 := by rw [hy2, or16 (h := y0) (by omega) (by omega) (by omega) (by omega) (by omega), or_0 (h := y0 + y1 * 65536 % 4294967296) (by omega) (by omega)] <;> omega
  rw [or_0 (h := y2) (by omega) (by omega)]
  refine ⟨fun hne => dec_no3 l_p0 u_p0 (by omega) (by unfold decP; simp only; omega), fun heq => dec_fit l_p0 u_p0 (by unfold decP; simp only; omega) (by omega) (by omega) (by omega) (by split <;> omega) (by unfold decN; simp only; split <;> (try split) <;> omega)⟩
 intro y0 hy0 by0 y1 hy1 by1
 have ey0 : y0 = p0 / 67108864 * 67108864 := by rw [hy0, or_0 (h := p0 / 67108864 * 67108864 % 4294967296) (by omega) (by omega)] <;> omega
 have ey1 : y1 = y0 := by rw [hy1, or_0 (h := y0) (by omega) (by omega), or_0 (h := y0) (by omega) (by omega), or_0 (h := y0) (by omega) (by omega)] <;> omega
 refine ⟨fun hne => dec_no3 l_p0 u_p0 (by omega) (by unfold decP; simp only; omega), fun heq => dec_fit l_p0 u_p0 (by unfold decP; simp only; omega) (by omega) (by omega) (by omega) (by split <;> omega) (by unfold decN; simp only; split <;> (try split) <;> omega)⟩
theorem plain (i v ro p) : statR 2 rc tree ⟨i, fN, v, ro, p⟩ = P (i 0) := by kernel_rfl
theorem ran : ranR us (fun f _ => if [28].contains f then .unroll 400 else .auto) rc 2 tree = true := by kernel_rfl
theorem fineT : fineR 2 rc tree = true := by kernel_rfl
theorem ok : RcOk (cxOf 2) rc := okR us_ok ran fineT okb fun i v ro p hρ hcap hpre => by rw [plain]; have q := hρ.hi; exact holds _ (q 0 _ rfl).1 (q 0 _ rfl).2
theorem decC (n : Nat) (Γ : List (Int × Int)) (ins : List InD) : DecC (cxG n Γ ins) 15 := decC_of (tabsG n Γ ins) (rc_n ok) (fun _ _ _ => rfl)
end CCDec
end Go.Proofs.YtppkkgicidagmabGreatDoor
