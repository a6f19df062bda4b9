/-
  What functions of the program answer, as numbers of what they are handed: their runs by the engine, the plain statements behind them. No condition.
-/
import Derived.Test.YteimodjkllldlaaGreatDoorKb
import Derived.Test.YteimodjkllldlaaGreatDoorKc
import Derived.Test.YteimodjkllldlaaGreatDoorGab
import Derived.Test.YteimodjkllldlaaGreatDoorGmJ
set_option linter.unusedVariables false
set_option linter.unusedSimpArgs false
set_option maxRecDepth 100000
namespace Go.Proofs.YteimodjkllldlaaGreatDoor
open Go.Eng Go.RowKit
namespace CFReckK
def rk : Rk := ⟨26, [(1, 30), (0, 31), (0, 31), (0, 31), (-32768, 65535), (-9223372036854775808, 9223372036854775807), (0, 0), (0, 16384), (0, 999999), (0, 2048)], 14, [.ptr 0 0, .agg [.int .i64 (.v 0), .int .i64 (.v 1), .int .i64 (.v 2), .int .i64 (.v 3), .int .i64 (.v 4)]], [.cells (([.sl (.own 1) 5 (.c 0) (.v 7) none] : List SV) ++ bkM (.v 11) ++ ([.sl (.own 2) 2 (.c 0) (.v 9) none, .sl (.own 3) 3 (.c 0) (.v 8) none, .int .i64 (.v 6), .int .i64 (.v 5)] : List SV)) 53 none, .arr [.int .i64, .int .i64, .int .i64, .int .i64, .int .i64] 55 (.v 10) (.v 7), .arr [.int .i32, .bool] 49 (.v 12) (.v 9), .arr [.int .i64, .int .i64, .int .i64] 44 (.v 13) (.v 8)], [(.f 13 (.f 13 (.v 11) (.v 2) (.c 0)) (.c 1) (.c 0))], .tup [], [.cells (([.sl (.own 1) 5 (.c 0) (.v 7) none] : List SV) ++ bkM (.v 1000000) ++ ([.sl (.own 2) 2 (.c 0) (.v 9) none, .sl (.own 4) 3 (.c 0) (.v 1000003) none, .int .i64 (.v 1000002), .int .i64 (.v 1000001)] : List SV)) 53 none, .arr [.int .i64, .int .i64, .int .i64, .int .i64, .int .i64] 55 (.v 10) (.v 7), .arr [.int .i32, .bool] 49 (.v 12) (.v 9), .gone, .arr [.int .i64, .int .i64, .int .i64] 44 (.v 1000004) (.v 1000003)], [.code [.int .i32, .bool] (.f 13 (.f 92 (.v 0) (.v 1) (qQv [(.v 2), (.v 3), (.v 4), (.v 9), (.v 11), (.v 12), (.v 5), (.v 6), (.v 13), (.v 8)])) (.c 0) (.c 0)) (.c 32), .num (.w .i64 (.f 13 (.f 92 (.v 0) (.v 1) (qQv [(.v 2), (.v 3), (.v 4), (.v 9), (.v 11), (.v 12), (.v 5), (.v 6), (.v 13), (.v 8)])) (.c 2) (.c 0))), .num (.w .i64 (.f 13 (.f 92 (.v 0) (.v 1) (qQv [(.v 2), (.v 3), (.v 4), (.v 9), (.v 11), (.v 12), (.v 5), (.v 6), (.v 13), (.v 8)])) (.c 3) (.c 0))), .num (.w .i64 (.f 13 (.f 92 (.v 0) (.v 1) (qQv [(.v 2), (.v 3), (.v 4), (.v 9), (.v 11), (.v 12), (.v 5), (.v 6), (.v 13), (.v 8)])) (.c 5) (.c 0))), .code [.int .i64, .int .i64, .int .i64] (.f 13 (.f 92 (.v 0) (.v 1) (qQv [(.v 2), (.v 3), (.v 4), (.v 9), (.v 11), (.v 12), (.v 5), (.v 6), (.v 13), (.v 8)])) (.c 4) (.c 0)) (.w .i64 (.f 13 (.f 92 (.v 0) (.v 1) (qQv [(.v 2), (.v 3), (.v 4), (.v 9), (.v 11), (.v 12), (.v 5), (.v 6), (.v 13), (.v 8)])) (.c 5) (.c 0)))], []⟩
theorem okk : rk.ok = true := by kernel_rfl
theorem okh : rk.rh.ok = true := by kernel_rfl
noncomputable def us : SMs := fun Γ ins n => smH (cxG n Γ ins) [CFPut.rk.rh] (smR (cxG n Γ ins) [CADo.rc, CACost.rc])
theorem us_ok : SMsOk us := fun Γ ins n => qZp (tabsG n Γ ins) (qJm CFPut.okh (rh_n CFPut.ok) (qZj _)) (qZm (tabsG n Γ ins) (qQo CADo.okb (rc_n CADo.ok) (qQo CACost.okb (rc_n CACost.ok) (qZx _))))
def Q0 : E := (tR (.v 11) (.v 3))
def Q1 : E := (.cl 1001 (-2147483648) 2147483647)
def Q2 : E := (te Q1 (.c 0))
def Q3 : E := (tR Q0 (.c 1))
def Q4 : E := (.nt Q3)
def Q5 : E := (tC (.c 0) (.c 0))
def Q6 : E := (tC (.c 0) Q5)
def Q7 : E := (.f 91 (.v 11) (.v 1) Q6)
def Q8 : E := (tp (.v 5) (.c 1))
def Q9 : E := (t6 Q8)
def Q10 : E := (tp (.v 8) (.c 1))
def Q11 : E := (.cl 1000 (-2147483648) 2147483647)
def Q12 : E := (.f 65 (.v 0) Q11 (.c 0))
def Q13 : E := (tC Q12 (.c 0))
def Q14 : E := (tC (.c (-1)) Q13)
def Q15 : E := (tC (.v 5) Q14)
def Q16 : E := (.f 14 (.v 13) (.v 8) Q15)
def Q17 : E := (.f 63 (.v 0) Q11 Q1)
def Q18 : E := (tC (.c 1) (.c 0))
def Q19 : E := (tC Q17 Q18)
def Q20 : E := (.f 91 (.v 11) (.v 1) Q19)
def Q21 : E := (te Q11 (.c 0))
def Q22 : E := (.f 63 (.v 0) Q11 Q11)
def Q23 : E := (tC Q22 Q18)
def Q24 : E := (.f 91 (.v 11) (.v 1) Q23)
def tree : TT (List E) :=
 (.new 1000 (t3 (tR (tR (.v 11) (.v 2)) (.c 0))) (.new 1001 (t3 (tR Q0 (.c 0))) (.br (tl (.v 0) (.c 23)) (.br (te (.v 0) (.c 22)) (.br Q2 (.leaf [(.v 11), (.v 5), (.c 5), (.v 8), (.v 13)]) (.br Q4 (.leaf [Q7, Q9, (.v 6), Q10, Q16]) (.leaf [Q20, Q9, (.v 6), Q10, Q16]))) (.br (te (.v 0) (.c 23)) (.br Q2 (.leaf [(.v 11), (.v 5), (.c 5), (.v 8), (.v 13)]) (.br Q4 (.leaf [Q7, Q9, (.v 6), Q10, Q16]) (.leaf [Q20, Q9, (.v 6), Q10, Q16]))) (.br Q4 (.leaf [Q7, Q9, (.v 6), Q10, Q16]) (.leaf [Q20, Q9, (.v 6), Q10, Q16])))) (.br (te (.v 0) (.c 22)) (.br Q21 (.leaf [(.v 11), (.v 5), (.c 5), (.v 8), (.v 13)]) (.leaf [Q24, Q9, (.v 6), Q10, Q16])) (.br (te (.v 0) (.c 23)) (.br Q21 (.leaf [(.v 11), (.v 5), (.c 5), (.v 8), (.v 13)]) (.leaf [Q24, Q9, (.v 6), Q10, Q16])) (.leaf [Q24, Q9, (.v 6), Q10,
 Q16]))))))
noncomputable def sq0 (o i f a y0 : Int) : Int := (updZ o i (kZ f (kZ (-1) (kZ (aluC a y0) 0))))
def sL0 (a b c d e j l n f g o i z0 z3 z5 z7 z9 : Int) : Prop := qZa [.int .i32, .bool] z0 (rdZ (fdoZ a b (kZ c (kZ d (kZ e (kZ j (kZ l (kZ n (kZ f (kZ g (kZ o (kZ i 0))))))))))) 0) 32 ∧ (z3 : Int) = (W6 (rdZ (fdoZ a b (kZ c (kZ d (kZ e (kZ j (kZ l (kZ n (kZ f (kZ g (kZ o (kZ i 0))))))))))) 2)) ∧ (z5 : Int) = (W6 (rdZ (fdoZ a b (kZ c (kZ d (kZ e (kZ j (kZ l (kZ n (kZ f (kZ g (kZ o (kZ i 0))))))))))) 3)) ∧ (z7 : Int) = (W6 (rdZ (fdoZ a b (kZ c (kZ d (kZ e (kZ j (kZ l (kZ n (kZ f (kZ g (kZ o (kZ i 0))))))))))) 5)) ∧ qZa [.int .i64, .int .i64, .int .i64] z9 (rdZ (fdoZ a b (kZ c (kZ d (kZ e (kZ j (kZ l (kZ n (kZ f (kZ g (kZ o (kZ i 0))))))))))) 4) (W6 (rdZ (fdoZ a b (kZ c (kZ d (kZ e (kZ j (kZ l (kZ n (kZ f (kZ g (kZ o (kZ i 0))))))))))) 5)) ∧ True
def sq1 (l d a b c e j n f g o i y0 y1 : Int) : Prop := (Pb (Pe (rdZ (rdZ l d) 1) 0) (sL0 a b c d e j l n f g o i (fpuZ l b (kZ 0 (kZ 0 0))) (W6 (f + 1)) g (i + 1) (sq0 o i f a y0)) (sL0 a b c d e j l n f g o i (fpuZ l b (kZ (aluV a y0 y1) (kZ 1 0))) (W6 (f + 1)) g (i + 1) (sq0 o i f a y0)))
def P (a b c d e f g h i j k l n o : Int) : Prop :=
 Pn (W3 (rdZ (rdZ l c) 0)) (-2147483648) 2147483647 fun y0 => Pn (W3 (rdZ (rdZ l d) 0)) (-2147483648) 2147483647 fun y1 => (Pb (PL a 23) (Pb (Pe a 22) (Pb (Pe y1 0) (sL0 a b c d e j l n f g o i l f 5 i o) (sq1 l d a b c e j n f g o i y0 y1)) (Pb (Pe a 23) (Pb (Pe y1 0) (sL0 a b c d e j l n f g o i l f 5 i o) (sq1 l d a b c e j n f g o i y0 y1)) (sq1 l d a b c e j n f g o i y0 y1))) (Pb (Pe a 22) (Pb (Pe y0 0) (sL0 a b c d e j l n f g o i l f 5 i o) (sL0 a b c d e j l n f g o i (fpuZ l b (kZ (aluV a y0 y0) (kZ 1 0))) (W6 (f + 1)) g (i + 1) (sq0 o i f a y0))) (Pb (Pe a 23) (Pb (Pe y0 0) (sL0 a b c d e j l n f g o i l f 5 i o) (sL0 a b c d e j l n f g o i (fpuZ l b (kZ (aluV a y0 y0) (kZ 1 0))) (W6 (f + 1)) g (i + 1) (sq0 o i f a y0))) (sL0 a b c d e j l n f g o i (fpuZ l b (kZ (aluV a y0
 y0) (kZ 1 0))) (W6 (f + 1)) g (i + 1) (sq0 o i f a y0)))))
theorem holds (op d a b n pc st nc nm nr cq rg rm mq : Int) (l_op : 1 ≤ op) (u_op : op ≤ 30) (l_d : 0 ≤ d) (u_d : d ≤ 31) (l_a : 0 ≤ a) (u_a : a ≤ 31) (l_b : 0 ≤ b) (u_b : b ≤ 31) (l_n : -32768 ≤ n) (u_n : n ≤ 65535) (l_pc : -9223372036854775808 ≤ pc) (u_pc : pc ≤ 9223372036854775807) (l_st : 0 ≤ st) (u_st : st ≤ 0) (l_nc : 0 ≤ nc) (u_nc : nc ≤ 16384) (l_nm : 0 ≤ nm) (u_nm : nm ≤ 999999) (l_nr : 0 ≤ nr) (u_nr : nr ≤ 2048) (h_pre0 : (rdZ (rdZ rg a) 1) ≠ 0) : P op d a b n pc st nc nm nr cq rg rm mq := by
 delta P sq0 sq1 sL0 Pb Pn PL Pe W6 W3 kZ
 simp only [nrm, Int.reduceEq, Int.reduceNeg, reduceIte]
 have ka : rdZ (rdZ rg a) 1 ≠ 0 := h_pre0
 have hpc : I64 pc := ⟨l_pc, u_pc⟩
 have hp1 : I64 (IntKind.wrap .i64 (pc + 1)) := i64_in _
 have hst : I64 st := by unfold I64; omega
 have hnm : I64 nm := by unfold I64; omega
 have hn1 : I64 (nm + 1) := by unfold I64; omega
 have hn0 : I64 n := by unfold I64; omega
 have h5 : I64 5 := by unfold I64; omega
 rintro _ rfl - _ rfl -
 have fr : ∀ {B}, B = (if op ≤ 23 then b else a) → Fm.does ⟨rg, rm, pc, st, mq, nm⟩ nr op d a b n = Fm.reck ⟨rg, rm, pc, st, mq, nm⟩ op d a B := fun hB => fdo_reck u_op hB
 have tr : ∀ {B}, B = (if op ≤ 23 then b else a) → (op = 22 ∨ op = 23) → IntKind.wrap .i32 (rdZ (rdZ rg B) 0) = 0 → _ := fun {B} hB h hx => qXb ((fr hB).trans (reck_no h hx)) hpc h5 hnm
 have un : ∀ {B}, B = (if op ≤ 23 then b else a) → ¬ ((op = 22 ∨ op = 23) ∧ IntKind.wrap .i32 (rdZ (rdZ rg B) 0) = 0) → (rdZ (rdZ rg a) 1 = 0 ∨ rdZ (rdZ rg B) 1 = 0) → _ := fun {B} hB h hx => qXb ((fr hB).trans (reck_un h hx)) hp1 hst hn1
 have kn : ∀ {B}, B = (if op ≤ 23 then b else a) → ¬ ((op = 22 ∨ op = 23) ∧ IntKind.wrap .i32 (rdZ (rdZ rg B) 0) = 0) → rdZ (rdZ rg a) 1 ≠ 0 → rdZ (rdZ rg B) 1 ≠ 0 → _ := fun {B} hB h hx hy => qXb ((fr hB).trans (reck_kn h hx hy)) hp1 hst hn1
 refine ⟨fun h => ?_, fun h => ?_⟩
 ·have hB : b = (if op ≤ 23 then b else a) := (if_pos h).symm
  refine ⟨fun g => ⟨fun z => tr hB (.inl g) z, fun z => ⟨fun kb => un hB (fun e => z e.2) (.inr kb), fun kb => kn hB (fun e => z e.2) ka kb⟩⟩, fun g => ?_⟩
  refine ⟨fun g2 => ⟨fun z => tr hB (.inr g2) z, fun z => ⟨fun kb => un hB (fun e => z e.2) (.inr kb), fun kb => kn hB (fun e => z e.2) ka kb⟩⟩, fun g2 => ?_⟩
  have hne : ∀ Q : Prop, ¬ ((op = 22 ∨ op = 23) ∧ Q) := fun Q e => e.1.elim g g2
  exact ⟨fun kb => un hB (hne _) (.inr kb), fun kb => kn hB (hne _) ka kb⟩
 ·have hB : a = (if op ≤ 23 then b else a) := (if_neg (by omega)).symm
  have hne : ∀ Q : Prop, ¬ ((op = 22 ∨ op = 23) ∧ Q) := fun Q e => by omega
  exact ⟨fun g => by omega, fun g => ⟨fun g2 => by omega, fun g2 => kn hB (hne _) ka ka⟩⟩
theorem plain (i v ro p) : statH 2 rk tree ⟨i, fN, v, ro, p⟩ = P (i 0) (i 1) (i 2) (i 3) (i 4) (i 5) (i 6) (i 7) (i 8) (i 9) (i 10) (i 11) (i 12) (i 13) := by kernel_rfl
theorem ran : ranH us (fun _ _ => .auto) rk 2 tree = true := by kernel_rfl
theorem fineT : fineH 2 rk tree = true := by kernel_rfl
theorem ok : RhOk (cxOf 2) rk.rh := okH us_ok ran fineT (by kernel_rfl) okk fun i v ro p hρ hpre => by rw [plain]; have q := hρ.hi; exact holds _ _ _ _ _ _ _ _ _ _ _ _ _ _ (q 0 _ rfl).1 (q 0 _ rfl).2 (q 1 _ rfl).1 (q 1 _ rfl).2 (q 2 _ rfl).1 (q 2 _ rfl).2 (q 3 _ rfl).1 (q 3 _ rfl).2 (q 4 _ rfl).1 (q 4 _ rfl).2 (q 5 _ rfl).1 (q 5 _ rfl).2 (q 6 _ rfl).1 (q 6 _ rfl).2 (q 7 _ rfl).1 (q 7 _ rfl).2 (q 8 _ rfl).1 (q 8 _ rfl).2 (q 9 _ rfl).1 (q 9 _ rfl).2 (hpre _ (mg 0 rfl))
end CFReckK
namespace CFReckU
def rk : Rk := ⟨26, [(1, 30), (0, 31), (0, 31), (0, 31), (-32768, 65535), (-9223372036854775808, 9223372036854775807), (0, 0), (0, 16384), (0, 999999), (0, 2048)], 14, [.ptr 0 0, .agg [.int .i64 (.v 0), .int .i64 (.v 1), .int .i64 (.v 2), .int .i64 (.v 3), .int .i64 (.v 4)]], [.cells (([.sl (.own 1) 5 (.c 0) (.v 7) none] : List SV) ++ bkM (.v 11) ++ ([.sl (.own 2) 2 (.c 0) (.v 9) none, .sl (.own 3) 3 (.c 0) (.v 8) none, .int .i64 (.v 6), .int .i64 (.v 5)] : List SV)) 53 none, .arr [.int .i64, .int .i64, .int .i64, .int .i64, .int .i64] 55 (.v 10) (.v 7), .arr [.int .i32, .bool] 49 (.v 12) (.v 9), .arr [.int .i64, .int .i64, .int .i64] 44 (.v 13) (.v 8)], [(.nt (.f 13 (.f 13 (.v 11) (.v 2) (.c 0)) (.c 1) (.c 0)))], .tup [], [.cells (([.sl (.own 1) 5 (.c 0) (.v 7) none] : List SV) ++ bkM (.v 1000000) ++ ([.sl (.own 2) 2 (.c 0) (.v 9) none, .sl (.own 4) 3 (.c 0) (.v 1000003) none, .int .i64 (.v 1000002), .int .i64 (.v 1000001)] : List SV)) 53 none, .arr [.int .i64, .int .i64, .int .i64, .int .i64, .int .i64] 55 (.v 10) (.v 7), .arr [.int .i32, .bool] 49 (.v 12) (.v 9), .gone, .arr [.int .i64, .int .i64, .int .i64] 44 (.v 1000004) (.v 1000003)], [.code [.int .i32, .bool] (.f 13 (.f 92 (.v 0) (.v 1) (qQv [(.v 2), (.v 3), (.v 4), (.v 9), (.v 11), (.v 12), (.v 5), (.v 6), (.v 13), (.v 8)])) (.c 0) (.c 0)) (.c 32), .num (.w .i64 (.f 13 (.f 92 (.v 0) (.v 1) (qQv [(.v 2), (.v 3), (.v 4), (.v 9), (.v 11), (.v 12), (.v 5), (.v 6), (.v 13), (.v 8)])) (.c 2) (.c 0))), .num (.w .i64 (.f 13 (.f 92 (.v 0) (.v 1) (qQv [(.v 2), (.v 3), (.v 4), (.v 9), (.v 11), (.v 12), (.v 5), (.v 6), (.v 13), (.v 8)])) (.c 3) (.c 0))), .num (.w .i64 (.f 13 (.f 92 (.v 0) (.v 1) (qQv [(.v 2), (.v 3), (.v 4), (.v 9), (.v 11), (.v 12), (.v 5), (.v 6), (.v 13), (.v 8)])) (.c 5) (.c 0))), .code [.int .i64, .int .i64, .int .i64] (.f 13 (.f 92 (.v 0) (.v 1) (qQv [(.v 2), (.v 3), (.v 4), (.v 9), (.v 11), (.v 12), (.v 5), (.v 6), (.v 13), (.v 8)])) (.c 4) (.c 0)) (.w .i64 (.f 13 (.f 92 (.v 0) (.v 1) (qQv [(.v 2), (.v 3), (.v 4), (.v 9), (.v 11), (.v 12), (.v 5), (.v 6), (.v 13), (.v 8)])) (.c 5) (.c 0)))], []⟩
theorem okk : rk.ok = true := by kernel_rfl
theorem okh : rk.rh.ok = true := by kernel_rfl
noncomputable def us : SMs := fun Γ ins n => smH (cxG n Γ ins) [CFPut.rk.rh] (smR (cxG n Γ ins) [CADo.rc, CACost.rc])
theorem us_ok : SMsOk us := fun Γ ins n => qZp (tabsG n Γ ins) (qJm CFPut.okh (rh_n CFPut.ok) (qZj _)) (qZm (tabsG n Γ ins) (qQo CADo.okb (rc_n CADo.ok) (qQo CACost.okb (rc_n CACost.ok) (qZx _))))
def Q0 : E := (.cl 1001 (-2147483648) 2147483647)
def Q1 : E := (te Q0 (.c 0))
def Q2 : E := (tC (.c 0) (.c 0))
def Q3 : E := (tC (.c 0) Q2)
def Q4 : E := (.f 91 (.v 11) (.v 1) Q3)
def Q5 : E := (tp (.v 5) (.c 1))
def Q6 : E := (t6 Q5)
def Q7 : E := (tp (.v 8) (.c 1))
def Q8 : E := (.cl 1000 (-2147483648) 2147483647)
def Q9 : E := (.f 65 (.v 0) Q8 (.c 0))
def Q10 : E := (tC Q9 (.c 0))
def Q11 : E := (tC (.c (-1)) Q10)
def Q12 : E := (tC (.v 5) Q11)
def Q13 : E := (.f 14 (.v 13) (.v 8) Q12)
def Q14 : E := (te Q8 (.c 0))
def tree : TT (List E) :=
 (.new 1000 (t3 (tR (tR (.v 11) (.v 2)) (.c 0))) (.new 1001 (t3 (tR (tR (.v 11) (.v 3)) (.c 0))) (.br (tl (.v 0) (.c 23)) (.br (te (.v 0) (.c 22)) (.br Q1 (.leaf [(.v 11), (.v 5), (.c 5), (.v 8), (.v 13)]) (.leaf [Q4, Q6, (.v 6), Q7, Q13])) (.br (te (.v 0) (.c 23)) (.br Q1 (.leaf [(.v 11), (.v 5), (.c 5), (.v 8), (.v 13)]) (.leaf [Q4, Q6, (.v 6), Q7, Q13])) (.leaf [Q4, Q6, (.v 6), Q7, Q13]))) (.br (te (.v 0) (.c 22)) (.br Q14 (.leaf [(.v 11), (.v 5), (.c 5), (.v 8), (.v 13)]) (.leaf [Q4, Q6, (.v 6), Q7, Q13])) (.br (te (.v 0) (.c 23)) (.br Q14 (.leaf [(.v 11), (.v 5), (.c 5), (.v 8), (.v 13)]) (.leaf [Q4, Q6, (.v 6), Q7, Q13])) (.leaf [Q4, Q6, (.v 6), Q7, Q13]))))))
def sL0 (a b c d e j l n f g o i z0 z3 z5 z7 z9 : Int) : Prop := qZa [.int .i32, .bool] z0 (rdZ (fdoZ a b (kZ c (kZ d (kZ e (kZ j (kZ l (kZ n (kZ f (kZ g (kZ o (kZ i 0))))))))))) 0) 32 ∧ (z3 : Int) = (W6 (rdZ (fdoZ a b (kZ c (kZ d (kZ e (kZ j (kZ l (kZ n (kZ f (kZ g (kZ o (kZ i 0))))))))))) 2)) ∧ (z5 : Int) = (W6 (rdZ (fdoZ a b (kZ c (kZ d (kZ e (kZ j (kZ l (kZ n (kZ f (kZ g (kZ o (kZ i 0))))))))))) 3)) ∧ (z7 : Int) = (W6 (rdZ (fdoZ a b (kZ c (kZ d (kZ e (kZ j (kZ l (kZ n (kZ f (kZ g (kZ o (kZ i 0))))))))))) 5)) ∧ qZa [.int .i64, .int .i64, .int .i64] z9 (rdZ (fdoZ a b (kZ c (kZ d (kZ e (kZ j (kZ l (kZ n (kZ f (kZ g (kZ o (kZ i 0))))))))))) 4) (W6 (rdZ (fdoZ a b (kZ c (kZ d (kZ e (kZ j (kZ l (kZ n (kZ f (kZ g (kZ o (kZ i 0))))))))))) 5)) ∧ True
def P (a b c d e f g h i j k l n o : Int) : Prop :=
 Pn (W3 (rdZ (rdZ l c) 0)) (-2147483648) 2147483647 fun y0 => Pn (W3 (rdZ (rdZ l d) 0)) (-2147483648) 2147483647 fun y1 => (Pb (PL a 23) (Pb (Pe a 22) (Pb (Pe y1 0) (sL0 a b c d e j l n f g o i l f 5 i o) (sL0 a b c d e j l n f g o i (fpuZ l b (kZ 0 (kZ 0 0))) (W6 (f + 1)) g (i + 1) (updZ o i (kZ f (kZ (-1) (kZ (aluC a y0) 0)))))) (Pb (Pe a 23) (Pb (Pe y1 0) (sL0 a b c d e j l n f g o i l f 5 i o) (sL0 a b c d e j l n f g o i (fpuZ l b (kZ 0 (kZ 0 0))) (W6 (f + 1)) g (i + 1) (updZ o i (kZ f (kZ (-1) (kZ (aluC a y0) 0)))))) (sL0 a b c d e j l n f g o i (fpuZ l b (kZ 0 (kZ 0 0))) (W6 (f + 1)) g (i + 1) (updZ o i (kZ f (kZ (-1) (kZ (aluC a y0) 0))))))) (Pb (Pe a 22) (Pb (Pe y0 0) (sL0 a b c d e j l n f g o i l f 5 i o) (sL0 a b c d e j l n f g o i (fpuZ l b (kZ 0 (kZ 0 0))) (W6 (f + 1)) g (i
 + 1) (updZ o i (kZ f (kZ (-1) (kZ (aluC a y0) 0)))))) (Pb (Pe a 23) (Pb (Pe y0 0) (sL0 a b c d e j l n f g o i l f 5 i o) (sL0 a b c d e j l n f g o i (fpuZ l b (kZ 0 (kZ 0 0))) (W6 (f + 1)) g (i + 1) (updZ o i (kZ f (kZ (-1) (kZ (aluC a y0) 0)))))) (sL0 a b c d e j l n f g o i (fpuZ l b (kZ 0 (kZ 0 0))) (W6 (f + 1)) g (i + 1) (updZ o i (kZ f (kZ (-1) (kZ (aluC a y0) 0))))))))
theorem holds (op d a b n pc st nc nm nr cq rg rm mq : Int) (l_op : 1 ≤ op) (u_op : op ≤ 30) (l_d : 0 ≤ d) (u_d : d ≤ 31) (l_a : 0 ≤ a) (u_a : a ≤ 31) (l_b : 0 ≤ b) (u_b : b ≤ 31) (l_n : -32768 ≤ n) (u_n : n ≤ 65535) (l_pc : -9223372036854775808 ≤ pc) (u_pc : pc ≤ 9223372036854775807) (l_st : 0 ≤ st) (u_st : st ≤ 0) (l_nc : 0 ≤ nc) (u_nc : nc ≤ 16384) (l_nm : 0 ≤ nm) (u_nm : nm ≤ 999999) (l_nr : 0 ≤ nr) (u_nr : nr ≤ 2048) (h_pre0 : qQz ((rdZ (rdZ rg a) 1) == 0) ≠ 0) : P op d a b n pc st nc nm nr cq rg rm mq := by
 delta P sL0 Pb Pn PL Pe W6 W3 kZ
 simp only [nrm, Int.reduceEq, Int.reduceNeg, reduceIte]
 have ka : rdZ (rdZ rg a) 1 = 0 := by simpa [qQz] using h_pre0
 have hpc : I64 pc := ⟨l_pc, u_pc⟩
 have hp1 : I64 (IntKind.wrap .i64 (pc + 1)) := i64_in _
 have hst : I64 st := by unfold I64; omega
 have hnm : I64 nm := by unfold I64; omega
 have hn1 : I64 (nm + 1) := by unfold I64; omega
 have hn0 : I64 n := by unfold I64; omega
 have h5 : I64 5 := by unfold I64; omega
 rintro _ rfl - _ rfl -
 have fr : ∀ {B}, B = (if op ≤ 23 then b else a) → Fm.does ⟨rg, rm, pc, st, mq, nm⟩ nr op d a b n = Fm.reck ⟨rg, rm, pc, st, mq, nm⟩ op d a B := fun hB => fdo_reck u_op hB
 have tr : ∀ {B}, B = (if op ≤ 23 then b else a) → (op = 22 ∨ op = 23) → IntKind.wrap .i32 (rdZ (rdZ rg B) 0) = 0 → _ := fun {B} hB h hx => qXb ((fr hB).trans (reck_no h hx)) hpc h5 hnm
 have un : ∀ {B}, B = (if op ≤ 23 then b else a) → ¬ ((op = 22 ∨ op = 23) ∧ IntKind.wrap .i32 (rdZ (rdZ rg B) 0) = 0) → (rdZ (rdZ rg a) 1 = 0 ∨ rdZ (rdZ rg B) 1 = 0) → _ := fun {B} hB h hx => qXb ((fr hB).trans (reck_un h hx)) hp1 hst hn1
 have kn : ∀ {B}, B = (if op ≤ 23 then b else a) → ¬ ((op = 22 ∨ op = 23) ∧ IntKind.wrap .i32 (rdZ (rdZ rg B) 0) = 0) → rdZ (rdZ rg a) 1 ≠ 0 → rdZ (rdZ rg B) 1 ≠ 0 → _ := fun {B} hB h hx hy => qXb ((fr hB).trans (reck_kn h hx hy)) hp1 hst hn1
 refine ⟨fun h => ?_, fun h => ?_⟩
 ·have hB : b = (if op ≤ 23 then b else a) := (if_pos h).symm
  refine ⟨fun g => ⟨fun z => tr hB (.inl g) z, fun z => un hB (fun e => z e.2) (.inl ka)⟩, fun g => ?_⟩
  refine ⟨fun g2 => ⟨fun z => tr hB (.inr g2) z, fun z => un hB (fun e => z e.2) (.inl ka)⟩, fun g2 => ?_⟩
  have hne : ∀ Q : Prop, ¬ ((op = 22 ∨ op = 23) ∧ Q) := fun Q e => e.1.elim g g2
  exact un hB (hne _) (.inl ka)
 ·have hB : a = (if op ≤ 23 then b else a) := (if_neg (by omega)).symm
  have hne : ∀ Q : Prop, ¬ ((op = 22 ∨ op = 23) ∧ Q) := fun Q e => by omega
  exact ⟨fun g => by omega, fun g => ⟨fun g2 => by omega, fun g2 => un hB (hne _) (.inl ka)⟩⟩
theorem plain (i v ro p) : statH 2 rk tree ⟨i, fN, v, ro, p⟩ = P (i 0) (i 1) (i 2) (i 3) (i 4) (i 5) (i 6) (i 7) (i 8) (i 9) (i 10) (i 11) (i 12) (i 13) := by kernel_rfl
theorem ran : ranH us (fun _ _ => .auto) rk 2 tree = true := by kernel_rfl
theorem fineT : fineH 2 rk tree = true := by kernel_rfl
theorem ok : RhOk (cxOf 2) rk.rh := okH us_ok ran fineT (by kernel_rfl) okk fun i v ro p hρ hpre => by rw [plain]; have q := hρ.hi; exact holds _ _ _ _ _ _ _ _ _ _ _ _ _ _ (q 0 _ rfl).1 (q 0 _ rfl).2 (q 1 _ rfl).1 (q 1 _ rfl).2 (q 2 _ rfl).1 (q 2 _ rfl).2 (q 3 _ rfl).1 (q 3 _ rfl).2 (q 4 _ rfl).1 (q 4 _ rfl).2 (q 5 _ rfl).1 (q 5 _ rfl).2 (q 6 _ rfl).1 (q 6 _ rfl).2 (q 7 _ rfl).1 (q 7 _ rfl).2 (q 8 _ rfl).1 (q 8 _ rfl).2 (q 9 _ rfl).1 (q 9 _ rfl).2 (hpre _ (mg 0 rfl))
end CFReckU
namespace CFDoes
def rk : Rk := ⟨13, [(1, 43), (0, 31), (0, 31), (0, 31), (-32768, 65535), (-9223372036854775808, 9223372036854775807), (0, 0), (0, 16384), (0, 999999), (0, 2048)], 14, [.ptr 0 0, .agg [.int .i64 (.v 0), .int .i64 (.v 1), .int .i64 (.v 2), .int .i64 (.v 3), .int .i64 (.v 4)]], [.cells (([.sl (.own 1) 5 (.c 0) (.v 7) none] : List SV) ++ bkM (.v 11) ++ ([.sl (.own 2) 2 (.c 0) (.v 9) none, .sl (.own 3) 3 (.c 0) (.v 8) none, .int .i64 (.v 6), .int .i64 (.v 5)] : List SV)) 53 none, .arr [.int .i64, .int .i64, .int .i64, .int .i64, .int .i64] 55 (.v 10) (.v 7), .arr [.int .i32, .bool] 49 (.v 12) (.v 9), .arr [.int .i64, .int .i64, .int .i64] 44 (.v 13) (.v 8)], [], .tup [], [.cells (([.sl (.own 1) 5 (.c 0) (.v 7) none] : List SV) ++ bkM (.v 1000000) ++ ([.sl (.own 2) 2 (.c 0) (.v 9) none, .sl (.own 4) 3 (.c 0) (.v 1000004) none, .int .i64 (.v 1000003), .int .i64 (.v 1000002)] : List SV)) 53 none, .arr [.int .i64, .int .i64, .int .i64, .int .i64, .int .i64] 55 (.v 10) (.v 7), .arr [.int .i32, .bool] 49 (.v 1000001) (.v 9), .gone, .arr [.int .i64, .int .i64, .int .i64] 44 (.v 1000005) (.v 1000004)], [.code [.int .i32, .bool] (.f 13 (.f 92 (.v 0) (.v 1) (qQv [(.v 2), (.v 3), (.v 4), (.v 9), (.v 11), (.v 12), (.v 5), (.v 6), (.v 13), (.v 8)])) (.c 0) (.c 0)) (.c 32), .code [.int .i32, .bool] (.f 13 (.f 92 (.v 0) (.v 1) (qQv [(.v 2), (.v 3), (.v 4), (.v 9), (.v 11), (.v 12), (.v 5), (.v 6), (.v 13), (.v 8)])) (.c 1) (.c 0)) (.v 9), .num (.w .i64 (.f 13 (.f 92 (.v 0) (.v 1) (qQv [(.v 2), (.v 3), (.v 4), (.v 9), (.v 11), (.v 12), (.v 5), (.v 6), (.v 13), (.v 8)])) (.c 2) (.c 0))), .num (.w .i64 (.f 13 (.f 92 (.v 0) (.v 1) (qQv [(.v 2), (.v 3), (.v 4), (.v 9), (.v 11), (.v 12), (.v 5), (.v 6), (.v 13), (.v 8)])) (.c 3) (.c 0))), .num (.w .i64 (.f 13 (.f 92 (.v 0) (.v 1) (qQv [(.v 2), (.v 3), (.v 4), (.v 9), (.v 11), (.v 12), (.v 5), (.v 6), (.v 13), (.v 8)])) (.c 5) (.c 0))), .code [.int .i64, .int .i64, .int .i64] (.f 13 (.f 92 (.v 0) (.v 1) (qQv [(.v 2), (.v 3), (.v 4), (.v 9), (.v 11), (.v 12), (.v 5), (.v 6), (.v 13), (.v 8)])) (.c 4) (.c 0)) (.w .i64 (.f 13 (.f 92 (.v 0) (.v 1) (qQv [(.v 2), (.v 3), (.v 4), (.v 9), (.v 11), (.v 12), (.v 5), (.v 6), (.v 13), (.v 8)])) (.c 5) (.c 0)))], []⟩
theorem okk : rk.ok = true := by kernel_rfl
theorem okh : rk.rh.ok = true := by kernel_rfl
noncomputable def us : SMs := fun Γ ins n => smF (cxG n Γ ins) [(CFReckK.rk.rh, CFReckU.rk.rh)] (smH (cxG n Γ ins) [CFPut.rk.rh, CFMem.rk.rh, CFElse.rk.rh] (smR (cxG n Γ ins) [COCost.rc]))
theorem us_ok : SMsOk us := fun Γ ins n => smF_ok (tabsG n Γ ins) (rfs_cons CFReckK.okh (rh_n CFReckK.ok) CFReckU.okh (rh_n CFReckU.ok) (rfs_nil _)) (qZp (tabsG n Γ ins) (qJm CFPut.okh (rh_n CFPut.ok) (qJm CFMem.okh (rh_n CFMem.ok) (qJm CFElse.okh (rh_n CFElse.ok) (qZj _)))) (qZm (tabsG n Γ ins) (qQo COCost.okb (rc_n COCost.ok) (qZx _))))
def Q0 : E := (tR (.v 11) (.v 2))
def Q1 : E := (tR Q0 (.c 1))
def Q2 : E := (tC (.v 8) (.c 0))
def Q3 : E := (tC (.v 13) Q2)
def Q4 : E := (tC (.v 6) Q3)
def Q5 : E := (tC (.v 5) Q4)
def Q6 : E := (tC (.v 12) Q5)
def Q7 : E := (tC (.v 11) Q6)
def Q8 : E := (tC (.v 9) Q7)
def Q9 : E := (tC (.v 4) Q8)
def Q10 : E := (tC (.v 3) Q9)
def Q11 : E := (tC (.v 2) Q10)
def Q12 : E := (.f 92 (.v 0) (.v 1) Q11)
def Q13 : E := (tR Q12 (.c 0))
def Q14 : E := (tR Q12 (.c 2))
def Q15 : E := (t6 Q14)
def Q16 : E := (tR Q12 (.c 3))
def Q17 : E := (t6 Q16)
def Q18 : E := (tR Q12 (.c 5))
def Q19 : E := (t6 Q18)
def Q20 : E := (tR Q12 (.c 4))
def Q21 : E := (tR Q0 (.c 0))
def Q22 : E := (t3 Q21)
def Q23 : E := (.nt Q1)
def Q24 : E := (tC (.c 0) (tC (.c 0) (.c 0)))
def Q25 : E := (.f 91 (.v 11) (.v 1) Q24)
def Q26 : E := (tp (.v 5) (.c 1))
def Q27 : E := (t6 Q26)
def Q28 : E := (tp (.v 8) (.c 1))
def Q29 : E := (tC (.c 1) (.c 0))
def Q30 : E := (tC (.c (-1)) Q29)
def Q31 : E := (tC (.v 5) Q30)
def Q32 : E := (.f 14 (.v 13) (.v 8) Q31)
def Q33 : E := (.cl 1000 (-2147483648) 2147483647)
def Q34 : E := (tR Q12 (.c 1))
def tree : TT (List E) :=
 (.br (tl (.v 0) (.c 30)) (.br Q1 (.leaf [Q13, (.v 12), Q15, Q17, Q19, Q20]) (.leaf [Q13, (.v 12), Q15, Q17, Q19, Q20])) (.br (te (.v 0) (.c 31)) (.new 1000 Q22 (.br Q23 (.leaf [Q25, (.v 12), Q27, (.v 6), Q28, Q32]) (.leaf [(.f 91 (.v 11) (.v 1) (tC (t3 (tp Q33 (.v 4))) Q29)), (.v 12), Q27, (.v 6), Q28, Q32]))) (.br (te (.v 0) (.c 32)) (.new 1000 Q22 (.br Q23 (.leaf [Q25, (.v 12), Q27, (.v 6), Q28, Q32]) (.leaf [(.f 91 (.v 11) (.v 1) (tC (.b .or .i32 Q33 (.v 4)) Q29)), (.v 12), Q27, (.v 6), Q28, Q32]))) (.br (te (.v 0) (.c 33)) (.new 1000 (t3 (.b .shl .u32 (.w .u32 (.v 4)) (.c 16))) (.leaf [(.f 91 (.v 11) (.v 1) (tC Q33 Q29)), (.v 12), Q27, (.v 6), Q28, Q32])) (.br (te (.v 0) (.c 34)) (.br (tl (.c 34) (.v 0)) (.br (tl (.v 0) (.c 35)) (.leaf [Q13, Q34, Q15, Q17, Q19, Q20]) (.bad 200))
 (.bad 200)) (.br (te (.v 0) (.c 35)) (.br (tl (.c 34) (.v 0)) (.br (tl (.v 0) (.c 35)) (.leaf [Q13, Q34, Q15, Q17, Q19, Q20]) (.bad 200)) (.bad 200)) (.br (tl (.c 36) (.v 0)) (.leaf [Q13, (.v 12), Q15, Q17, Q19, Q20]) (.bad 200))))))))
noncomputable def sq0 (a b c d e j l n f g o i : Int) : Int := (fdoZ a b (kZ c (kZ d (kZ e (kZ j (kZ l (kZ n (kZ f (kZ g (kZ o (kZ i 0)))))))))))
def sL0 (a b c d e j l n f g o i z0 z3 z6 z8 z10 z12 : Int) : Prop := qZa [.int .i32, .bool] z0 (rdZ (sq0 a b c d e j l n f g o i) 0) 32 ∧ qZa [.int .i32, .bool] z3 (rdZ (sq0 a b c d e j l n f g o i) 1) j ∧ (z6 : Int) = (W6 (rdZ (sq0 a b c d e j l n f g o i) 2)) ∧ (z8 : Int) = (W6 (rdZ (sq0 a b c d e j l n f g o i) 3)) ∧ (z10 : Int) = (W6 (rdZ (sq0 a b c d e j l n f g o i) 5)) ∧ qZa [.int .i64, .int .i64, .int .i64] z12 (rdZ (sq0 a b c d e j l n f g o i) 4) (W6 (rdZ (sq0 a b c d e j l n f g o i) 5)) ∧ True
def sq1 (a b c d e j l n f g o i : Int) : Prop := (Pm (PL 34 a) (Pm (PL a 35) (sL0 a b c d e j l n f g o i (rdZ (sq0 a b c d e j l n f g o i) 0) (rdZ (sq0 a b c d e j l n f g o i) 1) (W6 (rdZ (sq0 a b c d e j l n f g o i) 2)) (W6 (rdZ (sq0 a b c d e j l n f g o i) 3)) (W6 (rdZ (sq0 a b c d e j l n f g o i) 5)) (rdZ (sq0 a b c d e j l n f g o i) 4))))
def P (a b c d e f g h i j k l n o : Int) : Prop :=
 (Pb (PL a 30) (Pb (rdZ (rdZ l c) 1) (sL0 a b c d e j l n f g o i (rdZ (sq0 a b c d e j l n f g o i) 0) n (W6 (rdZ (sq0 a b c d e j l n f g o i) 2)) (W6 (rdZ (sq0 a b c d e j l n f g o i) 3)) (W6 (rdZ (sq0 a b c d e j l n f g o i) 5)) (rdZ (sq0 a b c d e j l n f g o i) 4)) (sL0 a b c d e j l n f g o i (rdZ (sq0 a b c d e j l n f g o i) 0) n (W6 (rdZ (sq0 a b c d e j l n f g o i) 2)) (W6 (rdZ (sq0 a b c d e j l n f g o i) 3)) (W6 (rdZ (sq0 a b c d e j l n f g o i) 5)) (rdZ (sq0 a b c d e j l n f g o i) 4))) (Pb (Pe a 31) (Pn (W3 (rdZ (rdZ l c) 0)) (-2147483648) 2147483647 fun y0 => (Pb (Pe (rdZ (rdZ l c) 1) 0) (sL0 a b c d e j l n f g o i (fpuZ l b (kZ 0 (kZ 0 0))) n (W6 (f + 1)) g (i + 1) (updZ o i (kZ f (kZ (-1) (kZ 1 0))))) (sL0 a b c d e j l n f g o i (fpuZ l b (kZ (W3 (y0 + e)) (kZ 1
 0))) n (W6 (f + 1)) g (i + 1) (updZ o i (kZ f (kZ (-1) (kZ 1 0))))))) (Pb (Pe a 32) (Pn (W3 (rdZ (rdZ l c) 0)) (-2147483648) 2147483647 fun y0 => (Pb (Pe (rdZ (rdZ l c) 1) 0) (sL0 a b c d e j l n f g o i (fpuZ l b (kZ 0 (kZ 0 0))) n (W6 (f + 1)) g (i + 1) (updZ o i (kZ f (kZ (-1) (kZ 1 0))))) (sL0 a b c d e j l n f g o i (fpuZ l b (kZ (bor .i32 y0 e) (kZ 1 0))) n (W6 (f + 1)) g (i + 1) (updZ o i (kZ f (kZ (-1) (kZ 1 0))))))) (Pb (Pe a 33) (Pn (W3 (shlZ .u32 (U3 e) 16)) (-2147483648) 2147483647 fun y0 => (sL0 a b c d e j l n f g o i (fpuZ l b (kZ y0 (kZ 1 0))) n (W6 (f + 1)) g (i + 1) (updZ o i (kZ f (kZ (-1) (kZ 1 0)))))) (Pb (Pe a 34) (sq1 a b c d e j l n f g o i) (Pb (Pe a 35) (sq1 a b c d e j l n f g o i) (Pm (PL 36 a) (sL0 a b c d e j l n f g o i (rdZ (sq0 a b c d e j l n f g o i) 0)
 n (W6 (rdZ (sq0 a b c d e j l n f g o i) 2)) (W6 (rdZ (sq0 a b c d e j l n f g o i) 3)) (W6 (rdZ (sq0 a b c d e j l n f g o i) 5)) (rdZ (sq0 a b c d e j l n f g o i) 4)))))))))
theorem holds (op d a b n pc st nc nm nr cq rg rm mq : Int) (l_op : 1 ≤ op) (u_op : op ≤ 43) (l_d : 0 ≤ d) (u_d : d ≤ 31) (l_a : 0 ≤ a) (u_a : a ≤ 31) (l_b : 0 ≤ b) (u_b : b ≤ 31) (l_n : -32768 ≤ n) (u_n : n ≤ 65535) (l_pc : -9223372036854775808 ≤ pc) (u_pc : pc ≤ 9223372036854775807) (l_st : 0 ≤ st) (u_st : st ≤ 0) (l_nc : 0 ≤ nc) (u_nc : nc ≤ 16384) (l_nm : 0 ≤ nm) (u_nm : nm ≤ 999999) (l_nr : 0 ≤ nr) (u_nr : nr ≤ 2048) : P op d a b n pc st nc nm nr cq rg rm mq := by
 delta P sq0 sq1 sL0 Pb Pm Pn PL Pe W6 W3 U3 kZ
 simp only [nrm, nro, Int.reduceEq, Int.reduceNeg, reduceIte]
 have hpc : I64 pc := ⟨l_pc, u_pc⟩
 have hp1 : I64 (IntKind.wrap .i64 (pc + 1)) := i64_in _
 have hst : I64 st := by unfold I64; omega
 have hnm : I64 nm := by unfold I64; omega
 have hn1 : I64 (nm + 1) := by unfold I64; omega
 have hn0 : I64 n := by unfold I64; omega
 have hw : IntKind.wrap .i32 n = n := wi32 (by omega) (by omega)
 refine ⟨fun h => (fun R => ⟨fun _ => R, fun _ => R⟩) ⟨qQd _ _ _, by rw [fdo_rm (.inl h)]; exact qQd _ _ _, qQd _ _ _⟩, fun h30 => ?_⟩
 refine ⟨fun h => ?_, fun g1 => ?_⟩
 ·rintro _ rfl -
  exact ⟨fun k => qXg (fd31u h k) hp1 hst hn1, fun k => qXg (fd31k h k) hp1 hst hn1⟩
 refine ⟨fun h => ?_, fun g2 => ?_⟩
 ·rintro _ rfl -
  exact ⟨fun k => qXg (fd32u h k) hp1 hst hn1, fun k => qXg (fd32k h hw k) hp1 hst hn1⟩
 refine ⟨fun h => ?_, fun g3 => ?_⟩
 ·rintro _ rfl -
  exact qXg (fd33 h) hp1 hst hn1
 refine ⟨fun h => ⟨by omega, by omega, qQd _ _ _, qQd _ _ _, qQd _ _ _⟩, fun g4 => ?_⟩
 refine ⟨fun h => ⟨by omega, by omega, qQd _ _ _, qQd _ _ _, qQd _ _ _⟩, fun g5 => ?_⟩
 have h36 : 36 ≤ op := by omega
 exact ⟨h36, qQd _ _ _, by rw [fdo_rm (.inr h36)]; exact qQd _ _ _, qQd _ _ _⟩
theorem plain (i v ro p) : statH 2 rk tree ⟨i, fN, v, ro, p⟩ = P (i 0) (i 1) (i 2) (i 3) (i 4) (i 5) (i 6) (i 7) (i 8) (i 9) (i 10) (i 11) (i 12) (i 13) := by kernel_rfl
theorem ran : ranH us (fun _ _ => .auto) rk 2 tree = true := by kernel_rfl
theorem fineT : fineH 2 rk tree = true := by kernel_rfl
theorem ok : RhOk (cxOf 2) rk.rh := okH us_ok ran fineT (by kernel_rfl) okk fun i v ro p hρ hpre => by rw [plain]; have q := hρ.hi; exact holds _ _ _ _ _ _ _ _ _ _ _ _ _ _ (q 0 _ rfl).1 (q 0 _ rfl).2 (q 1 _ rfl).1 (q 1 _ rfl).2 (q 2 _ rfl).1 (q 2 _ rfl).2 (q 3 _ rfl).1 (q 3 _ rfl).2 (q 4 _ rfl).1 (q 4 _ rfl).2 (q 5 _ rfl).1 (q 5 _ rfl).2 (q 6 _ rfl).1 (q 6 _ rfl).2 (q 7 _ rfl).1 (q 7 _ rfl).2 (q 8 _ rfl).1 (q 8 _ rfl).2 (q 9 _ rfl).1 (q 9 _ rfl).2
end CFDoes
end Go.Proofs.YteimodjkllldlaaGreatDoor
