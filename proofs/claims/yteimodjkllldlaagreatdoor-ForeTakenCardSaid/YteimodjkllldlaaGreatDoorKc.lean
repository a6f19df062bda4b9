/-
  What functions of the program answer, as numbers of what they are handed: their runs by the engine, the plain statements behind them. No condition.
-/
import Derived.Test.YteimodjkllldlaaGreatDoorKb
import Derived.Test.YteimodjkllldlaaGreatDoorGab
import Derived.Test.YteimodjkllldlaaGreatDoorGmJ
import Derived.Test.YteimodjkllldlaaGreatDoorGib
import Derived.Test.YteimodjkllldlaaGreatDoorGmC
set_option linter.unusedVariables false
set_option linter.unusedSimpArgs false
set_option maxRecDepth 100000
namespace Go.Proofs.YteimodjkllldlaaGreatDoor
open Go.Eng Go.RowKit
namespace CFMem
def rk : Rk := ⟨32, [(34, 35), (0, 31), (0, 31), (0, 31), (-32768, 65535), (-9223372036854775808, 9223372036854775807), (0, 0), (0, 16384), (0, 999999), (0, 2048)], 14, [.ptr 0 0, .agg [.int .i64 (.v 0), .int .i64 (.v 1), .int .i64 (.v 2), .int .i64 (.v 3), .int .i64 (.v 4)]], [.cells (([.sl (.own 1) 5 (.c 0) (.v 7) none] : List SV) ++ bkM (.v 11) ++ ([.sl (.own 2) 2 (.c 0) (.v 9) none, .sl (.own 3) 3 (.c 0) (.v 8) none, .int .i64 (.v 6), .int .i64 (.v 5)] : List SV)) 53 none, .arr [.int .i64, .int .i64, .int .i64, .int .i64, .int .i64] 55 (.v 10) (.v 7), .arr [.int .i32, .bool] 49 (.v 12) (.v 9), .arr [.int .i64, .int .i64, .int .i64] 44 (.v 13) (.v 8)], [], .tup [], [.cells (([.sl (.own 1) 5 (.c 0) (.v 7) none] : List SV) ++ bkM (.v 1000000) ++ ([.sl (.own 2) 2 (.c 0) (.v 9) none, .sl (.own 4) 3 (.c 0) (.v 1000004) none, .int .i64 (.v 1000003), .int .i64 (.v 1000002)] : List SV)) 53 none, .arr [.int .i64, .int .i64, .int .i64, .int .i64, .int .i64] 55 (.v 10) (.v 7), .arr [.int .i32, .bool] 49 (.v 1000001) (.v 9), .gone, .arr [.int .i64, .int .i64, .int .i64] 44 (.v 1000005) (.v 1000004)], [.code [.int .i32, .bool] (.f 13 (.f 92 (.v 0) (.v 1) (qQv [(.v 2), (.v 3), (.v 4), (.v 9), (.v 11), (.v 12), (.v 5), (.v 6), (.v 13), (.v 8)])) (.c 0) (.c 0)) (.c 32), .code [.int .i32, .bool] (.f 13 (.f 92 (.v 0) (.v 1) (qQv [(.v 2), (.v 3), (.v 4), (.v 9), (.v 11), (.v 12), (.v 5), (.v 6), (.v 13), (.v 8)])) (.c 1) (.c 0)) (.v 9), .num (.w .i64 (.f 13 (.f 92 (.v 0) (.v 1) (qQv [(.v 2), (.v 3), (.v 4), (.v 9), (.v 11), (.v 12), (.v 5), (.v 6), (.v 13), (.v 8)])) (.c 2) (.c 0))), .num (.w .i64 (.f 13 (.f 92 (.v 0) (.v 1) (qQv [(.v 2), (.v 3), (.v 4), (.v 9), (.v 11), (.v 12), (.v 5), (.v 6), (.v 13), (.v 8)])) (.c 3) (.c 0))), .num (.w .i64 (.f 13 (.f 92 (.v 0) (.v 1) (qQv [(.v 2), (.v 3), (.v 4), (.v 9), (.v 11), (.v 12), (.v 5), (.v 6), (.v 13), (.v 8)])) (.c 5) (.c 0))), .code [.int .i64, .int .i64, .int .i64] (.f 13 (.f 92 (.v 0) (.v 1) (qQv [(.v 2), (.v 3), (.v 4), (.v 9), (.v 11), (.v 12), (.v 5), (.v 6), (.v 13), (.v 8)])) (.c 4) (.c 0)) (.w .i64 (.f 13 (.f 92 (.v 0) (.v 1) (qQv [(.v 2), (.v 3), (.v 4), (.v 9), (.v 11), (.v 12), (.v 5), (.v 6), (.v 13), (.v 8)])) (.c 5) (.c 0)))], []⟩
theorem okk : rk.ok = true := by kernel_rfl
theorem okh : rk.rh.ok = true := by kernel_rfl
noncomputable def us : SMs := fun Γ ins n => smH (cxG n Γ ins) [CFPut.rk.rh] (smR (cxG n Γ ins) [COCost.rc])
theorem us_ok : SMsOk us := fun Γ ins n => qZp (tabsG n Γ ins) (qJm CFPut.okh (rh_n CFPut.ok) (qZj _)) (qZm (tabsG n Γ ins) (qQo COCost.okb (rc_n COCost.ok) (qZx _)))
def Q0 : E := (.cl 1000 (-2147483648) 2147483647)
def Q1 : E := (tp Q0 (.v 4))
def Q2 : E := (t3 Q1)
def Q3 : E := (tR (.v 11) (.v 1))
def Q4 : E := (tR Q3 (.c 0))
def Q5 : E := (t3 Q4)
def Q6 : E := (tl (.c 0) Q2)
def Q7 : E := (tk Q2 (.v 9))
def Q8 : E := (.cl 1001 (-2147483648) 2147483647)
def Q9 : E := (tR Q3 (.c 1))
def Q10 : E := (tC Q9 (.c 0))
def Q11 : E := (tC Q8 Q10)
def Q12 : E := (.f 14 (.v 12) Q2 Q11)
def Q13 : E := (tp (.v 5) (.c 1))
def Q14 : E := (t6 Q13)
def Q15 : E := (tp (.v 8) (.c 1))
def Q16 : E := (.f 66 (.v 0) (.c 0) (.c 0))
def Q17 : E := (tp Q16 (.c 1))
def Q18 : E := (tC Q17 (.c 0))
def Q19 : E := (tC Q2 Q18)
def Q20 : E := (tC (.v 5) Q19)
def Q21 : E := (.f 14 (.v 13) (.v 8) Q20)
def Q22 : E := (tR (.v 12) Q2)
def Q23 : E := (tR Q22 (.c 0))
def Q24 : E := (t3 Q23)
def Q25 : E := (tR Q22 (.c 1))
def Q26 : E := (tC Q25 (.c 0))
def Q27 : E := (tC Q8 Q26)
def Q28 : E := (.f 91 (.v 11) (.v 1) Q27)
def Q29 : E := (tC Q16 (.c 0))
def Q30 : E := (tC Q2 Q29)
def Q31 : E := (tC (.v 5) Q30)
def Q32 : E := (.f 14 (.v 13) (.v 8) Q31)
def tree : TT (List E) :=
 (.new 1000 (t3 (tR (tR (.v 11) (.v 2)) (.c 0))) (.br (tk Q2 (.c 0)) (.leaf [(.v 11), (.v 12), (.v 5), (.c 4), (.v 8), (.v 13)]) (.br (tl (.v 9) Q2) (.leaf [(.v 11), (.v 12), (.v 5), (.c 4), (.v 8), (.v 13)]) (.br (tl (.c 1024) Q2) (.br (te (.v 0) (.c 35)) (.new 1001 Q5 (.br Q6 (.br Q7 (.leaf [(.v 11), Q12, Q14, (.v 6), Q15, Q21]) (.bad 200)) (.bad 200))) (.br Q6 (.br Q7 (.new 1001 Q24 (.leaf [Q28, (.v 12), Q14, (.v 6), Q15, Q21])) (.bad 200)) (.bad 200))) (.br (te (.v 0) (.c 35)) (.new 1001 Q5 (.br Q6 (.br Q7 (.leaf [(.v 11), Q12, Q14, (.v 6), Q15, Q32]) (.bad 200)) (.bad 200))) (.br Q6 (.br Q7 (.new 1001 Q24 (.leaf [Q28, (.v 12), Q14, (.v 6), Q15, Q32])) (.bad 200)) (.bad 200)))))))
noncomputable def sq0 (a b c d e j l n f g o i : Int) : Int := (fdoZ a b (kZ c (kZ d (kZ e (kZ j (kZ l (kZ n (kZ f (kZ g (kZ o (kZ i 0)))))))))))
def sL0 (a b c d e j l n f g o i z0 z3 z6 z8 z10 z12 : Int) : Prop := qZa [.int .i32, .bool] z0 (rdZ (sq0 a b c d e j l n f g o i) 0) 32 ∧ qZa [.int .i32, .bool] z3 (rdZ (sq0 a b c d e j l n f g o i) 1) j ∧ (z6 : Int) = (W6 (rdZ (sq0 a b c d e j l n f g o i) 2)) ∧ (z8 : Int) = (W6 (rdZ (sq0 a b c d e j l n f g o i) 3)) ∧ (z10 : Int) = (W6 (rdZ (sq0 a b c d e j l n f g o i) 5)) ∧ qZa [.int .i64, .int .i64, .int .i64] z12 (rdZ (sq0 a b c d e j l n f g o i) 4) (W6 (rdZ (sq0 a b c d e j l n f g o i) 5)) ∧ True
def P (a b c d e f g h i j k l n o : Int) : Prop :=
 Pn (W3 (rdZ (rdZ l c) 0)) (-2147483648) 2147483647 fun y0 => (Pb (Pl (W3 (y0 + e)) 0) (sL0 a b c d e j l n f g o i l n f 4 i o) (Pb (PL j (W3 (y0 + e))) (sL0 a b c d e j l n f g o i l n f 4 i o) (Pb (PL 1024 (W3 (y0 + e))) (Pb (Pe a 35) (Pn (W3 (rdZ (rdZ l b) 0)) (-2147483648) 2147483647 fun y1 => (Pm (PL 0 (W3 (y0 + e))) (Pm (Pl (W3 (y0 + e)) j) (sL0 a b c d e j l n f g o i l (updZ n (W3 (y0 + e)) (kZ y1 (kZ (rdZ (rdZ l b) 1) 0))) (W6 (f + 1)) g (i + 1) (updZ o i (kZ f (kZ (W3 (y0 + e)) (kZ ((opCo a) + 1) 0)))))))) (Pm (PL 0 (W3 (y0 + e))) (Pm (Pl (W3 (y0 + e)) j) (Pn (W3 (rdZ (rdZ n (W3 (y0 + e))) 0)) (-2147483648) 2147483647 fun y1 => (sL0 a b c d e j l n f g o i (fpuZ l b (kZ y1 (kZ (rdZ (rdZ n (W3 (y0 + e))) 1) 0))) n (W6 (f + 1)) g (i + 1) (updZ o i (kZ f (kZ (W3 (y0 + e)) (kZ
 ((opCo a) + 1) 0))))))))) (Pb (Pe a 35) (Pn (W3 (rdZ (rdZ l b) 0)) (-2147483648) 2147483647 fun y1 => (Pm (PL 0 (W3 (y0 + e))) (Pm (Pl (W3 (y0 + e)) j) (sL0 a b c d e j l n f g o i l (updZ n (W3 (y0 + e)) (kZ y1 (kZ (rdZ (rdZ l b) 1) 0))) (W6 (f + 1)) g (i + 1) (updZ o i (kZ f (kZ (W3 (y0 + e)) (kZ (opCo a) 0)))))))) (Pm (PL 0 (W3 (y0 + e))) (Pm (Pl (W3 (y0 + e)) j) (Pn (W3 (rdZ (rdZ n (W3 (y0 + e))) 0)) (-2147483648) 2147483647 fun y1 => (sL0 a b c d e j l n f g o i (fpuZ l b (kZ y1 (kZ (rdZ (rdZ n (W3 (y0 + e))) 1) 0))) n (W6 (f + 1)) g (i + 1) (updZ o i (kZ f (kZ (W3 (y0 + e)) (kZ (opCo a) 0))))))))))))
theorem holds (op d a b n pc st nc nm nr cq rg rm mq : Int) (l_op : 34 ≤ op) (u_op : op ≤ 35) (l_d : 0 ≤ d) (u_d : d ≤ 31) (l_a : 0 ≤ a) (u_a : a ≤ 31) (l_b : 0 ≤ b) (u_b : b ≤ 31) (l_n : -32768 ≤ n) (u_n : n ≤ 65535) (l_pc : -9223372036854775808 ≤ pc) (u_pc : pc ≤ 9223372036854775807) (l_st : 0 ≤ st) (u_st : st ≤ 0) (l_nc : 0 ≤ nc) (u_nc : nc ≤ 16384) (l_nm : 0 ≤ nm) (u_nm : nm ≤ 999999) (l_nr : 0 ≤ nr) (u_nr : nr ≤ 2048) : P op d a b n pc st nc nm nr cq rg rm mq := by
 delta P sq0 sL0 Pb Pm Pn PL Pl Pe W6 W3 kZ
 simp only [nrm, nro, Int.reduceEq, Int.reduceNeg, reduceIte]
 have hpc : I64 pc := ⟨l_pc, u_pc⟩
 have hp1 : I64 (IntKind.wrap .i64 (pc + 1)) := i64_in _
 have hst : I64 st := by unfold I64; omega
 have hnm : I64 nm := by unfold I64; omega
 have hn1 : I64 (nm + 1) := by unfold I64; omega
 have hn0 : I64 n := by unfold I64; omega
 have h4 : I64 4 := by unfold I64; omega
 rintro _ rfl -
 have hop : op = 34 ∨ op = 35 := by omega
 have e34 : opCo op = 2 := by rcases hop with rfl | rfl <;> decide
 generalize hA : IntKind.wrap .i32 (IntKind.wrap .i32 (rdZ (rdZ rg a) 0) + n) = A
 have hd := fdmem (d := d) (a := a) (b := b) (n := n) (nr := nr) (rg := rg) (rm := rm) (pc := pc) (st := st) (mq := mq) (nm := nm) hop
 rw [hA] at hd
 refine ⟨fun h => qXg (hd.trans (fmem_no (.inl h))) hpc h4 hnm, fun h => ⟨fun h' => qXg (hd.trans (fmem_no (.inr h'))) hpc h4 hnm, fun h' => ?_⟩⟩
 simp only [e34]
 refine ⟨fun g => ⟨fun o => ?_, fun o => ?_⟩, fun g => ⟨fun o => ?_, fun o => ?_⟩⟩
 ·rintro _ rfl -; exact ⟨h, h', qXg (hd.trans (fmem_sw h h' o (by rw [if_pos g]; rfl))) hp1 hst hn1⟩
 ·refine ⟨h, h', ?_⟩
  rintro _ rfl -; exact qXg (hd.trans (fmem_lw h h' (by omega) (by rw [if_pos g]; rfl))) hp1 hst hn1
 ·rintro _ rfl -; exact ⟨h, h', qXg (hd.trans (fmem_sw h h' o (by rw [if_neg (by omega)]))) hp1 hst hn1⟩
 ·refine ⟨h, h', ?_⟩
  rintro _ rfl -; exact qXg (hd.trans (fmem_lw h h' (by omega) (by rw [if_neg (by omega)]))) hp1 hst hn1
theorem plain (i v ro p) : statH 2 rk tree ⟨i, fN, v, ro, p⟩ = P (i 0) (i 1) (i 2) (i 3) (i 4) (i 5) (i 6) (i 7) (i 8) (i 9) (i 10) (i 11) (i 12) (i 13) := by kernel_rfl
theorem ran : ranH us (fun _ _ => .auto) rk 2 tree = true := by kernel_rfl
theorem fineT : fineH 2 rk tree = true := by kernel_rfl
theorem ok : RhOk (cxOf 2) rk.rh := okH us_ok ran fineT (by kernel_rfl) okk fun i v ro p hρ hpre => by rw [plain]; have q := hρ.hi; exact holds _ _ _ _ _ _ _ _ _ _ _ _ _ _ (q 0 _ rfl).1 (q 0 _ rfl).2 (q 1 _ rfl).1 (q 1 _ rfl).2 (q 2 _ rfl).1 (q 2 _ rfl).2 (q 3 _ rfl).1 (q 3 _ rfl).2 (q 4 _ rfl).1 (q 4 _ rfl).2 (q 5 _ rfl).1 (q 5 _ rfl).2 (q 6 _ rfl).1 (q 6 _ rfl).2 (q 7 _ rfl).1 (q 7 _ rfl).2 (q 8 _ rfl).1 (q 8 _ rfl).2 (q 9 _ rfl).1 (q 9 _ rfl).2
end CFMem
namespace CFElse
def rk : Rk := ⟨33, [(36, 43), (0, 31), (0, 31), (0, 31), (-32768, 65535), (-9223372036854775808, 9223372036854775807), (0, 0), (0, 16384), (0, 999999), (0, 2048)], 14, [.ptr 0 0, .agg [.int .i64 (.v 0), .int .i64 (.v 1), .int .i64 (.v 2), .int .i64 (.v 3), .int .i64 (.v 4)]], [.cells (([.sl (.own 1) 5 (.c 0) (.v 7) none] : List SV) ++ bkM (.v 11) ++ ([.sl (.own 2) 2 (.c 0) (.v 9) none, .sl (.own 3) 3 (.c 0) (.v 8) none, .int .i64 (.v 6), .int .i64 (.v 5)] : List SV)) 53 none, .arr [.int .i64, .int .i64, .int .i64, .int .i64, .int .i64] 55 (.v 10) (.v 7), .arr [.int .i32, .bool] 49 (.v 12) (.v 9), .arr [.int .i64, .int .i64, .int .i64] 44 (.v 13) (.v 8)], [], .tup [], [.cells (([.sl (.own 1) 5 (.c 0) (.v 7) none] : List SV) ++ bkM (.v 1000000) ++ ([.sl (.own 2) 2 (.c 0) (.v 9) none, .sl (.own 4) 3 (.c 0) (.v 1000003) none, .int .i64 (.v 1000002), .int .i64 (.v 1000001)] : List SV)) 53 none, .arr [.int .i64, .int .i64, .int .i64, .int .i64, .int .i64] 55 (.v 10) (.v 7), .arr [.int .i32, .bool] 49 (.v 12) (.v 9), .gone, .arr [.int .i64, .int .i64, .int .i64] 44 (.v 1000004) (.v 1000003)], [.code [.int .i32, .bool] (.f 13 (.f 92 (.v 0) (.v 1) (qQv [(.v 2), (.v 3), (.v 4), (.v 9), (.v 11), (.v 12), (.v 5), (.v 6), (.v 13), (.v 8)])) (.c 0) (.c 0)) (.c 32), .num (.w .i64 (.f 13 (.f 92 (.v 0) (.v 1) (qQv [(.v 2), (.v 3), (.v 4), (.v 9), (.v 11), (.v 12), (.v 5), (.v 6), (.v 13), (.v 8)])) (.c 2) (.c 0))), .num (.w .i64 (.f 13 (.f 92 (.v 0) (.v 1) (qQv [(.v 2), (.v 3), (.v 4), (.v 9), (.v 11), (.v 12), (.v 5), (.v 6), (.v 13), (.v 8)])) (.c 3) (.c 0))), .num (.w .i64 (.f 13 (.f 92 (.v 0) (.v 1) (qQv [(.v 2), (.v 3), (.v 4), (.v 9), (.v 11), (.v 12), (.v 5), (.v 6), (.v 13), (.v 8)])) (.c 5) (.c 0))), .code [.int .i64, .int .i64, .int .i64] (.f 13 (.f 92 (.v 0) (.v 1) (qQv [(.v 2), (.v 3), (.v 4), (.v 9), (.v 11), (.v 12), (.v 5), (.v 6), (.v 13), (.v 8)])) (.c 4) (.c 0)) (.w .i64 (.f 13 (.f 92 (.v 0) (.v 1) (qQv [(.v 2), (.v 3), (.v 4), (.v 9), (.v 11), (.v 12), (.v 5), (.v 6), (.v 13), (.v 8)])) (.c 5) (.c 0)))], []⟩
theorem okk : rk.ok = true := by kernel_rfl
theorem okh : rk.rh.ok = true := by kernel_rfl
noncomputable def us : SMs := fun Γ ins n => smH (cxG n Γ ins) [CFPut.rk.rh] (smR (cxG n Γ ins) [COCost.rc])
theorem us_ok : SMsOk us := fun Γ ins n => qZp (tabsG n Γ ins) (qJm CFPut.okh (rh_n CFPut.ok) (qZj _)) (qZm (tabsG n Γ ins) (qQo COCost.okb (rc_n COCost.ok) (qZx _)))
def Q0 : E := (.cl 1000 (-2147483648) 2147483647)
def Q1 : E := (.cl 1001 (-2147483648) 2147483647)
def Q2 : E := (tp (.v 8) (.c 1))
def Q3 : E := (tC (.c 3) (.c 0))
def Q4 : E := (tC (.c (-1)) Q3)
def Q5 : E := (tC (.v 5) Q4)
def Q6 : E := (.f 14 (.v 13) (.v 8) Q5)
def Q7 : E := (tp (.v 5) (.c 1))
def Q8 : E := (t6 Q7)
def Q9 : E := (tC (.c 1) (.c 0))
def Q10 : E := (tC (.c (-1)) Q9)
def Q11 : E := (tC (.v 5) Q10)
def Q12 : E := (.f 14 (.v 13) (.v 8) Q11)
def Q13 : E := (.f 66 (.v 0) (.c 0) (.c 0))
def Q14 : E := (tC Q13 (.c 0))
def Q15 : E := (tC (.c (-1)) Q14)
def Q16 : E := (tC (.v 5) Q15)
def Q17 : E := (.f 14 (.v 13) (.v 8) Q16)
def tree : TT (List E) :=
 (.new 1000 (t3 (tR (tR (.v 11) (.v 1)) (.c 0))) (.new 1001 (t3 (tR (tR (.v 11) (.v 2)) (.c 0))) (.br (te (.v 0) (.c 36)) (.br (te Q0 Q1) (.leaf [(.v 11), (.v 4), (.v 6), Q2, Q6]) (.leaf [(.v 11), Q8, (.v 6), Q2, Q12])) (.br (te (.v 0) (.c 37)) (.br (tn Q0 Q1) (.leaf [(.v 11), (.v 4), (.v 6), Q2, Q6]) (.leaf [(.v 11), Q8, (.v 6), Q2, Q12])) (.br (te (.v 0) (.c 38)) (.br (tk Q0 Q1) (.leaf [(.v 11), (.v 4), (.v 6), Q2, Q6]) (.leaf [(.v 11), Q8, (.v 6), Q2, Q12])) (.br (te (.v 0) (.c 40)) (.leaf [(.f 91 (.v 11) (.v 1) (tC (t3 Q7) Q9)), (.v 4), (.v 6), Q2, Q17]) (.br (te (.v 0) (.c 39)) (.leaf [(.v 11), (.v 4), (.v 6), Q2, Q17]) (.br (te (.v 0) (.c 41)) (.leaf [(.v 11), Q1, (.v 6), Q2, Q17]) (.br (te (.v 0) (.c 42)) (.leaf [(.v 11), Q8, (.v 6), Q2, Q17]) (.br (te (.v 0) (.c 43)) (.leaf [(.v
 11), (.v 5), (.c 1), Q2, Q17]) (.leaf [(.v 11), (.v 5), (.v 6), (.v 8), (.v 13)])))))))))))
def sL0 (a b c d e j l n f g o i z0 z3 z5 z7 z9 : Int) : Prop := qZa [.int .i32, .bool] z0 (rdZ (fdoZ a b (kZ c (kZ d (kZ e (kZ j (kZ l (kZ n (kZ f (kZ g (kZ o (kZ i 0))))))))))) 0) 32 ∧ (z3 : Int) = (W6 (rdZ (fdoZ a b (kZ c (kZ d (kZ e (kZ j (kZ l (kZ n (kZ f (kZ g (kZ o (kZ i 0))))))))))) 2)) ∧ (z5 : Int) = (W6 (rdZ (fdoZ a b (kZ c (kZ d (kZ e (kZ j (kZ l (kZ n (kZ f (kZ g (kZ o (kZ i 0))))))))))) 3)) ∧ (z7 : Int) = (W6 (rdZ (fdoZ a b (kZ c (kZ d (kZ e (kZ j (kZ l (kZ n (kZ f (kZ g (kZ o (kZ i 0))))))))))) 5)) ∧ qZa [.int .i64, .int .i64, .int .i64] z9 (rdZ (fdoZ a b (kZ c (kZ d (kZ e (kZ j (kZ l (kZ n (kZ f (kZ g (kZ o (kZ i 0))))))))))) 4) (W6 (rdZ (fdoZ a b (kZ c (kZ d (kZ e (kZ j (kZ l (kZ n (kZ f (kZ g (kZ o (kZ i 0))))))))))) 5)) ∧ True
def P (a b c d e f g h i j k l n o : Int) : Prop :=
 Pn (W3 (rdZ (rdZ l b) 0)) (-2147483648) 2147483647 fun y0 => Pn (W3 (rdZ (rdZ l c) 0)) (-2147483648) 2147483647 fun y1 => (Pb (Pe a 36) (Pb (Pe y0 y1) (sL0 a b c d e j l n f g o i l e g (i + 1) (updZ o i (kZ f (kZ (-1) (kZ 3 0))))) (sL0 a b c d e j l n f g o i l (W6 (f + 1)) g (i + 1) (updZ o i (kZ f (kZ (-1) (kZ 1 0)))))) (Pb (Pe a 37) (Pb (Pd y0 y1) (sL0 a b c d e j l n f g o i l e g (i + 1) (updZ o i (kZ f (kZ (-1) (kZ 3 0))))) (sL0 a b c d e j l n f g o i l (W6 (f + 1)) g (i + 1) (updZ o i (kZ f (kZ (-1) (kZ 1 0)))))) (Pb (Pe a 38) (Pb (Pl y0 y1) (sL0 a b c d e j l n f g o i l e g (i + 1) (updZ o i (kZ f (kZ (-1) (kZ 3 0))))) (sL0 a b c d e j l n f g o i l (W6 (f + 1)) g (i + 1) (updZ o i (kZ f (kZ (-1) (kZ 1 0)))))) (Pb (Pe a 40) (sL0 a b c d e j l n f g o i (fpuZ l b (kZ (W3 (f +
 1)) (kZ 1 0))) e g (i + 1) (updZ o i (kZ f (kZ (-1) (kZ (opCo a) 0))))) (Pb (Pe a 39) (sL0 a b c d e j l n f g o i l e g (i + 1) (updZ o i (kZ f (kZ (-1) (kZ (opCo a) 0))))) (Pb (Pe a 41) (sL0 a b c d e j l n f g o i l y1 g (i + 1) (updZ o i (kZ f (kZ (-1) (kZ (opCo a) 0))))) (Pb (Pe a 42) (sL0 a b c d e j l n f g o i l (W6 (f + 1)) g (i + 1) (updZ o i (kZ f (kZ (-1) (kZ (opCo a) 0))))) (Pb (Pe a 43) (sL0 a b c d e j l n f g o i l f 1 (i + 1) (updZ o i (kZ f (kZ (-1) (kZ (opCo a) 0))))) (sL0 a b c d e j l n f g o i l f g i o)))))))))
theorem holds (op d a b n pc st nc nm nr cq rg rm mq : Int) (l_op : 36 ≤ op) (u_op : op ≤ 43) (l_d : 0 ≤ d) (u_d : d ≤ 31) (l_a : 0 ≤ a) (u_a : a ≤ 31) (l_b : 0 ≤ b) (u_b : b ≤ 31) (l_n : -32768 ≤ n) (u_n : n ≤ 65535) (l_pc : -9223372036854775808 ≤ pc) (u_pc : pc ≤ 9223372036854775807) (l_st : 0 ≤ st) (u_st : st ≤ 0) (l_nc : 0 ≤ nc) (u_nc : nc ≤ 16384) (l_nm : 0 ≤ nm) (u_nm : nm ≤ 999999) (l_nr : 0 ≤ nr) (u_nr : nr ≤ 2048) : P op d a b n pc st nc nm nr cq rg rm mq := by
 delta P sL0 Pb Pn Pl Pe Pd W6 W3 kZ
 simp only [nrm, Int.reduceEq, Int.reduceNeg, reduceIte]
 have hpc : I64 pc := ⟨l_pc, u_pc⟩
 have hp1 : I64 (IntKind.wrap .i64 (pc + 1)) := i64_in _
 have hst : I64 st := by unfold I64; omega
 have hnm : I64 nm := by unfold I64; omega
 have hn1 : I64 (nm + 1) := by unfold I64; omega
 have hn0 : I64 n := by unfold I64; omega
 have h1 : I64 1 := by unfold I64; omega
 rintro _ rfl - _ rfl -
 have ha : I64 (IntKind.wrap .i32 (rdZ (rdZ rg a) 0)) := i32_i64 _
 refine ⟨fun h => ⟨fun g => qXb ((fd36 h).trans (fbr_y g)) hn0 hst hn1, fun g => qXb ((fd36 h).trans (fbr_n g)) hp1 hst hn1⟩, fun _ => ?_⟩
 refine ⟨fun h => ⟨fun g => qXb ((fd37 h).trans (fbr_y g)) hn0 hst hn1, fun g => qXb ((fd37 h).trans (fbr_n (fun e => e g))) hp1 hst hn1⟩, fun _ => ?_⟩
 refine ⟨fun h => ⟨fun g => qXb ((fd38 h).trans (fbr_y g)) hn0 hst hn1, fun g => qXb ((fd38 h).trans (fbr_n (by omega))) hp1 hst hn1⟩, fun _ => ?_⟩
 refine ⟨fun h => ?_, fun _ => ?_⟩
 ·rw [h, show opCo 40 = 3 from rfl]; exact qXb (fd40 rfl) hn0 hst hn1
 refine ⟨fun h => ?_, fun _ => ?_⟩
 ·rw [h, show opCo 39 = 3 from rfl]; exact qXb (fd39 rfl) hn0 hst hn1
 refine ⟨fun h => ?_, fun _ => ?_⟩
 ·rw [h, show opCo 41 = 3 from rfl]; exact qXb (fd41 rfl) ha hst hn1
 refine ⟨fun h => ?_, fun _ => ?_⟩
 ·rw [h, show opCo 42 = 1 from rfl]; exact qXb (fd42 rfl) hp1 hst hn1
 refine ⟨fun h => ?_, fun _ => by omega⟩
 rw [h, show opCo 43 = 1 from rfl]; exact qXb (fd43 rfl) hpc h1 hn1
theorem plain (i v ro p) : statH 2 rk tree ⟨i, fN, v, ro, p⟩ = P (i 0) (i 1) (i 2) (i 3) (i 4) (i 5) (i 6) (i 7) (i 8) (i 9) (i 10) (i 11) (i 12) (i 13) := by kernel_rfl
theorem ran : ranH us (fun _ _ => .auto) rk 2 tree = true := by kernel_rfl
theorem fineT : fineH 2 rk tree = true := by kernel_rfl
theorem ok : RhOk (cxOf 2) rk.rh := okH us_ok ran fineT (by kernel_rfl) okk fun i v ro p hρ hpre => by rw [plain]; have q := hρ.hi; exact holds _ _ _ _ _ _ _ _ _ _ _ _ _ _ (q 0 _ rfl).1 (q 0 _ rfl).2 (q 1 _ rfl).1 (q 1 _ rfl).2 (q 2 _ rfl).1 (q 2 _ rfl).2 (q 3 _ rfl).1 (q 3 _ rfl).2 (q 4 _ rfl).1 (q 4 _ rfl).2 (q 5 _ rfl).1 (q 5 _ rfl).2 (q 6 _ rfl).1 (q 6 _ rfl).2 (q 7 _ rfl).1 (q 7 _ rfl).2 (q 8 _ rfl).1 (q 8 _ rfl).2 (q 9 _ rfl).1 (q 9 _ rfl).2
end CFElse
namespace CADo
def rc : Rc := ⟨49, [none, none, none], [.int .i64, .int .i32, .int .i32], [], .tup [none, none], [.int .i32 (.f 63 (.v 0) (.v 1) (.v 2)), .bool (.f 64 (.v 0) (.v 1) (.v 2))]⟩
theorem okb : rc.ok = true := by kernel_rfl
noncomputable def us : SMs := fun Γ ins n => smH (cxG n Γ ins) [] (smAnd 86 (libLen32 Γ ins n) (smR (cxG n Γ ins) []))
theorem us_ok : SMsOk us := fun Γ ins n => qZp (tabsG n Γ ins) (qZj _) (smAnd_ok (libLen32_ok Γ ins n) (qZm (tabsG n Γ ins) (qZx _)))
def Q0 : E := (tp (.v 1) (.v 2))
def Q1 : E := (.b .psub .i64 (.v 1) (.v 2))
def Q2 : E := (.b .and .i32 (.v 2) (.c 31))
def Q3 : E := (.b .and .u64 Q2 (.c 31))
def Q4 : E := (.b .pmul .i64 (.v 1) (.v 2))
def Q5 : E := (.b .psub .i64 (.c 0) (.v 1))
def Q6 : E := (.b .min .i64 Q5 (.c 2147483647))
def tree : TT (List E) :=
 (.br (te (.v 0) (.c 1)) (.leaf [(t3 Q0), (.c 1)]) (.br (te (.v 0) (.c 2)) (.leaf [(t3 Q1), (.c 1)]) (.br (te (.v 0) (.c 3)) (.leaf [(.b .min .i64 (.b .max .i64 Q0 (.c (-2147483648))) (.c 2147483647)), (.c 1)]) (.br (te (.v 0) (.c 4)) (.leaf [(.b .min .i64 (.b .max .i64 Q1 (.c (-2147483648))) (.c 2147483647)), (.c 1)]) (.br (te (.v 0) (.c 5)) (.leaf [(.b .and .i32 (.v 1) (.v 2)), (.c 1)]) (.br (te (.v 0) (.c 6)) (.leaf [(.b .or .i32 (.v 1) (.v 2)), (.c 1)]) (.br (te (.v 0) (.c 7)) (.leaf [(.b .xor .i32 (.v 1) (.v 2)), (.c 1)]) (.br (te (.v 0) (.c 8)) (.leaf [(.b .andNot .i32 (.v 1) (.v 2)), (.c 1)]) (.br (te (.v 0) (.c 9)) (.leaf [(t3 (.b .shl .u32 (.w .u32 (.v 1)) Q2)), (.c 1)]) (.br (te (.v 0) (.c 10)) (.leaf [(t3 (.b .shr .u32 (.w .u32 (.v 1)) Q2)), (.c 1)]) (.br (te (.v 0) (.c 11))
 (.leaf [(.b .shr .i32 (.v 1) Q2), (.c 1)]) (.br (te (.v 0) (.c 12)) (.leaf [(t3 (.b .or .u32 (.b .shl .u32 (.w .u32 (.v 1)) Q3) (.b .shr .u32 (.w .u32 (.v 1)) (.b .psub .i64 (.c 32) Q3)))), (.c 1)]) (.br (te (.v 0) (.c 13)) (.br (tk (.v 1) (.v 2)) (.leaf [(.c 1), (.c 1)]) (.leaf [(.c 0), (.c 1)])) (.br (te (.v 0) (.c 14)) (.br (tk (.w .u32 (.v 1)) (.w .u32 (.v 2))) (.leaf [(.c 1), (.c 1)]) (.leaf [(.c 0), (.c 1)])) (.br (te (.v 0) (.c 15)) (.br (te (.v 1) (.v 2)) (.leaf [(.c 1), (.c 1)]) (.leaf [(.c 0), (.c 1)])) (.br (te (.v 0) (.c 16)) (.leaf [(.b .min .i64 (.v 1) (.v 2)), (.c 1)]) (.br (te (.v 0) (.c 17)) (.leaf [(.b .max .i64 (.v 1) (.v 2)), (.c 1)]) (.br (te (.v 0) (.c 18)) (.leaf [(t3 Q4), (.c 1)]) (.br (te (.v 0) (.c 19)) (.leaf [(.b .shr .i64 Q4 (.c 32)), (.c 1)]) (.br (te (.v 0)
 (.c 20)) (.leaf [(.b .min .i64 (.b .max .i64 (tp (.b .shr .i64 Q4 (.c 30)) (.b .and .i64 (.b .shr .i64 Q4 (.c 29)) (.c 1))) (.c (-2147483648))) (.c 2147483647)), (.c 1)]) (.br (te (.v 0) (.c 21)) (.leaf [(.b .min .i64 (.b .max .i64 (tp (.b .shr .i64 Q4 (.c 16)) (.b .and .i64 (.b .shr .i64 Q4 (.c 15)) (.c 1))) (.c (-2147483648))) (.c 2147483647)), (.c 1)]) (.br (te (.v 0) (.c 22)) (.br (te (.v 2) (.c 0)) (.leaf [(.c 0), (.c 0)]) (.leaf [(t3 (.b .quo .i64 (.v 1) (.v 2))), (.c 1)])) (.br (te (.v 0) (.c 23)) (.br (te (.v 2) (.c 0)) (.leaf [(.c 0), (.c 0)]) (.leaf [(t3 (.b .psub .i64 (.v 1) (t6 (.b .pmul .i64 (.b .quo .i64 (.v 1) (.v 2)) (.v 2))))), (.c 1)])) (.br (te (.v 0) (.c 24)) (.leaf [(.b .psub .i64 (.c 32) (.f 0 (.w .u32 (.v 1)) (.c 0) (.c 0))), (.c 1)]) (.br (te (.v 0) (.c 25))
 (.leaf [Q6, (.c 1)]) (.br (te (.v 0) (.c 26)) (.leaf [(.b .max .i64 (.v 1) Q6), (.c 1)]) (.br (te (.v 0) (.c 27)) (.br (tn (.v 1) (.c 0)) (.leaf [(.c (-1)), (.c 1)]) (.leaf [(.c 0), (.c 1)])) (.br (te (.v 0) (.c 28)) (.leaf [(.b .shr .i32 (.v 1) (.c 31)), (.c 1)]) (.br (te (.v 0) (.c 29)) (.leaf [(.w .i16 (.v 1)), (.c 1)]) (.br (te (.v 0) (.c 30)) (.leaf [(.b .shr .i32 (.v 1) (.c 16)), (.c 1)]) (.leaf [(.c 0), (.c 0)])))))))))))))))))))))))))))))))
def sL0 (a b c z0 : Int) : Prop := (z0 : Int) = (aluV a b c) ∧ ((1 : Int) ≠ 0 ↔ ((aluK a b c) : Int) ≠ 0) ∧ True
def P (a b c : Int) : Prop :=
 (Pb (Pe a 1) (((W3 (b + c)) : Int) = (aluV a b c) ∧ ((1 : Int) ≠ 0 ↔ ((aluK a b c) : Int) ≠ 0) ∧ True) (Pb (Pe a 2) (((W3 (b - c)) : Int) = (aluV a b c) ∧ ((1 : Int) ≠ 0 ↔ ((aluK a b c) : Int) ≠ 0) ∧ True) (Pb (Pe a 3) (((sat32 (b + c)) : Int) = (aluV a b c) ∧ ((1 : Int) ≠ 0 ↔ ((aluK a b c) : Int) ≠ 0) ∧ True) (Pb (Pe a 4) (((sat32 (b - c)) : Int) = (aluV a b c) ∧ ((1 : Int) ≠ 0 ↔ ((aluK a b c) : Int) ≠ 0) ∧ True) (Pb (Pe a 5) (((band .i32 b c) : Int) = (aluV a b c) ∧ ((1 : Int) ≠ 0 ↔ ((aluK a b c) : Int) ≠ 0) ∧ True) (Pb (Pe a 6) (((bor .i32 b c) : Int) = (aluV a b c) ∧ ((1 : Int) ≠ 0 ↔ ((aluK a b c) : Int) ≠ 0) ∧ True) (Pb (Pe a 7) (((bxor .i32 b c) : Int) = (aluV a b c) ∧ ((1 : Int) ≠ 0 ↔ ((aluK a b c) : Int) ≠ 0) ∧ True) (Pb (Pe a 8) (((bandn .i32 b c) : Int) = (aluV a b c) ∧ ((1 :
 Int) ≠ 0 ↔ ((aluK a b c) : Int) ≠ 0) ∧ True) (Pb (Pe a 9) (sL0 a b c (W3 (shlZ .u32 (U3 b) (band .i32 c 31)))) (Pb (Pe a 10) (sL0 a b c (W3 (shrZ .u32 (U3 b) (band .i32 c 31)))) (Pb (Pe a 11) (((shrZ .i32 b (band .i32 c 31)) : Int) = (aluV a b c) ∧ ((1 : Int) ≠ 0 ↔ ((aluK a b c) : Int) ≠ 0) ∧ True) (Pb (Pe a 12) (sL0 a b c (W3 (bor .u32 (shlZ .u32 (U3 b) (band .u64 (band .i32 c 31) 31)) (shrZ .u32 (U3 b) (32 - (band .u64 (band .i32 c 31) 31)))))) (Pb (Pe a 13) (Pb (Pl b c) ((1 : Int) = (aluV a b c) ∧ ((1 : Int) ≠ 0 ↔ ((aluK a b c) : Int) ≠ 0) ∧ True) ((0 : Int) = (aluV a b c) ∧ ((1 : Int) ≠ 0 ↔ ((aluK a b c) : Int) ≠ 0) ∧ True)) (Pb (Pe a 14) (Pb (Pl (U3 b) (U3 c)) ((1 : Int) = (aluV a b c) ∧ ((1 : Int) ≠ 0 ↔ ((aluK a b c) : Int) ≠ 0) ∧ True) ((0 : Int) = (aluV a b c) ∧ ((1 : Int) ≠ 0 ↔
 ((aluK a b c) : Int) ≠ 0) ∧ True)) (Pb (Pe a 15) (Pb (Pe b c) ((1 : Int) = (aluV a b c) ∧ ((1 : Int) ≠ 0 ↔ ((aluK a b c) : Int) ≠ 0) ∧ True) ((0 : Int) = (aluV a b c) ∧ ((1 : Int) ≠ 0 ↔ ((aluK a b c) : Int) ≠ 0) ∧ True)) (Pb (Pe a 16) (((minZ b c) : Int) = (aluV a b c) ∧ ((1 : Int) ≠ 0 ↔ ((aluK a b c) : Int) ≠ 0) ∧ True) (Pb (Pe a 17) (((maxZ b c) : Int) = (aluV a b c) ∧ ((1 : Int) ≠ 0 ↔ ((aluK a b c) : Int) ≠ 0) ∧ True) (Pb (Pe a 18) (((W3 (b * c)) : Int) = (aluV a b c) ∧ ((1 : Int) ≠ 0 ↔ ((aluK a b c) : Int) ≠ 0) ∧ True) (Pb (Pe a 19) (((shrZ .i64 (b * c) 32) : Int) = (aluV a b c) ∧ ((1 : Int) ≠ 0 ↔ ((aluK a b c) : Int) ≠ 0) ∧ True) (Pb (Pe a 20) (sL0 a b c (sat32 ((shrZ .i64 (b * c) 30) + (band .i64 (shrZ .i64 (b * c) 29) 1)))) (Pb (Pe a 21) (sL0 a b c (sat32 ((shrZ .i64 (b * c) 16) +
 (band .i64 (shrZ .i64 (b * c) 15) 1)))) (Pb (Pe a 22) (Pb (Pe c 0) ((0 : Int) = (aluV a b c) ∧ ((0 : Int) ≠ 0 ↔ ((aluK a b c) : Int) ≠ 0) ∧ True) (((W3 (BO.ev .quo .i64 b c)) : Int) = (aluV a b c) ∧ ((1 : Int) ≠ 0 ↔ ((aluK a b c) : Int) ≠ 0) ∧ True)) (Pb (Pe a 23) (Pb (Pe c 0) ((0 : Int) = (aluV a b c) ∧ ((0 : Int) ≠ 0 ↔ ((aluK a b c) : Int) ≠ 0) ∧ True) (sL0 a b c (W3 (b - (W6 ((BO.ev .quo .i64 b c) * c)))))) (Pb (Pe a 24) (((32 - (blen (U3 b))) : Int) = (aluV a b c) ∧ ((1 : Int) ≠ 0 ↔ ((aluK a b c) : Int) ≠ 0) ∧ True) (Pb (Pe a 25) (((minZ (0 - b) 2147483647) : Int) = (aluV a b c) ∧ ((1 : Int) ≠ 0 ↔ ((aluK a b c) : Int) ≠ 0) ∧ True) (Pb (Pe a 26) (((maxZ b (minZ (0 - b) 2147483647)) : Int) = (aluV a b c) ∧ ((1 : Int) ≠ 0 ↔ ((aluK a b c) : Int) ≠ 0) ∧ True) (Pb (Pe a 27) (Pb (Pd b 0)
 (((-1) : Int) = (aluV a b c) ∧ ((1 : Int) ≠ 0 ↔ ((aluK a b c) : Int) ≠ 0) ∧ True) ((0 : Int) = (aluV a b c) ∧ ((1 : Int) ≠ 0 ↔ ((aluK a b c) : Int) ≠ 0) ∧ True)) (Pb (Pe a 28) (((shrZ .i32 b 31) : Int) = (aluV a b c) ∧ ((1 : Int) ≠ 0 ↔ ((aluK a b c) : Int) ≠ 0) ∧ True) (Pb (Pe a 29) (((IntKind.wrap .i16 b) : Int) = (aluV a b c) ∧ ((1 : Int) ≠ 0 ↔ ((aluK a b c) : Int) ≠ 0) ∧ True) (Pb (Pe a 30) (((shrZ .i32 b 16) : Int) = (aluV a b c) ∧ ((1 : Int) ≠ 0 ↔ ((aluK a b c) : Int) ≠ 0) ∧ True) ((0 : Int) = (aluV a b c) ∧ ((0 : Int) ≠ 0 ↔ ((aluK a b c) : Int) ≠ 0) ∧ True)))))))))))))))))))))))))))))))
theorem holds (p0 p1 p2 : Int) (l_p0 : -9223372036854775808 ≤ p0) (u_p0 : p0 ≤ 9223372036854775807) (l_p1 : -2147483648 ≤ p1) (u_p1 : p1 ≤ 2147483647) (l_p2 : -2147483648 ≤ p2) (u_p2 : p2 ≤ 2147483647) : P p0 p1 p2 := by
 delta P sL0 Pb Pl Pe Pd W6 W3 U3
 simp only [nrm, Int.reduceEq, Int.reduceNeg, reduceIte]
 have hv : ∀ x op, aluP op p2 → x = aluX op p1 p2 → (x = aluV op p1 p2 ∧ ¬ aluK op p1 p2 = 0) := fun x op h e =>
  ⟨by rw [aluV_of h l_p1 u_p1 l_p2 u_p2, e], aluK_ne.2 h⟩
 have hn : ∀ op, ¬ aluP op p2 → ((0 : Int) = aluV op p1 p2 ∧ aluK op p1 p2 = 0) := fun op h => ⟨(aluV_no h).symm, by unfold aluK; rw [if_neg h]⟩
 refine ⟨fun h => ?_, fun h1 => ?_⟩
 ·subst h; exact hv _ _ (by unfold aluP; omega) (by unfold aluX; simp only [Int.reduceEq, if_false, if_true]; all_goals rfl)
 refine ⟨fun h => ?_, fun h2 => ?_⟩
 ·subst h; exact hv _ _ (by unfold aluP; omega) (by unfold aluX; simp only [Int.reduceEq, if_false, if_true]; all_goals rfl)
 refine ⟨fun h => ?_, fun h3 => ?_⟩
 ·subst h; exact hv _ _ (by unfold aluP; omega) (by unfold aluX; simp only [Int.reduceEq, if_false, if_true]; all_goals rfl)
 refine ⟨fun h => ?_, fun h4 => ?_⟩
 ·subst h; exact hv _ _ (by unfold aluP; omega) (by unfold aluX; simp only [Int.reduceEq, if_false, if_true]; all_goals rfl)
 refine ⟨fun h => ?_, fun h5 => ?_⟩
 ·subst h; exact hv _ _ (by unfold aluP; omega) (by unfold aluX; simp only [Int.reduceEq, if_false, if_true]; all_goals rfl)
 refine ⟨fun h => ?_, fun h6 => ?_⟩
 ·subst h; exact hv _ _ (by unfold aluP; omega) (by unfold aluX; simp only [Int.reduceEq, if_false, if_true]; all_goals rfl)
 refine ⟨fun h => ?_, fun h7 => ?_⟩
 ·subst h; exact hv _ _ (by unfold aluP; omega) (by unfold aluX; simp only [Int.reduceEq, if_false, if_true]; all_goals rfl)
 refine ⟨fun h => ?_, fun h8 => ?_⟩
 ·subst h; exact hv _ _ (by unfold aluP; omega) (by unfold aluX; simp only [Int.reduceEq, if_false, if_true]; all_goals rfl)
 refine ⟨fun h => ?_, fun h9 => ?_⟩
 ·subst h; exact hv _ _ (by unfold aluP; omega) (by unfold aluX; simp only [Int.reduceEq, if_false, if_true]; all_goals rfl)
 refine ⟨fun h => ?_, fun h10 => ?_⟩
 ·subst h; exact hv _ _ (by unfold aluP; omega) (by unfold aluX; simp only [Int.reduceEq, if_false, if_true]; all_goals rfl)
 refine ⟨fun h => ?_, fun h11 => ?_⟩
 ·subst h; exact hv _ _ (by unfold aluP; omega) (by unfold aluX; simp only [Int.reduceEq, if_false, if_true]; all_goals rfl)
 refine ⟨fun h => ?_, fun h12 => ?_⟩
 ·subst h; exact hv _ _ (by unfold aluP; omega) (by unfold aluX; simp only [Int.reduceEq, if_false, if_true]; all_goals rfl)
 refine ⟨fun h => ?_, fun h13 => ?_⟩
 ·subst h; exact ⟨fun g => hv _ _ (by unfold aluP; omega) (by unfold aluX; simp only [Int.reduceEq, if_false, if_true]; rw [if_pos g]), fun g => hv _ _ (by unfold aluP; omega) (by unfold aluX; simp only [Int.reduceEq, if_false, if_true]; rw [if_neg (by omega)])⟩
 refine ⟨fun h => ?_, fun h14 => ?_⟩
 ·subst h; exact ⟨fun g => hv _ _ (by unfold aluP; omega) (by unfold aluX; simp only [Int.reduceEq, if_false, if_true]; rw [if_pos g]), fun g => hv _ _ (by unfold aluP; omega) (by unfold aluX; simp only [Int.reduceEq, if_false, if_true]; rw [if_neg (by omega)])⟩
 refine ⟨fun h => ?_, fun h15 => ?_⟩
 ·subst h; exact ⟨fun g => hv _ _ (by unfold aluP; omega) (by unfold aluX; simp only [Int.reduceEq, if_false, if_true]; rw [if_pos g]), fun g => hv _ _ (by unfold aluP; omega) (by unfold aluX; simp only [Int.reduceEq, if_false, if_true]; rw [if_neg (by omega)])⟩
 refine ⟨fun h => ?_, fun h16 => ?_⟩
 ·subst h; exact hv _ _ (by unfold aluP; omega) (by unfold aluX; simp only [Int.reduceEq, if_false, if_true]; all_goals rfl)
 refine ⟨fun h => ?_, fun h17 => ?_⟩
 ·subst h; exact hv _ _ (by unfold aluP; omega) (by unfold aluX; simp only [Int.reduceEq, if_false, if_true]; all_goals rfl)
 refine ⟨fun h => ?_, fun h18 => ?_⟩
 ·subst h; exact hv _ _ (by unfold aluP; omega) (by unfold aluX; simp only [Int.reduceEq, if_false, if_true]; all_goals rfl)
 refine ⟨fun h => ?_, fun h19 => ?_⟩
 ·subst h; exact hv _ _ (by unfold aluP; omega) (by unfold aluX; simp only [Int.reduceEq, if_false, if_true]; all_goals rfl)
 refine ⟨fun h => ?_, fun h20 => ?_⟩
 ·subst h; exact hv _ _ (by unfold aluP; omega) (by unfold aluX; simp only [Int.reduceEq, if_false, if_true]; all_goals rfl)
 refine ⟨fun h => ?_, fun h21 => ?_⟩
 ·subst h; exact hv _ _ (by unfold aluP; omega) (by unfold aluX; simp only [Int.reduceEq, if_false, if_true]; all_goals rfl)
 refine ⟨fun h => ?_, fun h22 => ?_⟩
 ·subst h; exact ⟨fun g => hn _ (by unfold aluP; omega), fun g => hv _ _ (by unfold aluP; omega) (by unfold aluX; simp only [Int.reduceEq, if_false, if_true])⟩
 refine ⟨fun h => ?_, fun h23 => ?_⟩
 ·subst h; exact ⟨fun g => hn _ (by unfold aluP; omega), fun g => hv _ _ (by unfold aluP; omega) (by unfold aluX; simp only [Int.reduceEq, if_false, if_true])⟩
 refine ⟨fun h => ?_, fun h24 => ?_⟩
 ·subst h; exact hv _ _ (by unfold aluP; omega) (by unfold aluX; simp only [Int.reduceEq, if_false, if_true]; all_goals rfl)
 refine ⟨fun h => ?_, fun h25 => ?_⟩
 ·subst h; exact hv _ _ (by unfold aluP; omega) (by unfold aluX; simp only [Int.reduceEq, if_false, if_true]; all_goals rfl)
 refine ⟨fun h => ?_, fun h26 => ?_⟩
 ·subst h; exact hv _ _ (by unfold aluP; omega) (by unfold aluX; simp only [Int.reduceEq, if_false, if_true]; all_goals rfl)
 refine ⟨fun h => ?_, fun h27 => ?_⟩
 ·subst h; exact ⟨fun g => hv _ _ (by unfold aluP; omega) (by unfold aluX; simp only [Int.reduceEq, if_false, if_true]; rw [if_neg g]), fun g => hv _ _ (by unfold aluP; omega) (by unfold aluX; simp only [Int.reduceEq, if_false, if_true]; rw [if_pos g])⟩
 refine ⟨fun h => ?_, fun h28 => ?_⟩
 ·subst h; exact hv _ _ (by unfold aluP; omega) (by unfold aluX; simp only [Int.reduceEq, if_false, if_true]; all_goals rfl)
 refine ⟨fun h => ?_, fun h29 => ?_⟩
 ·subst h; exact hv _ _ (by unfold aluP; omega) (by unfold aluX; simp only [Int.reduceEq, if_false, if_true]; all_goals rfl)
 refine ⟨fun h => ?_, fun h30 => ?_⟩
 ·subst h; exact hv _ _ (by unfold aluP; omega) (by unfold aluX; simp only [Int.reduceEq, if_false, if_true]; all_goals rfl)
 exact hn _ (by unfold aluP; omega)
theorem plain (i v ro p) : statR 2 rc tree ⟨i, fN, v, ro, p⟩ = P (i 0) (i 1) (i 2) := by kernel_rfl
theorem ran : ranR us (fun _ _ => .auto) rc 2 tree = true := by kernel_rfl
theorem fineT : fineR 2 rc tree = true := by kernel_rfl
theorem ok : RcOk (cxOf 2) rc := okR us_ok ran fineT okb fun i v ro p hρ hcap hpre => by rw [plain]; have q := hρ.hi; exact holds _ _ _ (q 0 _ rfl).1 (q 0 _ rfl).2 (q 1 _ rfl).1 (q 1 _ rfl).2 (q 2 _ rfl).1 (q 2 _ rfl).2
end CADo
namespace CACost
def rc : Rc := ⟨50, [none, none], [.int .i64, .int .i32], [], .one, [.int .i64 (.f 65 (.v 0) (.v 1) (.c 0))]⟩
theorem okb : rc.ok = true := by kernel_rfl
noncomputable def us : SMs := fun Γ ins n => smH (cxG n Γ ins) [] (smAnd 76 (libLen64 Γ ins n) (smR (cxG n Γ ins) [COCost.rc]))
theorem us_ok : SMsOk us := fun Γ ins n => qZp (tabsG n Γ ins) (qZj _) (smAnd_ok (libLen64_ok Γ ins n) (qZm (tabsG n Γ ins) (qQo COCost.okb (rc_n COCost.ok) (qZx _))))
def tree : TT (List E) :=
(.br (.b .eq .i64 (.v 0) (.c 22))
 (.leaf [(.b .padd .i64 (.f 66 (.v 0) (.c 0) (.c 0)) (.f 3 (.w .u64 (.b .max .i64 (.v 1) (.b .psub .i64 (.c 0) (.v 1)))) (.c 0) (.c 0)))])
 (.br (.b .eq .i64 (.v 0) (.c 23))
 (.leaf [(.b .padd .i64 (.f 66 (.v 0) (.c 0) (.c 0)) (.f 3 (.w .u64 (.b .max .i64 (.v 1) (.b .psub .i64 (.c 0) (.v 1)))) (.c 0) (.c 0)))])
 (.leaf [(.f 66 (.v 0) (.c 0) (.c 0))])))
def P (p0 p1 : Int) : Prop :=
 (((qQz (p0 == 22)) ≠ 0 →
  (((opCo p0) + (blen64 (IntKind.wrap .u64 (maxZ p1 (0 - p1))))) : Int) = (aluC p0 p1) ∧ True) ∧ ((qQz (p0 == 22)) = 0 →
  (((qQz (p0 == 23)) ≠ 0 →
   (((opCo p0) + (blen64 (IntKind.wrap .u64 (maxZ p1 (0 - p1))))) : Int) = (aluC p0 p1) ∧ True) ∧ ((qQz (p0 == 23)) = 0 →
   ((opCo p0) : Int) = (aluC p0 p1) ∧ True))))
theorem holds (p0 p1 : Int) (l_p0 : -9223372036854775808 ≤ p0) (u_p0 : p0 ≤ 9223372036854775807) (l_p1 : -2147483648 ≤ p1) (u_p1 : p1 ≤ 2147483647) : P p0 p1 := by
 unfold P
 simp only [nrm, Int.reduceEq, Int.reduceNeg, reduceIte]
 have e : ∀ p, p = 22 ∨ p = 23 → opCo p + blen64 (IntKind.wrap .u64 (maxZ p1 (0 - p1))) = aluC p p1 := fun p h => by unfold aluC; rw [if_pos h]; rfl
 refine ⟨fun h => e _ (.inl h), fun h => ⟨fun h => e _ (.inr h), fun h => ?_⟩⟩
 unfold aluC; rw [if_neg (by omega)]; omega
theorem plain (i v ro p) : statR 2 rc tree ⟨i, fN, v, ro, p⟩ = P (i 0) (i 1) := by kernel_rfl
theorem ran : ranR us (fun _ _ => .auto) rc 2 tree = true := by kernel_rfl
theorem fineT : fineR 2 rc tree = true := by kernel_rfl
theorem ok : RcOk (cxOf 2) rc := okR us_ok ran fineT okb fun i v ro p hρ hcap hpre => by rw [plain]; have q := hρ.hi; exact holds _ _ (q 0 _ rfl).1 (q 0 _ rfl).2 (q 1 _ rfl).1 (q 1 _ rfl).2
end CACost
end Go.Proofs.YteimodjkllldlaaGreatDoor
