/-
  What functions of the program answer, as numbers of what they are handed: their runs by the engine, the plain statements behind them. No condition.
-/
import Derived.Test.YtfkdlidcogpncaaGreatDoorKd
import Derived.Test.YtfkdlidcogpncaaGreatDoorKi
import Derived.Test.YtfkdlidcogpncaaGreatDoorGab
import Derived.Test.YtfkdlidcogpncaaGreatDoorGmM
import Derived.Test.YtfkdlidcogpncaaGreatDoorGmO
set_option linter.unusedVariables false
set_option linter.unusedSimpArgs false
set_option maxRecDepth 100000
namespace Go.Proofs.YtfkdlidcogpncaaGreatDoor
open Go.Eng Go.RowKit
namespace CRFReck
def rk : Rk := ⟨40, [(1, 30), (0, 31), (0, 31), (0, 31), (-32768, 65535), (-9223372036854775808, 9223372036854775807), (0, 0), (0, 999999), (0, 2048), (0, 2048), (0, 16384), (0, 1000000), (0, 1000000), (0, 1000000), (0, 1000000)], 30, [.ptr 0 0, .agg [.int .i64 (.v 0), .int .i64 (.v 1), .int .i64 (.v 2), .int .i64 (.v 3), .int .i64 (.v 4)]], [.cells (([.sl (.inp 0) 1 (.c 0) (.v 10) (some (.v 25)), .sl (.inp 1) 1 (.c 0) (.v 11) (some (.v 26)), .sl (.inp 2) 1 (.c 0) (.v 12) (some (.v 27)), .sl (.inp 3) 1 (.c 0) (.v 13) (some (.v 28)), .sl (.inp 4) 1 (.c 0) (.v 14) (some (.v 29))] : List SV) ++ bk32 (.v 15) ++ bkB (.v 16) ++ ([.sl (.own 1) 1 (.c 0) (.v 8) none, .sl (.own 2) 1 (.c 0) (.v 9) none, .sl (.own 3) 3 (.c 0) (.v 7) none, .int .i64 (.v 6), .int .i64 (.v 5)] : List SV)) 59 none, .arr [.int .i32] 21 (.v 17) (.v 8), .arr [.bool] 4 (.v 18) (.v 9), .arr [.int .i64, .int .i64, .int .i64] 40 (.v 19) (.v 7)], [], .tup [], [.cells (([.sl (.inp 0) 1 (.c 0) (.v 10) (some (.v 25)), .sl (.inp 1) 1 (.c 0) (.v 11) (some (.v 26)), .sl (.inp 2) 1 (.c 0) (.v 12) (some (.v 27)), .sl (.inp 3) 1 (.c 0) (.v 13) (some (.v 28)), .sl (.inp 4) 1 (.c 0) (.v 14) (some (.v 29))] : List SV) ++ bk32 (.v 1000000) ++ bkB (.v 1000001) ++ ([.sl (.own 1) 1 (.c 0) (.v 8) none, .sl (.own 2) 1 (.c 0) (.v 9) none, .sl (.own 4) 3 (.c 0) (.v 1000004) none, .int .i64 (.v 1000003), .int .i64 (.v 1000002)] : List SV)) 59 none, .arr [.int .i32] 21 (.v 17) (.v 8), .arr [.bool] 4 (.v 18) (.v 9), .gone, .arr [.int .i64, .int .i64, .int .i64] 40 (.v 1000005) (.v 1000004)], [.code [.int .i32] (.f 13 (.f 100 (.v 0) (.v 1) (qQv [(.v 2), (.v 3), (.v 4), (.v 8), (.v 15), (.v 16), (.v 17), (.v 18), (.v 5), (.v 6), (.v 19), (.v 7)])) (.c 0) (.c 0)) (.c 32), .code [.bool] (.f 13 (.f 100 (.v 0) (.v 1) (qQv [(.v 2), (.v 3), (.v 4), (.v 8), (.v 15), (.v 16), (.v 17), (.v 18), (.v 5), (.v 6), (.v 19), (.v 7)])) (.c 1) (.c 0)) (.c 32), .num (.w .i64 (.f 13 (.f 100 (.v 0) (.v 1) (qQv [(.v 2), (.v 3), (.v 4), (.v 8), (.v 15), (.v 16), (.v 17), (.v 18), (.v 5), (.v 6), (.v 19), (.v 7)])) (.c 4) (.c 0))), .num (.w .i64 (.f 13 (.f 100 (.v 0) (.v 1) (qQv [(.v 2), (.v 3), (.v 4), (.v 8), (.v 15), (.v 16), (.v 17), (.v 18), (.v 5), (.v 6), (.v 19), (.v 7)])) (.c 5) (.c 0))), .num (.w .i64 (.f 13 (.f 100 (.v 0) (.v 1) (qQv [(.v 2), (.v 3), (.v 4), (.v 8), (.v 15), (.v 16), (.v 17), (.v 18), (.v 5), (.v 6), (.v 19), (.v 7)])) (.c 7) (.c 0))), .code [.int .i64, .int .i64, .int .i64] (.f 13 (.f 100 (.v 0) (.v 1) (qQv [(.v 2), (.v 3), (.v 4), (.v 8), (.v 15), (.v 16), (.v 17), (.v 18), (.v 5), (.v 6), (.v 19), (.v 7)])) (.c 6) (.c 0)) (.w .i64 (.f 13 (.f 100 (.v 0) (.v 1) (qQv [(.v 2), (.v 3), (.v 4), (.v 8), (.v 15), (.v 16), (.v 17), (.v 18), (.v 5), (.v 6), (.v 19), (.v 7)])) (.c 7) (.c 0)))], [⟨[.int .u32], (.v 20), (.v 10), (.v 25), none⟩, ⟨[.int .i32], (.v 21), (.v 11), (.v 26), none⟩, ⟨[.bool], (.v 22), (.v 12), (.v 27), none⟩, ⟨[.int .i64], (.v 23), (.v 13), (.v 28), none⟩, ⟨[.int .i64], (.v 24), (.v 14), (.v 29), none⟩]⟩
theorem okk : rk.ok = true := by kernel_rfl
theorem okh : rk.rh.ok = true := by kernel_rfl
noncomputable def us : SMs := fun Γ ins n => smH (cxG n Γ ins) [CRFSet.rk.rh] (smR (cxG n Γ ins) [CRDo.rc, CRCost7.rc])
theorem us_ok : SMsOk us := fun Γ ins n => qQp (tabsG n Γ ins) (qZn CRFSet.okh (rh_n CRFSet.ok) (qQa _)) (qQn (tabsG n Γ ins) (qQk CRDo.okb (rc_n CRDo.ok) (qQk CRCost7.okb (rc_n CRCost7.ok) (qQb _))))
def Q0 : E := (tR (.v 15) (.v 2))
def Q1 : E := (t3 Q0)
def Q2 : E := (tR (.v 15) (.v 3))
def Q3 : E := (t3 Q2)
def Q4 : E := (.f 65 (.v 0) Q1 (.c 0))
def Q5 : E := (.cl 1000 (-2147483648) 2147483647)
def Q6 : E := (tR (.v 16) (.v 3))
def Q7 : E := (tp (.v 5) (.c 1))
def Q8 : E := (t6 Q7)
def Q9 : E := (tp (.v 7) (.c 1))
def Q10 : E := (tC (.cl 1002 0 67) (.c 0))
def Q11 : E := (tC (.c (-1)) Q10)
def Q12 : E := (tC (.v 5) Q11)
def Q13 : E := (.f 14 (.v 19) (.v 7) Q12)
def tree : TT (List E) :=
 (.new 1000 (.f 63 (.v 0) Q1 Q3) (.new 1001 (.f 64 (.v 0) Q1 Q3) (.br (.nt (.cl 1001 0 1)) (.leaf [(.v 15), (.v 16), (.v 5), (.c 5), (.v 7), (.v 19)]) (.br (tR (.v 16) (.v 2)) (.br (tl (.v 0) (.c 23)) (.new 1002 Q4 (.leaf [(.f 98 (.v 15) (.v 1) (tC Q5 (tC Q6 (.c 0)))), (.f 99 (.v 16) (.v 1) Q6), Q8, (.v 6), Q9, Q13])) (.br (tk (.c 23) (.v 0)) (.new 1002 Q4 (.leaf [(.f 98 (.v 15) (.v 1) (tC Q5 (tC (.c 1) (.c 0)))), (.f 99 (.v 16) (.v 1) (.c 1)), Q8, (.v 6), Q9, Q13])) (.bad 283))) (.new 1002 Q4 (.leaf [(.f 98 (.v 15) (.v 1) (tC Q5 (tC (.c 0) (.c 0)))), (.f 99 (.v 16) (.v 1) (.c 0)), Q8, (.v 6), Q9, Q13]))))))
noncomputable def sq0 (op d a b n nr rx rk rm hv pc st mq nm : Int) : Int := (rdoZ op d (kZ a (kZ b (kZ n (kZ nr (kZ rx (kZ rk (kZ rm (kZ hv (kZ pc (kZ st (kZ mq (kZ nm 0)))))))))))))
def sL0 (op d a b n nr rx rk rm hv pc st mq nm z0 z3 z6 z8 z10 z12 : Int) : Prop := qQw [.int .i32] z0 (rdZ (sq0 op d a b n nr rx rk rm hv pc st mq nm) 0) 32 ∧ qQw [.bool] z3 (rdZ (sq0 op d a b n nr rx rk rm hv pc st mq nm) 1) 32 ∧ (z6 : Int) = (W6 (rdZ (sq0 op d a b n nr rx rk rm hv pc st mq nm) 4)) ∧ (z8 : Int) = (W6 (rdZ (sq0 op d a b n nr rx rk rm hv pc st mq nm) 5)) ∧ (z10 : Int) = (W6 (rdZ (sq0 op d a b n nr rx rk rm hv pc st mq nm) 7)) ∧ qQw [.int .i64, .int .i64, .int .i64] z12 (rdZ (sq0 op d a b n nr rx rk rm hv pc st mq nm) 6) (W6 (rdZ (sq0 op d a b n nr rx rk rm hv pc st mq nm) 7)) ∧ True
def P (op d a b n pc st nm nr nh nK nD nS nI nO rx rk rm hv mq cK cD cS cI cO rK rD rS rI rO : Int) : Prop :=
 Pn (aluV op (W3 (rdZ rx a)) (W3 (rdZ rx b))) (-2147483648) 2147483647 fun y0 => Pn (aluK op (W3 (rdZ rx a)) (W3 (rdZ rx b))) 0 1 fun y1 => (Pb (Pe y1 0) (sL0 op d a b n nr rx rk rm hv pc st mq nm rx rk pc 5 nm mq) (Pb (rdZ rk a) (Pb (PL op 23) (Pn (aluC op (W3 (rdZ rx a))) 0 67 fun y2 => (sL0 op d a b n nr rx rk rm hv pc st mq nm (rsxZ rx d (kZ y0 (kZ (rdZ rk b) 0))) (rskZ rk d (rdZ rk b)) (W6 (pc + 1)) st (nm + 1) (updZ mq nm (kZ pc (kZ (-1) (kZ y2 0)))))) (Pm (Pl 23 op) (Pn (aluC op (W3 (rdZ rx a))) 0 67 fun y2 => (sL0 op d a b n nr rx rk rm hv pc st mq nm (rsxZ rx d (kZ y0 (kZ 1 0))) (rskZ rk d 1) (W6 (pc + 1)) st (nm + 1) (updZ mq nm (kZ pc (kZ (-1) (kZ y2 0)))))))) (Pn (aluC op (W3 (rdZ rx a))) 0 67 fun y2 => (sL0 op d a b n nr rx rk rm hv pc st mq nm (rsxZ rx d (kZ y0 (kZ 0 0)))
 (rskZ rk d 0) (W6 (pc + 1)) st (nm + 1) (updZ mq nm (kZ pc (kZ (-1) (kZ y2 0))))))))
theorem holds (op d a b n pc st nm nr nh nK nD nS nI nO rx rk rm hv mq cK cD cS cI cO rK rD rS rI rO : Int) (l_op : 1 ≤ op) (u_op : op ≤ 30) (l_d : 0 ≤ d) (u_d : d ≤ 31) (l_a : 0 ≤ a) (u_a : a ≤ 31) (l_b : 0 ≤ b) (u_b : b ≤ 31) (l_n : -32768 ≤ n) (u_n : n ≤ 65535) (l_pc : -9223372036854775808 ≤ pc) (u_pc : pc ≤ 9223372036854775807) (l_st : 0 ≤ st) (u_st : st ≤ 0) (l_nm : 0 ≤ nm) (u_nm : nm ≤ 999999) (l_nr : 0 ≤ nr) (u_nr : nr ≤ 2048) (l_nh : 0 ≤ nh) (u_nh : nh ≤ 2048) (l_nK : 0 ≤ nK) (u_nK : nK ≤ 16384) (l_nD : 0 ≤ nD) (u_nD : nD ≤ 1000000) (l_nS : 0 ≤ nS) (u_nS : nS ≤ 1000000) (l_nI : 0 ≤ nI) (u_nI : nI ≤ 1000000) (l_nO : 0 ≤ nO) (u_nO : nO ≤ 1000000) : P op d a b n pc st nm nr nh nK nD nS nI nO rx rk rm hv mq cK cD cS cI cO rK rD rS rI rO := by
 delta P sq0 sL0 Pb Pm Pn PL Pl Pe W6 W3 kZ
 simp only [nrm, nro, Int.reduceEq, Int.reduceNeg, reduceIte]
 have hpc : I64 pc := ⟨l_pc, u_pc⟩
 have hp1 : I64 (IntKind.wrap .i64 (pc + 1)) := qKp _
 have hst : I64 st := by unfold I64; omega
 have hnm : I64 nm := by unfold I64; omega
 have hn1 : I64 (nm + 1) := by unfold I64; omega
 have h5 : I64 5 := by unfold I64; omega
 rintro _ rfl - _ rfl -
 have fr := rdo_reck (op := op) (d := d) (a := a) (b := b) (n := n) (nr := nr) (rx := rx) (rk := rk) (rm := rm) (hv := hv) (pc := pc) (st := st) (mq := mq) (nm := nm) u_op
 refine ⟨fun h => r_leaf (fr.trans (rreck_no h)) hpc h5 hnm, fun h => ⟨fun g => ⟨fun o => ?_, fun o => ?_⟩, fun g => ?_⟩⟩
 ·rintro _ rfl -; exact r_leaf (fr.trans (rreck_yes h (by rw [if_pos g, if_pos o]))) hp1 hst hn1
 ·refine ⟨o, ?_⟩
  rintro _ rfl -; exact r_leaf (fr.trans (rreck_yes h (by rw [if_pos g, if_neg (by omega)]))) hp1 hst hn1
 ·rintro _ rfl -; exact r_leaf (fr.trans (rreck_yes h (by rw [if_neg (by omega)]))) hp1 hst hn1
theorem plain (i v ro p) : statH 2 rk tree ⟨i, fN, v, ro, p⟩ = P (i 0) (i 1) (i 2) (i 3) (i 4) (i 5) (i 6) (i 7) (i 8) (i 9) (i 10) (i 11) (i 12) (i 13) (i 14) (i 15) (i 16) (i 17) (i 18) (i 19) (i 20) (i 21) (i 22) (i 23) (i 24) (i 25) (i 26) (i 27) (i 28) (i 29) := by kernel_rfl
theorem ran : ranH us (fun _ _ => .auto) rk 2 tree = true := by kernel_rfl
theorem fineT : fineH 2 rk tree = true := by kernel_rfl
theorem ok : RhOk (cxOf 2) rk.rh := okH us_ok ran fineT (by kernel_rfl) okk fun i v ro p hρ hpre => by rw [plain]; have q := hρ.hi; exact holds _ _ _ _ _ _ _ _ _ _ _ _ _ _ _ _ _ _ _ _ _ _ _ _ _ _ _ _ _ _ (q 0 _ rfl).1 (q 0 _ rfl).2 (q 1 _ rfl).1 (q 1 _ rfl).2 (q 2 _ rfl).1 (q 2 _ rfl).2 (q 3 _ rfl).1 (q 3 _ rfl).2 (q 4 _ rfl).1 (q 4 _ rfl).2 (q 5 _ rfl).1 (q 5 _ rfl).2 (q 6 _ rfl).1 (q 6 _ rfl).2 (q 7 _ rfl).1 (q 7 _ rfl).2 (q 8 _ rfl).1 (q 8 _ rfl).2 (q 9 _ rfl).1 (q 9 _ rfl).2 (q 10 _ rfl).1 (q 10 _ rfl).2 (q 11 _ rfl).1 (q 11 _ rfl).2 (q 12 _ rfl).1 (q 12 _ rfl).2 (q 13 _ rfl).1 (q 13 _ rfl).2 (q 14 _ rfl).1 (q 14 _ rfl).2
end CRFReck
namespace CRFMem
def rk : Rk := ⟨39, [(34, 35), (0, 31), (0, 31), (0, 31), (-32768, 65535), (-9223372036854775808, 9223372036854775807), (0, 0), (0, 999999), (0, 2048), (0, 2048), (0, 16384), (0, 1000000), (0, 1000000), (0, 1000000), (0, 1000000)], 30, [.ptr 0 0, .agg [.int .i64 (.v 0), .int .i64 (.v 1), .int .i64 (.v 2), .int .i64 (.v 3), .int .i64 (.v 4)]], [.cells (([.sl (.inp 0) 1 (.c 0) (.v 10) (some (.v 25)), .sl (.inp 1) 1 (.c 0) (.v 11) (some (.v 26)), .sl (.inp 2) 1 (.c 0) (.v 12) (some (.v 27)), .sl (.inp 3) 1 (.c 0) (.v 13) (some (.v 28)), .sl (.inp 4) 1 (.c 0) (.v 14) (some (.v 29))] : List SV) ++ bk32 (.v 15) ++ bkB (.v 16) ++ ([.sl (.own 1) 1 (.c 0) (.v 8) none, .sl (.own 2) 1 (.c 0) (.v 9) none, .sl (.own 3) 3 (.c 0) (.v 7) none, .int .i64 (.v 6), .int .i64 (.v 5)] : List SV)) 59 none, .arr [.int .i32] 21 (.v 17) (.v 8), .arr [.bool] 4 (.v 18) (.v 9), .arr [.int .i64, .int .i64, .int .i64] 40 (.v 19) (.v 7)], [(.b .eq .i64 (.v 8) (.v 9))], .tup [], [.cells (([.sl (.inp 0) 1 (.c 0) (.v 10) (some (.v 25)), .sl (.inp 1) 1 (.c 0) (.v 11) (some (.v 26)), .sl (.inp 2) 1 (.c 0) (.v 12) (some (.v 27)), .sl (.inp 3) 1 (.c 0) (.v 13) (some (.v 28)), .sl (.inp 4) 1 (.c 0) (.v 14) (some (.v 29))] : List SV) ++ bk32 (.v 1000000) ++ bkB (.v 1000001) ++ ([.sl (.own 1) 1 (.c 0) (.v 8) none, .sl (.own 2) 1 (.c 0) (.v 9) none, .sl (.own 4) 3 (.c 0) (.v 1000006) none, .int .i64 (.v 1000005), .int .i64 (.v 1000004)] : List SV)) 59 none, .arr [.int .i32] 21 (.v 1000002) (.v 8), .arr [.bool] 4 (.v 1000003) (.v 9), .gone, .arr [.int .i64, .int .i64, .int .i64] 40 (.v 1000007) (.v 1000006)], [.code [.int .i32] (.f 13 (.f 100 (.v 0) (.v 1) (qQv [(.v 2), (.v 3), (.v 4), (.v 8), (.v 15), (.v 16), (.v 17), (.v 18), (.v 5), (.v 6), (.v 19), (.v 7)])) (.c 0) (.c 0)) (.c 32), .code [.bool] (.f 13 (.f 100 (.v 0) (.v 1) (qQv [(.v 2), (.v 3), (.v 4), (.v 8), (.v 15), (.v 16), (.v 17), (.v 18), (.v 5), (.v 6), (.v 19), (.v 7)])) (.c 1) (.c 0)) (.c 32), .code [.int .i32] (.f 13 (.f 100 (.v 0) (.v 1) (qQv [(.v 2), (.v 3), (.v 4), (.v 8), (.v 15), (.v 16), (.v 17), (.v 18), (.v 5), (.v 6), (.v 19), (.v 7)])) (.c 2) (.c 0)) (.v 8), .code [.bool] (.f 13 (.f 100 (.v 0) (.v 1) (qQv [(.v 2), (.v 3), (.v 4), (.v 8), (.v 15), (.v 16), (.v 17), (.v 18), (.v 5), (.v 6), (.v 19), (.v 7)])) (.c 3) (.c 0)) (.v 9), .num (.w .i64 (.f 13 (.f 100 (.v 0) (.v 1) (qQv [(.v 2), (.v 3), (.v 4), (.v 8), (.v 15), (.v 16), (.v 17), (.v 18), (.v 5), (.v 6), (.v 19), (.v 7)])) (.c 4) (.c 0))), .num (.w .i64 (.f 13 (.f 100 (.v 0) (.v 1) (qQv [(.v 2), (.v 3), (.v 4), (.v 8), (.v 15), (.v 16), (.v 17), (.v 18), (.v 5), (.v 6), (.v 19), (.v 7)])) (.c 5) (.c 0))), .num (.w .i64 (.f 13 (.f 100 (.v 0) (.v 1) (qQv [(.v 2), (.v 3), (.v 4), (.v 8), (.v 15), (.v 16), (.v 17), (.v 18), (.v 5), (.v 6), (.v 19), (.v 7)])) (.c 7) (.c 0))), .code [.int .i64, .int .i64, .int .i64] (.f 13 (.f 100 (.v 0) (.v 1) (qQv [(.v 2), (.v 3), (.v 4), (.v 8), (.v 15), (.v 16), (.v 17), (.v 18), (.v 5), (.v 6), (.v 19), (.v 7)])) (.c 6) (.c 0)) (.w .i64 (.f 13 (.f 100 (.v 0) (.v 1) (qQv [(.v 2), (.v 3), (.v 4), (.v 8), (.v 15), (.v 16), (.v 17), (.v 18), (.v 5), (.v 6), (.v 19), (.v 7)])) (.c 7) (.c 0)))], [⟨[.int .u32], (.v 20), (.v 10), (.v 25), none⟩, ⟨[.int .i32], (.v 21), (.v 11), (.v 26), none⟩, ⟨[.bool], (.v 22), (.v 12), (.v 27), none⟩, ⟨[.int .i64], (.v 23), (.v 13), (.v 28), none⟩, ⟨[.int .i64], (.v 24), (.v 14), (.v 29), none⟩]⟩
theorem okk : rk.ok = true := by kernel_rfl
theorem okh : rk.rh.ok = true := by kernel_rfl
noncomputable def us : SMs := fun Γ ins n => smH (cxG n Γ ins) [CRFSet.rk.rh] (smR (cxG n Γ ins) [CRLow.rc])
theorem us_ok : SMsOk us := fun Γ ins n => qQp (tabsG n Γ ins) (qZn CRFSet.okh (rh_n CRFSet.ok) (qQa _)) (qQn (tabsG n Γ ins) (qQk CRLow.okb (rc_n CRLow.ok) (qQb _)))
def Q0 : E := (.cl 1000 (-2147516416) 2147549182)
def Q1 : E := (t3 Q0)
def Q2 : E := (tl (.c 0) Q1)
def Q3 : E := (tk Q1 (.v 8))
def Q4 : E := (tk Q1 (.v 9))
def Q5 : E := (tl (.c 1024) Q1)
def Q6 : E := (.cl 1001 (-2147483648) 2147483647)
def Q7 : E := (tR (.v 18) Q1)
def Q8 : E := (tC Q7 (.c 0))
def Q9 : E := (tC Q6 Q8)
def Q10 : E := (.f 98 (.v 15) (.v 1) Q9)
def Q11 : E := (.f 99 (.v 16) (.v 1) Q7)
def Q12 : E := (tp (.v 5) (.c 1))
def Q13 : E := (t6 Q12)
def Q14 : E := (tp (.v 7) (.c 1))
def Q15 : E := (tC Q1 (tC (.c 3) (.c 0)))
def Q16 : E := (tC (.v 5) Q15)
def Q17 : E := (.f 14 (.v 19) (.v 7) Q16)
def Q18 : E := (tC Q1 (tC (.c 2) (.c 0)))
def Q19 : E := (tC (.v 5) Q18)
def Q20 : E := (.f 14 (.v 19) (.v 7) Q19)
def Q21 : E := (tR (.v 15) (.v 1))
def Q22 : E := (t3 Q21)
def Q23 : E := (.f 14 (.v 17) Q1 Q22)
def Q24 : E := (tR (.v 16) (.v 1))
def Q25 : E := (.f 14 (.v 18) Q1 Q24)
def tree : TT (List E) :=
 (.new 1000 (tp (t3 (tR (.v 15) (.v 2))) (.v 4)) (.br (tk Q1 (.c 0)) (.leaf [(.v 15), (.v 16), (.v 17), (.v 18), (.v 5), (.c 4), (.v 7), (.v 19)]) (.br (tl (.v 8) Q1) (.leaf [(.v 15), (.v 16), (.v 17), (.v 18), (.v 5), (.c 4), (.v 7), (.v 19)]) (.br (te (.v 0) (.c 34)) (.br Q2 (.br Q3 (.new 1001 (t3 (tR (.v 17) Q1)) (.br Q4 (.br Q5 (.leaf [Q10, Q11, (.v 17), (.v 18), Q13, (.v 6), Q14, Q17]) (.leaf [Q10, Q11, (.v 17), (.v 18), Q13, (.v 6), Q14, Q20])) (.bad 200))) (.bad 200)) (.bad 200)) (.br Q2 (.br Q3 (.br Q4 (.br Q5 (.leaf [(.v 15), (.v 16), Q23, Q25, Q13, (.v 6), Q14, Q17]) (.leaf [(.v 15), (.v 16), Q23, Q25, Q13, (.v 6), Q14, Q20])) (.bad 200)) (.bad 200)) (.bad 200))))))
noncomputable def sq0 (op d a b n nr rx rk rm hv pc st mq nm : Int) : Int := (rdoZ op d (kZ a (kZ b (kZ n (kZ nr (kZ rx (kZ rk (kZ rm (kZ hv (kZ pc (kZ st (kZ mq (kZ nm 0)))))))))))))
def sL0 (op d a b n nr rx rk rm hv pc st mq nm nh z0 z3 z6 z9 z12 z14 z16 z18 : Int) : Prop := qQw [.int .i32] z0 (rdZ (sq0 op d a b n nr rx rk rm hv pc st mq nm) 0) 32 ∧ qQw [.bool] z3 (rdZ (sq0 op d a b n nr rx rk rm hv pc st mq nm) 1) 32 ∧ qQw [.int .i32] z6 (rdZ (sq0 op d a b n nr rx rk rm hv pc st mq nm) 2) nr ∧ qQw [.bool] z9 (rdZ (sq0 op d a b n nr rx rk rm hv pc st mq nm) 3) nh ∧ (z12 : Int) = (W6 (rdZ (sq0 op d a b n nr rx rk rm hv pc st mq nm) 4)) ∧ (z14 : Int) = (W6 (rdZ (sq0 op d a b n nr rx rk rm hv pc st mq nm) 5)) ∧ (z16 : Int) = (W6 (rdZ (sq0 op d a b n nr rx rk rm hv pc st mq nm) 7)) ∧ qQw [.int .i64, .int .i64, .int .i64] z18 (rdZ (sq0 op d a b n nr rx rk rm hv pc st mq nm) 6) (W6 (rdZ (sq0 op d a b n nr rx rk rm hv pc st mq nm) 7)) ∧ True
def P (op d a b n pc st nm nr nh nK nD nS nI nO rx rk rm hv mq cK cD cS cI cO rK rD rS rI rO : Int) : Prop :=
 Pn ((W3 (rdZ rx a)) + n) (-2147516416) 2147549182 fun y0 => (Pb (Pl (W3 y0) 0) (sL0 op d a b n nr rx rk rm hv pc st mq nm nh rx rk rm hv pc 4 nm mq) (Pb (PL nr (W3 y0)) (sL0 op d a b n nr rx rk rm hv pc st mq nm nh rx rk rm hv pc 4 nm mq) (Pb (Pe op 34) (Pm (PL 0 (W3 y0)) (Pm (Pl (W3 y0) nr) (Pn (W3 (rdZ rm (W3 y0))) (-2147483648) 2147483647 fun y1 => (Pm (Pl (W3 y0) nh) (Pb (PL 1024 (W3 y0)) (sL0 op d a b n nr rx rk rm hv pc st mq nm nh (rsxZ rx d (kZ y1 (kZ (rdZ hv (W3 y0)) 0))) (rskZ rk d (rdZ hv (W3 y0))) rm hv (W6 (pc + 1)) st (nm + 1) (updZ mq nm (kZ pc (kZ (W3 y0) (kZ 3 0))))) (sL0 op d a b n nr rx rk rm hv pc st mq nm nh (rsxZ rx d (kZ y1 (kZ (rdZ hv (W3 y0)) 0))) (rskZ rk d (rdZ hv (W3 y0))) rm hv (W6 (pc + 1)) st (nm + 1) (updZ mq nm (kZ pc (kZ (W3 y0) (kZ 2 0)))))))))) (Pm (PL
 0 (W3 y0)) (Pm (Pl (W3 y0) nr) (Pm (Pl (W3 y0) nh) (Pb (PL 1024 (W3 y0)) (sL0 op d a b n nr rx rk rm hv pc st mq nm nh rx rk (updZ rm (W3 y0) (W3 (rdZ rx d))) (updZ hv (W3 y0) (rdZ rk d)) (W6 (pc + 1)) st (nm + 1) (updZ mq nm (kZ pc (kZ (W3 y0) (kZ 3 0))))) (sL0 op d a b n nr rx rk rm hv pc st mq nm nh rx rk (updZ rm (W3 y0) (W3 (rdZ rx d))) (updZ hv (W3 y0) (rdZ rk d)) (W6 (pc + 1)) st (nm + 1) (updZ mq nm (kZ pc (kZ (W3 y0) (kZ 2 0))))))))))))
theorem holds (op d a b n pc st nm nr nh nK nD nS nI nO rx rk rm hv mq cK cD cS cI cO rK rD rS rI rO : Int) (l_op : 34 ≤ op) (u_op : op ≤ 35) (l_d : 0 ≤ d) (u_d : d ≤ 31) (l_a : 0 ≤ a) (u_a : a ≤ 31) (l_b : 0 ≤ b) (u_b : b ≤ 31) (l_n : -32768 ≤ n) (u_n : n ≤ 65535) (l_pc : -9223372036854775808 ≤ pc) (u_pc : pc ≤ 9223372036854775807) (l_st : 0 ≤ st) (u_st : st ≤ 0) (l_nm : 0 ≤ nm) (u_nm : nm ≤ 999999) (l_nr : 0 ≤ nr) (u_nr : nr ≤ 2048) (l_nh : 0 ≤ nh) (u_nh : nh ≤ 2048) (l_nK : 0 ≤ nK) (u_nK : nK ≤ 16384) (l_nD : 0 ≤ nD) (u_nD : nD ≤ 1000000) (l_nS : 0 ≤ nS) (u_nS : nS ≤ 1000000) (l_nI : 0 ≤ nI) (u_nI : nI ≤ 1000000) (l_nO : 0 ≤ nO) (u_nO : nO ≤ 1000000) (h_pre0 : qQz (nr  ==  nh) ≠ 0) : P op d a b n pc st nm nr nh nK nD nS nI nO rx rk rm hv mq cK cD cS cI cO rK rD rS rI rO := by
 delta P sq0 sL0 Pb Pm Pn PL Pl Pe W6 W3 kZ
 have hS : nr = nh := by simpa [qQz] using h_pre0
 subst hS
 simp only [nrm, nro, Int.reduceEq, Int.reduceNeg, reduceIte]
 have hpc : I64 pc := ⟨l_pc, u_pc⟩
 have hp1 : I64 (IntKind.wrap .i64 (pc + 1)) := qKp _
 have hst : I64 st := by unfold I64; omega
 have hnm : I64 nm := by unfold I64; omega
 have hn1 : I64 (nm + 1) := by unfold I64; omega
 have h4 : I64 4 := by unfold I64; omega
 rintro _ rfl -
 have hop : op = 34 ∨ op = 35 := by omega
 generalize hA : IntKind.wrap .i32 (IntKind.wrap .i32 (rdZ rx a) + n) = A
 have hd := rdmem (d := d) (a := a) (b := b) (n := n) (nr := nr) (rx := rx) (rk := rk) (rm := rm) (hv := hv) (pc := pc) (st := st) (mq := mq) (nm := nm) hop
 rw [hA] at hd
 refine ⟨fun h => r_leafm (hd.trans (rmem_no (.inl h))) hpc h4 hnm, fun h => ⟨fun h' => r_leafm (hd.trans (rmem_no (.inr h'))) hpc h4 hnm, fun h' => ?_⟩⟩
 refine ⟨fun o => ⟨h, h', ?_⟩, fun o => ⟨h, h', h', fun g => ?_, fun g => ?_⟩⟩
 ·rintro _ rfl -
  exact ⟨h', fun g => r_leafm (hd.trans (rmem_lw h h' o (by rw [if_pos g]))) hp1 hst hn1, fun g => r_leafm (hd.trans (rmem_lw h h' o (by rw [if_neg (by omega)]))) hp1 hst hn1⟩
 ·exact r_leafm (hd.trans (rmem_sw h h' (by omega) (by rw [if_pos g]))) hp1 hst hn1
 ·exact r_leafm (hd.trans (rmem_sw h h' (by omega) (by rw [if_neg (by omega)]))) hp1 hst hn1
theorem plain (i v ro p) : statH 2 rk tree ⟨i, fN, v, ro, p⟩ = P (i 0) (i 1) (i 2) (i 3) (i 4) (i 5) (i 6) (i 7) (i 8) (i 9) (i 10) (i 11) (i 12) (i 13) (i 14) (i 15) (i 16) (i 17) (i 18) (i 19) (i 20) (i 21) (i 22) (i 23) (i 24) (i 25) (i 26) (i 27) (i 28) (i 29) := by kernel_rfl
theorem ran : ranH us (fun _ _ => .auto) rk 2 tree = true := by kernel_rfl
theorem fineT : fineH 2 rk tree = true := by kernel_rfl
theorem ok : RhOk (cxOf 2) rk.rh := okH us_ok ran fineT (by kernel_rfl) okk fun i v ro p hρ hpre => by rw [plain]; have q := hρ.hi; exact holds _ _ _ _ _ _ _ _ _ _ _ _ _ _ _ _ _ _ _ _ _ _ _ _ _ _ _ _ _ _ (q 0 _ rfl).1 (q 0 _ rfl).2 (q 1 _ rfl).1 (q 1 _ rfl).2 (q 2 _ rfl).1 (q 2 _ rfl).2 (q 3 _ rfl).1 (q 3 _ rfl).2 (q 4 _ rfl).1 (q 4 _ rfl).2 (q 5 _ rfl).1 (q 5 _ rfl).2 (q 6 _ rfl).1 (q 6 _ rfl).2 (q 7 _ rfl).1 (q 7 _ rfl).2 (q 8 _ rfl).1 (q 8 _ rfl).2 (q 9 _ rfl).1 (q 9 _ rfl).2 (q 10 _ rfl).1 (q 10 _ rfl).2 (q 11 _ rfl).1 (q 11 _ rfl).2 (q 12 _ rfl).1 (q 12 _ rfl).2 (q 13 _ rfl).1 (q 13 _ rfl).2 (q 14 _ rfl).1 (q 14 _ rfl).2 (hpre _ (mg 0 rfl))
end CRFMem
namespace CRFStep
def rk : Rk := ⟨14, [(-9223372036854775808, 9223372036854775807), (0, 0), (0, 999999), (0, 2048), (0, 2048), (0, 16384), (0, 1000000), (0, 1000000), (0, 1000000), (0, 1000000)], 25, [.ptr 0 0], [.cells (([.sl (.inp 0) 1 (.c 0) (.v 5) (some (.v 20)), .sl (.inp 1) 1 (.c 0) (.v 6) (some (.v 21)), .sl (.inp 2) 1 (.c 0) (.v 7) (some (.v 22)), .sl (.inp 3) 1 (.c 0) (.v 8) (some (.v 23)), .sl (.inp 4) 1 (.c 0) (.v 9) (some (.v 24))] : List SV) ++ bk32 (.v 10) ++ bkB (.v 11) ++ ([.sl (.own 1) 1 (.c 0) (.v 3) none, .sl (.own 2) 1 (.c 0) (.v 4) none, .sl (.own 3) 3 (.c 0) (.v 2) none, .int .i64 (.v 1), .int .i64 (.v 0)] : List SV)) 59 none, .arr [.int .i32] 21 (.v 12) (.v 3), .arr [.bool] 4 (.v 13) (.v 4), .arr [.int .i64, .int .i64, .int .i64] 40 (.v 14) (.v 2)], [(.b .eq .i64 (.v 3) (.v 4)), (.c 1)], .bool (.v 1000008), [.cells (([.sl (.inp 0) 1 (.c 0) (.v 5) (some (.v 20)), .sl (.inp 1) 1 (.c 0) (.v 6) (some (.v 21)), .sl (.inp 2) 1 (.c 0) (.v 7) (some (.v 22)), .sl (.inp 3) 1 (.c 0) (.v 8) (some (.v 23)), .sl (.inp 4) 1 (.c 0) (.v 9) (some (.v 24))] : List SV) ++ bk32 (.v 1000000) ++ bkB (.v 1000001) ++ ([.sl (.own 1) 1 (.c 0) (.v 3) none, .sl (.own 2) 1 (.c 0) (.v 4) none, .sl (.own 4) 3 (.c 0) (.v 1000006) none, .int .i64 (.v 1000005), .int .i64 (.v 1000004)] : List SV)) 59 none, .arr [.int .i32] 21 (.v 1000002) (.v 3), .arr [.bool] 4 (.v 1000003) (.v 4), .gone, .arr [.int .i64, .int .i64, .int .i64] 40 (.v 1000007) (.v 1000006)], [.code [.int .i32] (.f 13 (.f 101 (.v 15) (.v 5) (qQv [(.v 3), (.v 10), (.v 11), (.v 12), (.v 13), (.v 0), (.v 1), (.v 14), (.v 2)])) (.c 0) (.c 0)) (.c 32), .code [.bool] (.f 13 (.f 101 (.v 15) (.v 5) (qQv [(.v 3), (.v 10), (.v 11), (.v 12), (.v 13), (.v 0), (.v 1), (.v 14), (.v 2)])) (.c 1) (.c 0)) (.c 32), .code [.int .i32] (.f 13 (.f 101 (.v 15) (.v 5) (qQv [(.v 3), (.v 10), (.v 11), (.v 12), (.v 13), (.v 0), (.v 1), (.v 14), (.v 2)])) (.c 2) (.c 0)) (.v 3), .code [.bool] (.f 13 (.f 101 (.v 15) (.v 5) (qQv [(.v 3), (.v 10), (.v 11), (.v 12), (.v 13), (.v 0), (.v 1), (.v 14), (.v 2)])) (.c 3) (.c 0)) (.v 4), .num (.w .i64 (.f 13 (.f 101 (.v 15) (.v 5) (qQv [(.v 3), (.v 10), (.v 11), (.v 12), (.v 13), (.v 0), (.v 1), (.v 14), (.v 2)])) (.c 4) (.c 0))), .num (.w .i64 (.f 13 (.f 101 (.v 15) (.v 5) (qQv [(.v 3), (.v 10), (.v 11), (.v 12), (.v 13), (.v 0), (.v 1), (.v 14), (.v 2)])) (.c 5) (.c 0))), .num (.w .i64 (.f 13 (.f 101 (.v 15) (.v 5) (qQv [(.v 3), (.v 10), (.v 11), (.v 12), (.v 13), (.v 0), (.v 1), (.v 14), (.v 2)])) (.c 7) (.c 0))), .code [.int .i64, .int .i64, .int .i64] (.f 13 (.f 101 (.v 15) (.v 5) (qQv [(.v 3), (.v 10), (.v 11), (.v 12), (.v 13), (.v 0), (.v 1), (.v 14), (.v 2)])) (.c 6) (.c 0)) (.w .i64 (.f 13 (.f 101 (.v 15) (.v 5) (qQv [(.v 3), (.v 10), (.v 11), (.v 12), (.v 13), (.v 0), (.v 1), (.v 14), (.v 2)])) (.c 7) (.c 0))), .bool (.f 13 (.f 101 (.v 15) (.v 5) (qQv [(.v 3), (.v 10), (.v 11), (.v 12), (.v 13), (.v 0), (.v 1), (.v 14), (.v 2)])) (.c 8) (.c 0))], [⟨[.int .u32], (.v 15), (.v 5), (.v 20), none⟩, ⟨[.int .i32], (.v 16), (.v 6), (.v 21), none⟩, ⟨[.bool], (.v 17), (.v 7), (.v 22), none⟩, ⟨[.int .i64], (.v 18), (.v 8), (.v 23), none⟩, ⟨[.int .i64], (.v 19), (.v 9), (.v 24), none⟩]⟩
theorem okk : rk.ok = true := by kernel_rfl
theorem okh : rk.rh.ok = true := by kernel_rfl
noncomputable def us : SMs := fun Γ ins n => smH (cxG n Γ ins) [CRFSet.rk.rh, CRFReck.rk.rh, CRFMem.rk.rh] (smR (cxG n Γ ins) [CRDec.rc, CRNeeds.rc, CRDo.rc, CRLow.rc])
theorem us_ok : SMsOk us := fun Γ ins n => qQp (tabsG n Γ ins) (qZn CRFSet.okh (rh_n CRFSet.ok) (qZn CRFReck.okh (rh_n CRFReck.ok) (qZn CRFMem.okh (rh_n CRFMem.ok) (qQa _)))) (qQn (tabsG n Γ ins) (qQk CRDec.okb (rc_n CRDec.ok) (qQk CRNeeds.okb (rc_n CRNeeds.ok) (qQk CRDo.okb (rc_n CRDo.ok) (qQk CRLow.okb (rc_n CRLow.ok) (qQb _))))))
def Q0 : E := (tR (.v 15) (.v 0))
def Q1 : E := (.w .u32 Q0)
def Q2 : E := (.cl 1000 (-32768) 65535)
def Q3 : E := (te Q2 (.c 22))
def Q4 : E := (te Q2 (.c 23))
def Q5 : E := (tp Q3 Q4)
def Q6 : E := (te Q2 (.c 36))
def Q7 : E := (te Q2 (.c 37))
def Q8 : E := (te Q2 (.c 38))
def Q9 : E := (te Q2 (.c 34))
def Q10 : E := (te Q2 (.c 35))
def Q11 : E := (te Q2 (.c 41))
def Q12 : E := (.cl 1007 0 4611686018427387904)
def Q13 : E := (.cl 1002 (-32768) 65535)
def Q14 : E := (.cl 1003 (-32768) 65535)
def Q15 : E := (.cl 1001 (-32768) 65535)
def Q16 : E := (tC Q13 (.c 0))
def Q17 : E := (.cl 1009 (-9223372036854775808) 9223372036854775807)
def Q18 : E := (tp Q12 (.c 1))
def Q19 : E := (tR (.v 10) Q15)
def Q20 : E := (t3 Q19)
def Q21 : E := (tR (.v 10) Q13)
def Q22 : E := (t3 Q21)
def Q23 : E := (.cl 1004 (-32768) 65535)
def Q24 : E := (tp (.v 2) (.c 1))
def Q25 : E := (tC (.c 3) (.c 0))
def Q26 : E := (tC (.c (-1)) Q25)
def Q27 : E := (tC (.v 0) Q26)
def Q28 : E := (.f 14 (.v 14) (.v 2) Q27)
def Q29 : E := (tp (.v 0) (.c 1))
def Q30 : E := (t6 Q29)
def Q31 : E := (tC (.c 1) (.c 0))
def Q32 : E := (tC (.c (-1)) Q31)
def Q33 : E := (tC (.v 0) Q32)
def Q34 : E := (.f 14 (.v 14) (.v 2) Q33)
def Q35 : E := (tl Q15 (.c 31))
def Q36 : E := (tR (.v 11) Q13)
def Q37 : E := (tC Q36 (.c 0))
def Q38 : E := (.f 99 (.v 11) Q15 Q36)
def Q39 : E := (.f 99 (.v 11) Q15 (.c 1))
def Q40 : E := (tl (.c 34) Q2)
def Q41 : E := (tl Q2 (.c 35))
def Q42 : E := (tl Q13 (.c 31))
def Q43 : E := (tl (.c 0) Q14)
def Q44 : E := (tl Q14 (.c 31))
def Q45 : E := (tC (.v 2) (.c 0))
def Q46 : E := (tC (.v 14) Q45)
def Q47 : E := (tC (.v 1) Q46)
def Q48 : E := (tC (.v 0) Q47)
def Q49 : E := (tC (.v 13) Q48)
def Q50 : E := (tC (.v 12) Q49)
def Q51 : E := (tC (.v 11) Q50)
def Q52 : E := (tC (.v 10) Q51)
def Q53 : E := (tC (.v 3) Q52)
def Q54 : E := (tC Q23 Q53)
def Q55 : E := (tC Q14 Q54)
def Q56 : E := (tC Q13 Q55)
def Q57 : E := (.f 100 Q2 Q15 Q56)
def Q58 : E := (tR Q57 (.c 0))
def Q59 : E := (tR Q57 (.c 1))
def Q60 : E := (tR Q57 (.c 2))
def Q61 : E := (tR Q57 (.c 3))
def Q62 : E := (tR Q57 (.c 4))
def Q63 : E := (t6 Q62)
def Q64 : E := (tR Q57 (.c 5))
def Q65 : E := (t6 Q64)
def Q66 : E := (tR Q57 (.c 7))
def Q67 : E := (t6 Q66)
def Q68 : E := (tR Q57 (.c 6))
def tree : TT (List E) :=
 (.br (tk (.v 0) (.c 0)) (.leaf [(.v 10), (.v 11), (.v 12), (.v 13), (.v 0), (.c 2), (.v 2), (.v 14), (.c 1)]) (.br (tl (.v 5) (.v 0)) (.leaf [(.v 10), (.v 11), (.v 12), (.v 13), (.v 0), (.c 2), (.v 2), (.v 14), (.c 1)]) (.br (tl (.c 0) (.v 0)) (.br (tk (.v 0) (.v 5)) (.new 1000 (.f 67 Q1 (.c 0) (.c 0)) (.new 1001 (.f 67 Q1 (.c 1) (.c 0)) (.new 1002 (.f 67 Q1 (.c 2) (.c 0)) (.new 1003 (.f 67 Q1 (.c 3) (.c 0)) (.new 1004 (.f 67 Q1 (.c 4) (.c 0)) (.new 1005 (.f 67 Q1 (.c 5) (.c 0)) (.br (tn (.cl 1005 (-32768) 65535) (.c 0)) (.leaf [(.v 10), (.v 11), (.v 12), (.v 13), (.v 0), (.c 3), (.v 2), (.v 14), (.c 1)]) (.new 1006 (.ite (tp (tp (tp Q5 Q6) Q7) Q8) (.c 2) (.ite (tp (tp Q9 Q10) Q11) (.c 1) (.c 0))) (.loop ⟨1007, [some (0, 4611686018427387904)], [(.c 0)], 1010⟩ (.br (tk Q12 (.cl 1006 0 2))
 (.new 1009 (t6 (tR (.ite Q5 (tC Q13 (tC Q14 (.c 0))) (.ite (tp (tp Q6 Q7) Q8) (tC Q15 Q16) Q16)) Q12)) (.br (tl (.c 0) Q17) (.br (tk Q17 (.c 32)) (.br (.nt (tR (.v 11) Q17)) (.exit 0) (.br (tl Q18 (.c 4611686018427387904)) (.back [Q18]) (.bad 303))) (.bad 200)) (.bad 200))) (.exit 1)) (.br (te (.v 1010) (.c 0)) (.leaf [(.v 10), (.v 11), (.v 12), (.v 13), (.v 0), (.v 1), (.v 2), (.v 14), (.c 0)]) (.br (tl (.c 0) Q15) (.br (tk Q15 (.c 32)) (.br (tl (.c 0) Q13) (.br (tk Q13 (.c 32)) (.br Q6 (.br (te Q20 Q22) (.leaf [(.v 10), (.v 11), (.v 12), (.v 13), Q23, (.v 1), Q24, Q28, (.c 1)]) (.leaf [(.v 10), (.v 11), (.v 12), (.v 13), Q30, (.v 1), Q24, Q34, (.c 1)])) (.br Q7 (.br (tn Q20 Q22) (.leaf [(.v 10), (.v 11), (.v 12), (.v 13), Q23, (.v 1), Q24, Q28, (.c 1)]) (.leaf [(.v 10), (.v 11), (.v
 12), (.v 13), Q30, (.v 1), Q24, Q34, (.c 1)])) (.br Q8 (.br (tk Q20 Q22) (.leaf [(.v 10), (.v 11), (.v 12), (.v 13), Q23, (.v 1), Q24, Q28, (.c 1)]) (.leaf [(.v 10), (.v 11), (.v 12), (.v 13), Q30, (.v 1), Q24, Q34, (.c 1)])) (.br (te Q2 (.c 31)) (.new 1012 (tp Q22 Q23) (.br Q35 (.leaf [(.f 98 (.v 10) Q15 (tC (t3 (.cl 1012 (-2147516416) 2147549182)) Q37)), Q38, (.v 12), (.v 13), Q30, (.v 1), Q24, Q34, (.c 1)]) (.bad 200))) (.br (te Q2 (.c 32)) (.new 1012 (.f 63 (.c 6) Q22 Q23) (.new 1013 (.f 64 (.c 6) Q22 Q23) (.br Q35 (.leaf [(.f 98 (.v 10) Q15 (tC (.cl 1012 (-2147483648) 2147483647) Q37)), Q38, (.v 12), (.v 13), Q30, (.v 1), Q24, Q34, (.c 1)]) (.bad 200)))) (.br (te Q2 (.c 33)) (.br Q35 (.leaf [(.f 98 (.v 10) Q15 (tC (t3 (.b .pmul .i64 Q23 (.c 65536))) Q31)), Q39, (.v 12), (.v 13),
 Q30, (.v 1), Q24, Q34, (.c 1)]) (.bad 200)) (.br Q9 (.br Q40 (.br Q41 (.br Q35 (.br Q42 (.br Q43 (.br Q44 (.br (te (.v 3) (.v 4)) (.leaf [Q58, Q59, Q60, Q61, Q63, Q65, Q67, Q68, (.c 1)]) (.bad 200)) (.bad 200)) (.bad 200)) (.bad 200)) (.bad 200)) (.bad 200)) (.bad 200)) (.br Q10 (.br Q40 (.br Q41 (.br Q35 (.br Q42 (.br Q43 (.br Q44 (.br (te (.v 3) (.v 4)) (.leaf [Q58, Q59, Q60, Q61, Q63, Q65, Q67, Q68, (.c 1)]) (.bad 200)) (.bad 200)) (.bad 200)) (.bad 200)) (.bad 200)) (.bad 200)) (.bad 200)) (.br (te Q2 (.c 40)) (.br Q35 (.leaf [(.f 98 (.v 10) Q15 (tC (t3 Q29) Q31)), Q39, (.v 12), (.v 13), Q23, (.v 1), Q24, Q28, (.c 1)]) (.bad 200)) (.br (te Q2 (.c 39)) (.leaf [(.v 10), (.v 11), (.v 12), (.v 13), Q23, (.v 1), Q24, Q28, (.c 1)]) (.br Q11 (.leaf [(.v 10), (.v 11), (.v 12), (.v 13), Q22,
 (.v 1), Q24, Q28, (.c 1)]) (.br (te Q2 (.c 43)) (.leaf [(.v 10), (.v 11), (.v 12), (.v 13), (.v 0), (.c 1), Q24, Q34, (.c 1)]) (.br (te Q2 (.c 42)) (.leaf [(.v 10), (.v 11), (.v 12), (.v 13), Q30, (.v 1), Q24, Q34, (.c 1)]) (.br (tl (.c 1) Q2) (.br (tl Q2 (.c 30)) (.br Q35 (.br Q42 (.br Q43 (.br Q44 (.leaf [Q58, Q59, (.v 12), (.v 13), Q63, Q65, Q67, Q68, (.c 1)]) (.bad 200)) (.bad 200)) (.bad 200)) (.bad 200)) (.bad 200)) (.bad 200))))))))))))))) (.bad 200)) (.bad 200)) (.bad 200)) (.bad 200)))))))))))) (.bad 200)) (.bad 200))))
noncomputable def sq0 (y0 y1 y2 y3 y4 nr rx rk rm hv pc st mq nm : Int) : Int := (rdoZ y0 y1 (kZ y2 (kZ y3 (kZ y4 (kZ nr (kZ rx (kZ rk (kZ rm (kZ hv (kZ pc (kZ st (kZ mq (kZ nm 0)))))))))))))
noncomputable def sq1 (cK nK nr rx rk rm hv pc st mq nm : Int) : Int := (rfsZ cK nK (kZ nr (kZ rx (kZ rk (kZ rm (kZ hv (kZ pc (kZ st (kZ mq (kZ nm 0))))))))))
def sL0 (cK nK nr rx rk rm hv pc st mq nm nh z0 z3 z6 z9 z12 z14 z16 z18 z21 : Int) : Prop := qQw [.int .i32] z0 (rdZ (sq1 cK nK nr rx rk rm hv pc st mq nm) 0) 32 ∧ qQw [.bool] z3 (rdZ (sq1 cK nK nr rx rk rm hv pc st mq nm) 1) 32 ∧ qQw [.int .i32] z6 (rdZ (sq1 cK nK nr rx rk rm hv pc st mq nm) 2) nr ∧ qQw [.bool] z9 (rdZ (sq1 cK nK nr rx rk rm hv pc st mq nm) 3) nh ∧ (z12 : Int) = (W6 (rdZ (sq1 cK nK nr rx rk rm hv pc st mq nm) 4)) ∧ (z14 : Int) = (W6 (rdZ (sq1 cK nK nr rx rk rm hv pc st mq nm) 5)) ∧ (z16 : Int) = (W6 (rdZ (sq1 cK nK nr rx rk rm hv pc st mq nm) 7)) ∧ qQw [.int .i64, .int .i64, .int .i64] z18 (rdZ (sq1 cK nK nr rx rk rm hv pc st mq nm) 6) (W6 (rdZ (sq1 cK nK nr rx rk rm hv pc st mq nm) 7)) ∧ ((z21 : Int) ≠ 0 ↔ ((rdZ (sq1 cK nK nr rx rk rm hv pc st mq nm) 8) :
 Int) ≠ 0) ∧ True
def sq2 (y1 y2 y0 rx cK nK nr rk rm hv pc st mq nm nh y4 y3 : Int) : Prop := (Pm (PL 0 y1) (Pm (Pl y1 32) (Pm (PL 0 y2) (Pm (Pl y2 32) (Pb (Pe y0 36) (Pb (Pe (W3 (rdZ rx y1)) (W3 (rdZ rx y2))) (sL0 cK nK nr rx rk rm hv pc st mq nm nh rx rk rm hv y4 st (nm + 1) (updZ mq nm (kZ pc (kZ (-1) (kZ 3 0)))) 1) (sL0 cK nK nr rx rk rm hv pc st mq nm nh rx rk rm hv (W6 (pc + 1)) st (nm + 1) (updZ mq nm (kZ pc (kZ (-1) (kZ 1 0)))) 1)) (Pb (Pe y0 37) (Pb (Pd (W3 (rdZ rx y1)) (W3 (rdZ rx y2))) (sL0 cK nK nr rx rk rm hv pc st mq nm nh rx rk rm hv y4 st (nm + 1) (updZ mq nm (kZ pc (kZ (-1) (kZ 3 0)))) 1) (sL0 cK nK nr rx rk rm hv pc st mq nm nh rx rk rm hv (W6 (pc + 1)) st (nm + 1) (updZ mq nm (kZ pc (kZ (-1) (kZ 1 0)))) 1)) (Pb (Pe y0 38) (Pb (Pl (W3 (rdZ rx y1)) (W3 (rdZ rx y2))) (sL0 cK nK nr rx rk rm
 hv pc st mq nm nh rx rk rm hv y4 st (nm + 1) (updZ mq nm (kZ pc (kZ (-1) (kZ 3 0)))) 1) (sL0 cK nK nr rx rk rm hv pc st mq nm nh rx rk rm hv (W6 (pc + 1)) st (nm + 1) (updZ mq nm (kZ pc (kZ (-1) (kZ 1 0)))) 1)) (Pb (Pe y0 31) (Pn ((W3 (rdZ rx y2)) + y4) (-2147516416) 2147549182 fun y12 => (Pm (PL y1 31) (sL0 cK nK nr rx rk rm hv pc st mq nm nh (rsxZ rx y1 (kZ (W3 y12) (kZ (rdZ rk y2) 0))) (rskZ rk y1 (rdZ rk y2)) rm hv (W6 (pc + 1)) st (nm + 1) (updZ mq nm (kZ pc (kZ (-1) (kZ 1 0)))) 1))) (Pb (Pe y0 32) (Pn (aluV 6 (W3 (rdZ rx y2)) y4) (-2147483648) 2147483647 fun y12 => Pn (aluK 6 (W3 (rdZ rx y2)) y4) 0 1 fun y13 => (Pm (PL y1 31) (sL0 cK nK nr rx rk rm hv pc st mq nm nh (rsxZ rx y1 (kZ y12 (kZ (rdZ rk y2) 0))) (rskZ rk y1 (rdZ rk y2)) rm hv (W6 (pc + 1)) st (nm + 1) (updZ mq nm (kZ pc
 (kZ (-1) (kZ 1 0)))) 1))) (Pb (Pe y0 33) (Pm (PL y1 31) (sL0 cK nK nr rx rk rm hv pc st mq nm nh (rsxZ rx y1 (kZ (W3 (y4 * 65536)) (kZ 1 0))) (rskZ rk y1 1) rm hv (W6 (pc + 1)) st (nm + 1) (updZ mq nm (kZ pc (kZ (-1) (kZ 1 0)))) 1)) (Pb (Pe y0 34) (Pm (PL 34 y0) (Pm (PL y0 35) (Pm (PL y1 31) (Pm (PL y2 31) (Pm (PL 0 y3) (Pm (PL y3 31) (Pm (Pe nr nh) (sL0 cK nK nr rx rk rm hv pc st mq nm nh (rdZ (sq0 y0 y1 y2 y3 y4 nr rx rk rm hv pc st mq nm) 0) (rdZ (sq0 y0 y1 y2 y3 y4 nr rx rk rm hv pc st mq nm) 1) (rdZ (sq0 y0 y1 y2 y3 y4 nr rx rk rm hv pc st mq nm) 2) (rdZ (sq0 y0 y1 y2 y3 y4 nr rx rk rm hv pc st mq nm) 3) (W6 (rdZ (sq0 y0 y1 y2 y3 y4 nr rx rk rm hv pc st mq nm) 4)) (W6 (rdZ (sq0 y0 y1 y2 y3 y4 nr rx rk rm hv pc st mq nm) 5)) (W6 (rdZ (sq0 y0 y1 y2 y3 y4 nr rx rk rm hv pc st mq nm)
 7)) (rdZ (sq0 y0 y1 y2 y3 y4 nr rx rk rm hv pc st mq nm) 6) 1)))))))) (Pb (Pe y0 35) (Pm (PL 34 y0) (Pm (PL y0 35) (Pm (PL y1 31) (Pm (PL y2 31) (Pm (PL 0 y3) (Pm (PL y3 31) (Pm (Pe nr nh) (sL0 cK nK nr rx rk rm hv pc st mq nm nh (rdZ (sq0 y0 y1 y2 y3 y4 nr rx rk rm hv pc st mq nm) 0) (rdZ (sq0 y0 y1 y2 y3 y4 nr rx rk rm hv pc st mq nm) 1) (rdZ (sq0 y0 y1 y2 y3 y4 nr rx rk rm hv pc st mq nm) 2) (rdZ (sq0 y0 y1 y2 y3 y4 nr rx rk rm hv pc st mq nm) 3) (W6 (rdZ (sq0 y0 y1 y2 y3 y4 nr rx rk rm hv pc st mq nm) 4)) (W6 (rdZ (sq0 y0 y1 y2 y3 y4 nr rx rk rm hv pc st mq nm) 5)) (W6 (rdZ (sq0 y0 y1 y2 y3 y4 nr rx rk rm hv pc st mq nm) 7)) (rdZ (sq0 y0 y1 y2 y3 y4 nr rx rk rm hv pc st mq nm) 6) 1)))))))) (Pb (Pe y0 40) (Pm (PL y1 31) (sL0 cK nK nr rx rk rm hv pc st mq nm nh (rsxZ rx y1 (kZ (W3 (pc
 + 1)) (kZ 1 0))) (rskZ rk y1 1) rm hv y4 st (nm + 1) (updZ mq nm (kZ pc (kZ (-1) (kZ 3 0)))) 1)) (Pb (Pe y0 39) (sL0 cK nK nr rx rk rm hv pc st mq nm nh rx rk rm hv y4 st (nm + 1) (updZ mq nm (kZ pc (kZ (-1) (kZ 3 0)))) 1) (Pb (Pe y0 41) (sL0 cK nK nr rx rk rm hv pc st mq nm nh rx rk rm hv (W3 (rdZ rx y2)) st (nm + 1) (updZ mq nm (kZ pc (kZ (-1) (kZ 3 0)))) 1) (Pb (Pe y0 43) (sL0 cK nK nr rx rk rm hv pc st mq nm nh rx rk rm hv pc 1 (nm + 1) (updZ mq nm (kZ pc (kZ (-1) (kZ 1 0)))) 1) (Pb (Pe y0 42) (sL0 cK nK nr rx rk rm hv pc st mq nm nh rx rk rm hv (W6 (pc + 1)) st (nm + 1) (updZ mq nm (kZ pc (kZ (-1) (kZ 1 0)))) 1) (Pm (PL 1 y0) (Pm (PL y0 30) (Pm (PL y1 31) (Pm (PL y2 31) (Pm (PL 0 y3) (Pm (PL y3 31) (sL0 cK nK nr rx rk rm hv pc st mq nm nh (rdZ (sq0 y0 y1 y2 y3 y4 nr rx rk rm hv pc
 st mq nm) 0) (rdZ (sq0 y0 y1 y2 y3 y4 nr rx rk rm hv pc st mq nm) 1) rm hv (W6 (rdZ (sq0 y0 y1 y2 y3 y4 nr rx rk rm hv pc st mq nm) 4)) (W6 (rdZ (sq0 y0 y1 y2 y3 y4 nr rx rk rm hv pc st mq nm) 5)) (W6 (rdZ (sq0 y0 y1 y2 y3 y4 nr rx rk rm hv pc st mq nm) 7)) (rdZ (sq0 y0 y1 y2 y3 y4 nr rx rk rm hv pc st mq nm) 6) 1))))))))))))))))))))))))
def P (pc st nm nr nh nK nD nS nI nO rx rk rm hv mq cK cD cS cI cO rK rD rS rI rO : Int) : Prop :=
 (Pb (Pl pc 0) (sL0 cK nK nr rx rk rm hv pc st mq nm nh rx rk rm hv pc 2 nm mq 1) (Pb (PL nK pc) (sL0 cK nK nr rx rk rm hv pc st mq nm nh rx rk rm hv pc 2 nm mq 1) (Pm (PL 0 pc) (Pm (Pl pc nK) (Pn (decZ (U3 (rdZ cK pc)) 0) (-32768) 65535 fun y0 => Pn (decZ (U3 (rdZ cK pc)) 1) (-32768) 65535 fun y1 => Pn (decZ (U3 (rdZ cK pc)) 2) (-32768) 65535 fun y2 => Pn (decZ (U3 (rdZ cK pc)) 3) (-32768) 65535 fun y3 => Pn (decZ (U3 (rdZ cK pc)) 4) (-32768) 65535 fun y4 => Pn (decZ (U3 (rdZ cK pc)) 5) (-32768) 65535 fun y5 => (Pb (Pd y5 0) (sL0 cK nK nr rx rk rm hv pc st mq nm nh rx rk rm hv pc 3 nm mq 1) (Pn (iteZ (((((Pe y0 22) + (Pe y0 23)) + (Pe y0 36)) + (Pe y0 37)) + (Pe y0 38)) 2 (iteZ (((Pe y0 34) + (Pe y0 35)) + (Pe y0 41)) 1 0)) 0 2 fun y6 => ∃ I1007 : Int → Nat → Prop, (∃ m, I1007 0 m) ∧ ∀
 y7 : Int, ∀ m7, ((0 ≤ y7 ∧ y7 ≤ 4611686018427387904) ∧ True) → I1007 y7 m7 → (Pb (Pl y7 y6) (Pn (W6 (rdZ (iteZ ((Pe y0 22) + (Pe y0 23)) (kZ y2 (kZ y3 0)) (iteZ (((Pe y0 36) + (Pe y0 37)) + (Pe y0 38)) (kZ y1 (kZ y2 0)) (kZ y2 0))) y7)) (-9223372036854775808) 9223372036854775807 fun y9 => (Pm (PL 0 y9) (Pm (Pl y9 32) (Pb (Pe (rdZ rk y9) 0) (Pb (Pe (0 : Int) 0) (sL0 cK nK nr rx rk rm hv pc st mq nm nh rx rk rm hv pc st nm mq 0) (sq2 y1 y2 y0 rx cK nK nr rk rm hv pc st mq nm nh y4 y3)) (Pm (PL (y7 + 1) 4611686018427387904) (∃ m', m' < m7 ∧ I1007 (y7 + 1) m')))))) (Pb (Pe (1 : Int) 0) (sL0 cK nK nr rx rk rm hv pc st mq nm nh rx rk rm hv pc st nm mq 0) (sq2 y1 y2 y0 rx cK nK nr rk rm hv pc st mq nm nh y4 y3))))))))))
theorem nd_told (m : Rm) {op d a b nn : Int} (d0 : 0 ≤ d) (d1 : d < 32) (a0 : 0 ≤ a) (a1 : a < 32) (b0 : 0 ≤ b) (b1 : b < 32)
  (hn : nn = if ¬ qQz (op == 22) + qQz (op == 23) + qQz (op == 36) + qQz (op == 37) + qQz (op == 38) = 0 then 2 else if ¬ qQz (op == 34) + qQz (op == 35) + qQz (op == 41) = 0 then 1 else 0)
  {R : Int} (hR : R = if ¬ qQz (op == 22) + qQz (op == 23) = 0 then qQq a (qQq b 0) else if ¬ qQz (op == 36) + qQz (op == 37) + qQz (op == 38) = 0 then qQq d (qQq a 0) else qQq a 0) :
  (0 ≤ nn ∧ nn ≤ 2) ∧ (∀ j : Int, 0 ≤ j → j < nn → 0 ≤ IntKind.wrap .i64 (rdZ R j) ∧ IntKind.wrap .i64 (rdZ R j) < 32 ∧ (rdZ m.rk (IntKind.wrap .i64 (rdZ R j)) = 0 → ¬ m.told op d a b)) ∧
  ((∀ j : Int, 0 ≤ j → j < nn → rdZ m.rk (IntKind.wrap .i64 (rdZ R j)) ≠ 0) → m.told op d a b) := by
 have b2 : ∀ k : Int, qQz (op == k) = if op = k then 1 else 0 := fun k => by
  unfold qQz
  by_cases e : op = k
  ·rw [if_pos e]; simp [e]
  ·rw [if_neg e]; simp [e]
 have rd2 : ∀ x y : Int, rdZ (qQq x (qQq y 0)) 0 = x ∧ rdZ (qQq x (qQq y 0)) 1 = y := fun x y => by have h := qJz [x, y]; exact ⟨h 0, h 1⟩
 have w5 : ∀ x : Int, 0 ≤ x → x < 32 → IntKind.wrap .i64 x = x := fun x h0 h1 => w64 (by omega) (by omega)
 simp only [b2] at hn hR
 unfold Rm.told Rm.k
 by_cases c1 : op = 22 ∨ op = 23
 ·have hn : nn = 2 := by rw [hn, if_pos]; (repeat' split) <;> omega
  have hR : R = qQq a (qQq b 0) := by rw [hR, if_pos]; (repeat' split) <;> omega
  subst hn hR
  rw [if_pos c1]
  obtain ⟨e0, e1⟩ := rd2 a b
  refine ⟨by omega, fun j j0 j1 => ?_, fun h => ?_⟩
  ·rcases (by omega : j = 0 ∨ j = 1) with rfl | rfl
   ·rw [e0, w5 a a0 a1]; exact ⟨a0, a1, fun k t => t.1 k⟩
   ·rw [e1, w5 b b0 b1]; exact ⟨b0, b1, fun k t => t.2 k⟩
  ·have h0 := h 0 (by omega) (by omega)
   have h1 := h 1 (by omega) (by omega)
   rw [e0, w5 a a0 a1] at h0
   rw [e1, w5 b b0 b1] at h1
   exact ⟨h0, h1⟩
 rw [if_neg c1]
 by_cases c2 : op = 36 ∨ op = 37 ∨ op = 38
 ·have hn : nn = 2 := by rw [hn, if_pos]; (repeat' split) <;> omega
  have hR : R = qQq d (qQq a 0) := by rw [hR, if_neg, if_pos] <;> (repeat' split) <;> omega
  subst hn hR
  rw [if_pos c2]
  obtain ⟨e0, e1⟩ := rd2 d a
  refine ⟨by omega, fun j j0 j1 => ?_, fun h => ?_⟩
  ·rcases (by omega : j = 0 ∨ j = 1) with rfl | rfl
   ·rw [e0, w5 d d0 d1]; exact ⟨d0, d1, fun k t => t.1 k⟩
   ·rw [e1, w5 a a0 a1]; exact ⟨a0, a1, fun k t => t.2 k⟩
  ·have h0 := h 0 (by omega) (by omega)
   have h1 := h 1 (by omega) (by omega)
   rw [e0, w5 d d0 d1] at h0
   rw [e1, w5 a a0 a1] at h1
   exact ⟨h0, h1⟩
 rw [if_neg c2]
 have hR : R = qQq a 0 := by rw [hR, if_neg, if_neg] <;> (repeat' split) <;> omega
 have e0 : rdZ (qQq a 0) 0 = a := qQy _ _
 by_cases c3 : op = 34 ∨ op = 35 ∨ op = 41
 ·have hn : nn = 1 := by rw [hn, if_neg, if_pos] <;> (repeat' split) <;> omega
  subst hn hR
  have hl : lkP op := by unfold lkP; omega
  refine ⟨by omega, fun j j0 j1 => ?_, fun h => ?_⟩
  ·obtain rfl : j = 0 := by omega
   rw [e0, w5 a a0 a1]; exact ⟨a0, a1, fun k t => t.elim (fun g => g k) fun g => g hl⟩
  ·have h0 := h 0 (by omega) (by omega)
   rw [e0, w5 a a0 a1] at h0
   exact .inl h0
 ·have hn : nn = 0 := by rw [hn, if_neg, if_neg] <;> (repeat' split) <;> omega
  subst hn
  exact ⟨by omega, fun j j0 j1 => by omega, fun _ => .inr (by unfold lkP; omega)⟩
set_option maxHeartbeats 8000000 in
theorem holds (pc st nm nr nh nK nD nS nI nO rx rk rm hv mq cK cD cS cI cO rK rD rS rI rO : Int) (l_pc : -9223372036854775808 ≤ pc) (u_pc : pc ≤ 9223372036854775807) (l_st : 0 ≤ st) (u_st : st ≤ 0) (l_nm : 0 ≤ nm) (u_nm : nm ≤ 999999) (l_nr : 0 ≤ nr) (u_nr : nr ≤ 2048) (l_nh : 0 ≤ nh) (u_nh : nh ≤ 2048) (l_nK : 0 ≤ nK) (u_nK : nK ≤ 16384) (l_nD : 0 ≤ nD) (u_nD : nD ≤ 1000000) (l_nS : 0 ≤ nS) (u_nS : nS ≤ 1000000) (l_nI : 0 ≤ nI) (u_nI : nI ≤ 1000000) (l_nO : 0 ≤ nO) (u_nO : nO ≤ 1000000) (h_pre0 : qQz (nr  ==  nh) ≠ 0) (h_pre1 : (1 : Int) ≠ 0) : P pc st nm nr nh nK nD nS nI nO rx rk rm hv mq cK cD cS cI cO rK rD rS rI rO := by
 delta P sq0 sq1 sq2 sL0 Pb Pm Pn PL Pl Pe Pd W6 W3 U3 kZ
 have hS : nr = nh := by simpa [qQz] using h_pre0
 subst hS
 simp only [nrm, nro, Int.reduceEq, Int.reduceNeg, reduceIte]
 have hpc : I64 pc := ⟨l_pc, u_pc⟩
 have hp1 : I64 (IntKind.wrap .i64 (pc + 1)) := qKp _
 have hst : I64 st := by unfold I64; omega
 have hnm : I64 nm := by unfold I64; omega
 have hn1 : I64 (nm + 1) := by unfold I64; omega
 have i1 : I64 1 := by unfold I64; omega
 have i2 : I64 2 := by unfold I64; omega
 have i3 : I64 3 := by unfold I64; omega
 refine ⟨fun h1 => qJy (ro_fetch _ (.inl h1)) hpc i2 hnm, fun h1 => ⟨fun h2 => qJy (ro_fetch _ (.inr h2)) hpc i2 hnm, fun h2 => ⟨h1, h2, ?_⟩⟩⟩
 rintro op e0 - d e1 - a e2 - b e3 - n e4 - er e5 -
 refine ⟨fun h3 => qJy (ro_form _ h1 h2 (by rw [e5] at h3; exact h3)) hpc i3 hnm, fun h3 => ?_⟩
 have hd := dec_in (rdZ cK pc) (by rw [← e5]; exact h3)
 obtain ⟨no, go⟩ := ro_go (w := cK) (nc := nK) (nr := nr) (m := ⟨rx, rk, rm, hv, pc, st, mq, nm⟩) h1 h2 (by rw [← h3, e5]) e0 e1 e2 e3 e4
 rw [← e0, ← e1, ← e2, ← e3, ← e4] at hd
 clear e0 e1 e2 e3 e4 e5
 obtain ⟨⟨o0, o1⟩, ⟨d0, d1⟩, ⟨a0, a1⟩, ⟨b0, b1⟩, n0, n1⟩ := hd
 have hn : I64 n := by unfold I64; omega
 have hx : I64 (IntKind.wrap .i32 (rdZ rx a)) := by have := i32_bd (rdZ rx a); unfold I64; omega
 rintro nn hnn -
 obtain ⟨hb2, hno, hyes⟩ := nd_told ⟨rx, rk, rm, hv, pc, st, mq, nm⟩ d0 d1 a0 a1 b0 b1 hnn rfl
 refine ⟨fun k m => 0 ≤ k ∧ (∀ j : Int, 0 ≤ j → j < k → rdZ rk (IntKind.wrap .i64 (rdZ (if ¬ qQz (op == 22) + qQz (op == 23) = 0 then qQq a (qQq b 0) else if ¬ qQz (op == 36) + qQz (op == 37) + qQz (op == 38) = 0 then qQq d (qQq a 0) else qQq a 0) j)) ≠ 0) ∧ m = (nn - k).toNat,
  ⟨_, Int.le_refl _, fun j h0 h1 => by omega, rfl⟩, fun k m hbk hI => ?_⟩
 obtain ⟨k0, hk, rfl⟩ := hI
 refine ⟨fun h => ?_, fun h => ?_⟩
 ·rintro y rfl -
  obtain ⟨y0, y1, yn⟩ := hno k k0 h
  refine ⟨y0, y1, fun e => rfs_no (no (yn e)) hpc hst hnm, fun e => ⟨by omega, _, ?_, by omega, fun j j0 j1 => ?_, rfl⟩⟩
  ·omega
  ·by_cases e' : j = k
   ·subst e'; exact e
   ·exact hk j j0 (by omega)
 have g := go (hyes fun j j0 j1 => hk j j0 (by omega))
 refine ⟨d0, d1, a0, a1, fun o => ?_, fun o36 => ⟨fun o => ?_, fun o37 => ⟨fun o => ?_, fun o38 => ⟨fun o => ?_, fun o31 => ⟨fun o => ?_, fun o32 => ⟨fun o => ?_, fun o33 => ⟨fun o => ?_, fun o34 => ⟨fun o => ?_, fun o35 => ⟨fun o => ?_, fun o40 => ⟨fun o => ?_, fun o39 => ⟨fun o => ?_, fun o41 => ⟨fun o => ?_, fun o43 => ⟨fun o => ?_, fun o42 => ?_⟩⟩⟩⟩⟩⟩⟩⟩⟩⟩⟩⟩⟩
 ·subst o
  exact ⟨fun e => qJy (g.trans (by rw [rd_36y e])) hn hst hn1, fun e => qJy (g.trans (by rw [rd_36n e])) hp1 hst hn1⟩
 ·subst o
  exact ⟨fun e => qJy (g.trans (by rw [rd_37y e])) hn hst hn1, fun e => qJy (g.trans (by rw [rd_37n (fun f => f e)])) hp1 hst hn1⟩
 ·subst o
  exact ⟨fun e => qJy (g.trans (by rw [rd_38y e])) hn hst hn1, fun e => qJy (g.trans (by rw [rd_38n (by omega)])) hp1 hst hn1⟩
 ·subst o
  rintro _ rfl -
  exact ⟨by omega, qJy (g.trans (by rw [rd_31])) hp1 hst hn1⟩
 ·subst o
  rintro _ rfl - _ - -
  exact ⟨by omega, qJy (g.trans (by rw [rd_32])) hp1 hst hn1⟩
 ·subst o
  exact ⟨by omega, qJy (g.trans (by rw [rd_33])) hp1 hst hn1⟩
 ·exact ⟨by omega, by omega, by omega, by omega, by omega, by omega, rfs_mem g⟩
 ·exact ⟨by omega, by omega, by omega, by omega, by omega, by omega, rfs_mem g⟩
 ·subst o
  exact ⟨by omega, qJy (g.trans (by rw [rd_40])) hn hst hn1⟩
 ·subst o
  exact qJy (g.trans (by rw [rd_39])) hn hst hn1
 ·subst o
  exact qJy (g.trans (by rw [rd_41])) hx hst hn1
 ·subst o
  exact qJy (g.trans (by rw [rd_43])) hpc i1 hn1
 ·subst o
  exact qJy (g.trans (by rw [rd_42])) hp1 hst hn1
 ·exact ⟨by omega, by omega, by omega, by omega, by omega, by omega, rfs_reck g (by omega)⟩
theorem plain (i v ro p) : statH 2 rk tree ⟨i, fN, v, ro, p⟩ = P (i 0) (i 1) (i 2) (i 3) (i 4) (i 5) (i 6) (i 7) (i 8) (i 9) (i 10) (i 11) (i 12) (i 13) (i 14) (i 15) (i 16) (i 17) (i 18) (i 19) (i 20) (i 21) (i 22) (i 23) (i 24) := by kernel_rfl
theorem ran : ranH us (fun _ _ => .auto) rk 2 tree = true := by kernel_rfl
theorem fineT : fineH 2 rk tree = true := by kernel_rfl
theorem ok : RhOk (cxOf 2) rk.rh := okH us_ok ran fineT (by kernel_rfl) okk fun i v ro p hρ hpre => by rw [plain]; have q := hρ.hi; exact holds _ _ _ _ _ _ _ _ _ _ _ _ _ _ _ _ _ _ _ _ _ _ _ _ _ (q 0 _ rfl).1 (q 0 _ rfl).2 (q 1 _ rfl).1 (q 1 _ rfl).2 (q 2 _ rfl).1 (q 2 _ rfl).2 (q 3 _ rfl).1 (q 3 _ rfl).2 (q 4 _ rfl).1 (q 4 _ rfl).2 (q 5 _ rfl).1 (q 5 _ rfl).2 (q 6 _ rfl).1 (q 6 _ rfl).2 (q 7 _ rfl).1 (q 7 _ rfl).2 (q 8 _ rfl).1 (q 8 _ rfl).2 (q 9 _ rfl).1 (q 9 _ rfl).2 (hpre _ (mg 0 rfl)) (hpre _ (mg 1 rfl))
end CRFStep
end Go.Proofs.YtfkdlidcogpncaaGreatDoor
