/-
  What functions of the program answer, as numbers of what they are handed: their runs by the engine, the plain statements behind them. No condition.
-/
import Derived.Test.YteebeenfggchnaaGreatDoorKa
import Derived.Test.YteebeenfggchnaaGreatDoorKb
import Derived.Test.YteebeenfggchnaaGreatDoorGab
import Derived.Test.YteebeenfggchnaaGreatDoorGib
import Derived.Test.YteebeenfggchnaaGreatDoorGmC
import Derived.Test.YteebeenfggchnaaGreatDoorGmJ
import Derived.Test.YteebeenfggchnaaGreatDoorGmK
import Derived.Test.YteebeenfggchnaaGreatDoorGmR
set_option linter.unusedVariables false
set_option linter.unusedSimpArgs false
set_option maxRecDepth 100000
namespace Go.Proofs.YteebeenfggchnaaGreatDoor
open Go.Eng Go.RowKit
namespace CACost
def rc : Rc := ⟨55, [none, none], [.int .i64, .int .i32], [], .one, [.int .i64 (.f 65 (.v 0) (.v 1) (.c 0))]⟩
theorem okb : rc.ok = true := by kernel_rfl
noncomputable def us : SMs := fun Γ ins n => smH (cxG n Γ ins) [] (smAnd 83 (libLen64 Γ ins n) (smR (cxG n Γ ins) [COCost.rc]))
theorem us_ok : SMsOk us := fun Γ ins n => qZt (tabsG n Γ ins) (qZv _) (smAnd_ok (libLen64_ok Γ ins n) (qZn (tabsG n Γ ins) (qQs COCost.okb (rc_n COCost.ok) (qZw _))))
def tree : TT (List E) :=
(.br (.b .eq .i64 (.v 0) (.c 22))
 (.leaf [(.b .padd .i64 (.f 66 (.v 0) (.c 0) (.c 0)) (.f 3 (.w .u64 (.b .max .i64 (.v 1) (.b .psub .i64 (.c 0) (.v 1)))) (.c 0) (.c 0)))])
 (.br (.b .eq .i64 (.v 0) (.c 23))
 (.leaf [(.b .padd .i64 (.f 66 (.v 0) (.c 0) (.c 0)) (.f 3 (.w .u64 (.b .max .i64 (.v 1) (.b .psub .i64 (.c 0) (.v 1)))) (.c 0) (.c 0)))])
 (.leaf [(.f 66 (.v 0) (.c 0) (.c 0))])))
def P (p0 p1 : Int) : Prop :=
 (((qQj (p0 == 22)) ≠ 0 →
  (((opCo p0) + (blen64 (IntKind.wrap .u64 (maxZ p1 (0 - p1))))) : Int) = (aluC p0 p1) ∧ True) ∧ ((qQj (p0 == 22)) = 0 →
  (((qQj (p0 == 23)) ≠ 0 →
   (((opCo p0) + (blen64 (IntKind.wrap .u64 (maxZ p1 (0 - p1))))) : Int) = (aluC p0 p1) ∧ True) ∧ ((qQj (p0 == 23)) = 0 →
   ((opCo p0) : Int) = (aluC p0 p1) ∧ True))))
theorem holds (p0 p1 : Int) (l_p0 : -9223372036854775808 ≤ p0) (u_p0 : p0 ≤ 9223372036854775807) (l_p1 : -2147483648 ≤ p1) (u_p1 : p1 ≤ 2147483647) : P p0 p1 := by
 unfold P
 simp only [nrm, Int.reduceEq, Int.reduceNeg, reduceIte]
 have e : ∀ p, p = 22 ∨ p = 23 → opCo p + blen64 (IntKind.wrap .u64 (maxZ p1 (0 - p1))) = aluC p p1 := fun p h => by unfold aluC; rw [if_pos h]; rfl
 refine ⟨fun h => e _ (.inl h), fun h => ⟨fun h => e _ (.inr h), fun h => ?_⟩⟩
 unfold aluC; rw [if_neg (by omega)]; omega
theorem plain (i v ro p) : statR 2 rc tree ⟨i, fN, v, ro, p⟩ = P (i 0) (i 1) := by kernel_rfl
theorem ran : ranR us (fun _ _ => .auto) rc 2 tree = true := by kernel_rfl
theorem fineT : fineR 2 rc tree = true := by kernel_rfl
theorem ok : RcOk (cxOf 2) rc := okR us_ok ran fineT okb fun i v ro p hρ hcap hpre => by rw [plain]; have q := hρ.hi; exact holds _ _ (q 0 _ rfl).1 (q 0 _ rfl).2 (q 1 _ rfl).1 (q 1 _ rfl).2
end CACost
namespace CFReckK
def rk : Rk := ⟨33, [(1, 30), (0, 31), (0, 31), (0, 31), (-32768, 65535), (-9223372036854775808, 9223372036854775807), (0, 0), (0, 16384), (0, 999999), (0, 2048)], 14, [.ptr 0 0, .agg [.int .i64 (.v 0), .int .i64 (.v 1), .int .i64 (.v 2), .int .i64 (.v 3), .int .i64 (.v 4)]], [.cells (([.sl (.own 1) 5 (.c 0) (.v 7) none] : List SV) ++ bkM (.v 11) ++ ([.sl (.own 2) 2 (.c 0) (.v 9) none, .sl (.own 3) 3 (.c 0) (.v 8) none, .int .i64 (.v 6), .int .i64 (.v 5)] : List SV)) 58 none, .arr [.int .i64, .int .i64, .int .i64, .int .i64, .int .i64] 60 (.v 10) (.v 7), .arr [.int .i32, .bool] 54 (.v 12) (.v 9), .arr [.int .i64, .int .i64, .int .i64] 49 (.v 13) (.v 8)], [(.f 13 (.f 13 (.v 11) (.v 2) (.c 0)) (.c 1) (.c 0))], .tup [], [.cells (([.sl (.own 1) 5 (.c 0) (.v 7) none] : List SV) ++ bkM (.v 1000000) ++ ([.sl (.own 2) 2 (.c 0) (.v 9) none, .sl (.own 4) 3 (.c 0) (.v 1000003) none, .int .i64 (.v 1000002), .int .i64 (.v 1000001)] : List SV)) 58 none, .arr [.int .i64, .int .i64, .int .i64, .int .i64, .int .i64] 60 (.v 10) (.v 7), .arr [.int .i32, .bool] 54 (.v 12) (.v 9), .gone, .arr [.int .i64, .int .i64, .int .i64] 49 (.v 1000004) (.v 1000003)], [.code [.int .i32, .bool] (.f 13 (.f 92 (.v 0) (.v 1) (qQy [(.v 2), (.v 3), (.v 4), (.v 9), (.v 11), (.v 12), (.v 5), (.v 6), (.v 13), (.v 8)])) (.c 0) (.c 0)) (.c 32), .num (.w .i64 (.f 13 (.f 92 (.v 0) (.v 1) (qQy [(.v 2), (.v 3), (.v 4), (.v 9), (.v 11), (.v 12), (.v 5), (.v 6), (.v 13), (.v 8)])) (.c 2) (.c 0))), .num (.w .i64 (.f 13 (.f 92 (.v 0) (.v 1) (qQy [(.v 2), (.v 3), (.v 4), (.v 9), (.v 11), (.v 12), (.v 5), (.v 6), (.v 13), (.v 8)])) (.c 3) (.c 0))), .num (.w .i64 (.f 13 (.f 92 (.v 0) (.v 1) (qQy [(.v 2), (.v 3), (.v 4), (.v 9), (.v 11), (.v 12), (.v 5), (.v 6), (.v 13), (.v 8)])) (.c 5) (.c 0))), .code [.int .i64, .int .i64, .int .i64] (.f 13 (.f 92 (.v 0) (.v 1) (qQy [(.v 2), (.v 3), (.v 4), (.v 9), (.v 11), (.v 12), (.v 5), (.v 6), (.v 13), (.v 8)])) (.c 4) (.c 0)) (.w .i64 (.f 13 (.f 92 (.v 0) (.v 1) (qQy [(.v 2), (.v 3), (.v 4), (.v 9), (.v 11), (.v 12), (.v 5), (.v 6), (.v 13), (.v 8)])) (.c 5) (.c 0)))], []⟩
theorem okk : rk.ok = true := by kernel_rfl
theorem okh : rk.rh.ok = true := by kernel_rfl
noncomputable def us : SMs := fun Γ ins n => smH (cxG n Γ ins) [CFPut.rk.rh] (smR (cxG n Γ ins) [CADo.rc, CACost.rc])
theorem us_ok : SMsOk us := fun Γ ins n => qZt (tabsG n Γ ins) (qJx CFPut.okh (rh_n CFPut.ok) (qZv _)) (qZn (tabsG n Γ ins) (qQs CADo.okb (rc_n CADo.ok) (qQs CACost.okb (rc_n CACost.ok) (qZw _))))
def Q0 : E := (tR (.v 11) (.v 3))
def Q1 : E := (.cl 1001 (-2147483648) 2147483647)
def Q2 : E := (te Q1 (.c 0))
def Q3 : E := (tR Q0 (.c 1))
def Q4 : E := (.nt Q3)
def Q5 : E := (tC (.c 0) (.c 0))
def Q6 : E := (tC (.c 0) Q5)
def Q7 : E := (.f 91 (.v 11) (.v 1) Q6)
def Q8 : E := (tp (.v 5) (.c 1))
def Q9 : E := (t6 Q8)
def Q10 : E := (tp (.v 8) (.c 1))
def Q11 : E := (.cl 1000 (-2147483648) 2147483647)
def Q12 : E := (.f 65 (.v 0) Q11 (.c 0))
def Q13 : E := (tC Q12 (.c 0))
def Q14 : E := (tC (.c (-1)) Q13)
def Q15 : E := (tC (.v 5) Q14)
def Q16 : E := (.f 14 (.v 13) (.v 8) Q15)
def Q17 : E := (.f 63 (.v 0) Q11 Q1)
def Q18 : E := (tC (.c 1) (.c 0))
def Q19 : E := (tC Q17 Q18)
def Q20 : E := (.f 91 (.v 11) (.v 1) Q19)
def Q21 : E := (te Q11 (.c 0))
def Q22 : E := (.f 63 (.v 0) Q11 Q11)
def Q23 : E := (tC Q22 Q18)
def Q24 : E := (.f 91 (.v 11) (.v 1) Q23)
def tree : TT (List E) :=
 (.new 1000 (t3 (tR (tR (.v 11) (.v 2)) (.c 0))) (.new 1001 (t3 (tR Q0 (.c 0))) (.br (tl (.v 0) (.c 23)) (.br (te (.v 0) (.c 22)) (.br Q2 (.leaf [(.v 11), (.v 5), (.c 5), (.v 8), (.v 13)]) (.br Q4 (.leaf [Q7, Q9, (.v 6), Q10, Q16]) (.leaf [Q20, Q9, (.v 6), Q10, Q16]))) (.br (te (.v 0) (.c 23)) (.br Q2 (.leaf [(.v 11), (.v 5), (.c 5), (.v 8), (.v 13)]) (.br Q4 (.leaf [Q7, Q9, (.v 6), Q10, Q16]) (.leaf [Q20, Q9, (.v 6), Q10, Q16]))) (.br Q4 (.leaf [Q7, Q9, (.v 6), Q10, Q16]) (.leaf [Q20, Q9, (.v 6), Q10, Q16])))) (.br (te (.v 0) (.c 22)) (.br Q21 (.leaf [(.v 11), (.v 5), (.c 5), (.v 8), (.v 13)]) (.leaf [Q24, Q9, (.v 6), Q10, Q16])) (.br (te (.v 0) (.c 23)) (.br Q21 (.leaf [(.v 11), (.v 5), (.c 5), (.v 8), (.v 13)]) (.leaf [Q24, Q9, (.v 6), Q10, Q16])) (.leaf [Q24, Q9, (.v 6), Q10,
 Q16]))))))
noncomputable def sq0 (o i f a y0 : Int) : Int := (updZ o i (kZ f (kZ (-1) (kZ (aluC a y0) 0))))
def sL0 (a b c d e j l n f g o i z0 z3 z5 z7 z9 : Int) : Prop := qQt [.int .i32, .bool] z0 (rdZ (fdoZ a b (kZ c (kZ d (kZ e (kZ j (kZ l (kZ n (kZ f (kZ g (kZ o (kZ i 0))))))))))) 0) 32 ∧ (z3 : Int) = (W6 (rdZ (fdoZ a b (kZ c (kZ d (kZ e (kZ j (kZ l (kZ n (kZ f (kZ g (kZ o (kZ i 0))))))))))) 2)) ∧ (z5 : Int) = (W6 (rdZ (fdoZ a b (kZ c (kZ d (kZ e (kZ j (kZ l (kZ n (kZ f (kZ g (kZ o (kZ i 0))))))))))) 3)) ∧ (z7 : Int) = (W6 (rdZ (fdoZ a b (kZ c (kZ d (kZ e (kZ j (kZ l (kZ n (kZ f (kZ g (kZ o (kZ i 0))))))))))) 5)) ∧ qQt [.int .i64, .int .i64, .int .i64] z9 (rdZ (fdoZ a b (kZ c (kZ d (kZ e (kZ j (kZ l (kZ n (kZ f (kZ g (kZ o (kZ i 0))))))))))) 4) (W6 (rdZ (fdoZ a b (kZ c (kZ d (kZ e (kZ j (kZ l (kZ n (kZ f (kZ g (kZ o (kZ i 0))))))))))) 5)) ∧ True
def sq1 (l d a b c e j n f g o i y0 y1 : Int) : Prop := (Pb (Pe (rdZ (rdZ l d) 1) 0) (sL0 a b c d e j l n f g o i (fpuZ l b (kZ 0 (kZ 0 0))) (W6 (f + 1)) g (i + 1) (sq0 o i f a y0)) (sL0 a b c d e j l n f g o i (fpuZ l b (kZ (aluV a y0 y1) (kZ 1 0))) (W6 (f + 1)) g (i + 1) (sq0 o i f a y0)))
def P (a b c d e f g h i j k l n o : Int) : Prop :=
 Pn (W3 (rdZ (rdZ l c) 0)) (-2147483648) 2147483647 fun y0 => Pn (W3 (rdZ (rdZ l d) 0)) (-2147483648) 2147483647 fun y1 => (Pb (PL a 23) (Pb (Pe a 22) (Pb (Pe y1 0) (sL0 a b c d e j l n f g o i l f 5 i o) (sq1 l d a b c e j n f g o i y0 y1)) (Pb (Pe a 23) (Pb (Pe y1 0) (sL0 a b c d e j l n f g o i l f 5 i o) (sq1 l d a b c e j n f g o i y0 y1)) (sq1 l d a b c e j n f g o i y0 y1))) (Pb (Pe a 22) (Pb (Pe y0 0) (sL0 a b c d e j l n f g o i l f 5 i o) (sL0 a b c d e j l n f g o i (fpuZ l b (kZ (aluV a y0 y0) (kZ 1 0))) (W6 (f + 1)) g (i + 1) (sq0 o i f a y0))) (Pb (Pe a 23) (Pb (Pe y0 0) (sL0 a b c d e j l n f g o i l f 5 i o) (sL0 a b c d e j l n f g o i (fpuZ l b (kZ (aluV a y0 y0) (kZ 1 0))) (W6 (f + 1)) g (i + 1) (sq0 o i f a y0))) (sL0 a b c d e j l n f g o i (fpuZ l b (kZ (aluV a y0
 y0) (kZ 1 0))) (W6 (f + 1)) g (i + 1) (sq0 o i f a y0)))))
theorem holds (op d a b n pc st nc nm nr cq rg rm mq : Int) (l_op : 1 ≤ op) (u_op : op ≤ 30) (l_d : 0 ≤ d) (u_d : d ≤ 31) (l_a : 0 ≤ a) (u_a : a ≤ 31) (l_b : 0 ≤ b) (u_b : b ≤ 31) (l_n : -32768 ≤ n) (u_n : n ≤ 65535) (l_pc : -9223372036854775808 ≤ pc) (u_pc : pc ≤ 9223372036854775807) (l_st : 0 ≤ st) (u_st : st ≤ 0) (l_nc : 0 ≤ nc) (u_nc : nc ≤ 16384) (l_nm : 0 ≤ nm) (u_nm : nm ≤ 999999) (l_nr : 0 ≤ nr) (u_nr : nr ≤ 2048) (h_pre0 : (rdZ (rdZ rg a) 1) ≠ 0) : P op d a b n pc st nc nm nr cq rg rm mq := by
 delta P sq0 sq1 sL0 Pb Pn PL Pe W6 W3 kZ
 simp only [nrm, Int.reduceEq, Int.reduceNeg, reduceIte]
 have ka : rdZ (rdZ rg a) 1 ≠ 0 := h_pre0
 have hpc : I64 pc := ⟨l_pc, u_pc⟩
 have hp1 : I64 (IntKind.wrap .i64 (pc + 1)) := qJf _
 have hst : I64 st := by unfold I64; omega
 have hnm : I64 nm := by unfold I64; omega
 have hn1 : I64 (nm + 1) := by unfold I64; omega
 have hn0 : I64 n := by unfold I64; omega
 have h5 : I64 5 := by unfold I64; omega
 rintro _ rfl - _ rfl -
 have fr : ∀ {B}, B = (if op ≤ 23 then b else a) → Fm.does ⟨rg, rm, pc, st, mq, nm⟩ nr op d a b n = Fm.reck ⟨rg, rm, pc, st, mq, nm⟩ op d a B := fun hB => fdo_reck u_op hB
 have tr : ∀ {B}, B = (if op ≤ 23 then b else a) → (op = 22 ∨ op = 23) → IntKind.wrap .i32 (rdZ (rdZ rg B) 0) = 0 → _ := fun {B} hB h hx => qXy ((fr hB).trans (reck_no h hx)) hpc h5 hnm
 have un : ∀ {B}, B = (if op ≤ 23 then b else a) → ¬ ((op = 22 ∨ op = 23) ∧ IntKind.wrap .i32 (rdZ (rdZ rg B) 0) = 0) → (rdZ (rdZ rg a) 1 = 0 ∨ rdZ (rdZ rg B) 1 = 0) → _ := fun {B} hB h hx => qXy ((fr hB).trans (reck_un h hx)) hp1 hst hn1
 have kn : ∀ {B}, B = (if op ≤ 23 then b else a) → ¬ ((op = 22 ∨ op = 23) ∧ IntKind.wrap .i32 (rdZ (rdZ rg B) 0) = 0) → rdZ (rdZ rg a) 1 ≠ 0 → rdZ (rdZ rg B) 1 ≠ 0 → _ := fun {B} hB h hx hy => qXy ((fr hB).trans (reck_kn h hx hy)) hp1 hst hn1
 refine ⟨fun h => ?_, fun h => ?_⟩
 ·have hB : b = (if op ≤ 23 then b else a) := (if_pos h).symm
  refine ⟨fun g => ⟨fun z => tr hB (.inl g) z, fun z => ⟨fun kb => un hB (fun e => z e.2) (.inr kb), fun kb => kn hB (fun e => z e.2) ka kb⟩⟩, fun g => ?_⟩
  refine ⟨fun g2 => ⟨fun z => tr hB (.inr g2) z, fun z => ⟨fun kb => un hB (fun e => z e.2) (.inr kb), fun kb => kn hB (fun e => z e.2) ka kb⟩⟩, fun g2 => ?_⟩
  have hne : ∀ Q : Prop, ¬ ((op = 22 ∨ op = 23) ∧ Q) := fun Q e => e.1.elim g g2
  exact ⟨fun kb => un hB (hne _) (.inr kb), fun kb => kn hB (hne _) ka kb⟩
 ·have hB : a = (if op ≤ 23 then b else a) := (if_neg (by omega)).symm
  have hne : ∀ Q : Prop, ¬ ((op = 22 ∨ op = 23) ∧ Q) := fun Q e => by omega
  exact ⟨fun g => by omega, fun g => ⟨fun g2 => by omega, fun g2 => kn hB (hne _) ka ka⟩⟩
theorem plain (i v ro p) : statH 2 rk tree ⟨i, fN, v, ro, p⟩ = P (i 0) (i 1) (i 2) (i 3) (i 4) (i 5) (i 6) (i 7) (i 8) (i 9) (i 10) (i 11) (i 12) (i 13) := by kernel_rfl
theorem ran : ranH us (fun _ _ => .auto) rk 2 tree = true := by kernel_rfl
theorem fineT : fineH 2 rk tree = true := by kernel_rfl
theorem ok : RhOk (cxOf 2) rk.rh := okH us_ok ran fineT (by kernel_rfl) okk fun i v ro p hρ hpre => by rw [plain]; have q := hρ.hi; exact holds _ _ _ _ _ _ _ _ _ _ _ _ _ _ (q 0 _ rfl).1 (q 0 _ rfl).2 (q 1 _ rfl).1 (q 1 _ rfl).2 (q 2 _ rfl).1 (q 2 _ rfl).2 (q 3 _ rfl).1 (q 3 _ rfl).2 (q 4 _ rfl).1 (q 4 _ rfl).2 (q 5 _ rfl).1 (q 5 _ rfl).2 (q 6 _ rfl).1 (q 6 _ rfl).2 (q 7 _ rfl).1 (q 7 _ rfl).2 (q 8 _ rfl).1 (q 8 _ rfl).2 (q 9 _ rfl).1 (q 9 _ rfl).2 (hpre _ (mg 0 rfl))
end CFReckK
namespace CFReckU
def rk : Rk := ⟨33, [(1, 30), (0, 31), (0, 31), (0, 31), (-32768, 65535), (-9223372036854775808, 9223372036854775807), (0, 0), (0, 16384), (0, 999999), (0, 2048)], 14, [.ptr 0 0, .agg [.int .i64 (.v 0), .int .i64 (.v 1), .int .i64 (.v 2), .int .i64 (.v 3), .int .i64 (.v 4)]], [.cells (([.sl (.own 1) 5 (.c 0) (.v 7) none] : List SV) ++ bkM (.v 11) ++ ([.sl (.own 2) 2 (.c 0) (.v 9) none, .sl (.own 3) 3 (.c 0) (.v 8) none, .int .i64 (.v 6), .int .i64 (.v 5)] : List SV)) 58 none, .arr [.int .i64, .int .i64, .int .i64, .int .i64, .int .i64] 60 (.v 10) (.v 7), .arr [.int .i32, .bool] 54 (.v 12) (.v 9), .arr [.int .i64, .int .i64, .int .i64] 49 (.v 13) (.v 8)], [(.nt (.f 13 (.f 13 (.v 11) (.v 2) (.c 0)) (.c 1) (.c 0)))], .tup [], [.cells (([.sl (.own 1) 5 (.c 0) (.v 7) none] : List SV) ++ bkM (.v 1000000) ++ ([.sl (.own 2) 2 (.c 0) (.v 9) none, .sl (.own 4) 3 (.c 0) (.v 1000003) none, .int .i64 (.v 1000002), .int .i64 (.v 1000001)] : List SV)) 58 none, .arr [.int .i64, .int .i64, .int .i64, .int .i64, .int .i64] 60 (.v 10) (.v 7), .arr [.int .i32, .bool] 54 (.v 12) (.v 9), .gone, .arr [.int .i64, .int .i64, .int .i64] 49 (.v 1000004) (.v 1000003)], [.code [.int .i32, .bool] (.f 13 (.f 92 (.v 0) (.v 1) (qQy [(.v 2), (.v 3), (.v 4), (.v 9), (.v 11), (.v 12), (.v 5), (.v 6), (.v 13), (.v 8)])) (.c 0) (.c 0)) (.c 32), .num (.w .i64 (.f 13 (.f 92 (.v 0) (.v 1) (qQy [(.v 2), (.v 3), (.v 4), (.v 9), (.v 11), (.v 12), (.v 5), (.v 6), (.v 13), (.v 8)])) (.c 2) (.c 0))), .num (.w .i64 (.f 13 (.f 92 (.v 0) (.v 1) (qQy [(.v 2), (.v 3), (.v 4), (.v 9), (.v 11), (.v 12), (.v 5), (.v 6), (.v 13), (.v 8)])) (.c 3) (.c 0))), .num (.w .i64 (.f 13 (.f 92 (.v 0) (.v 1) (qQy [(.v 2), (.v 3), (.v 4), (.v 9), (.v 11), (.v 12), (.v 5), (.v 6), (.v 13), (.v 8)])) (.c 5) (.c 0))), .code [.int .i64, .int .i64, .int .i64] (.f 13 (.f 92 (.v 0) (.v 1) (qQy [(.v 2), (.v 3), (.v 4), (.v 9), (.v 11), (.v 12), (.v 5), (.v 6), (.v 13), (.v 8)])) (.c 4) (.c 0)) (.w .i64 (.f 13 (.f 92 (.v 0) (.v 1) (qQy [(.v 2), (.v 3), (.v 4), (.v 9), (.v 11), (.v 12), (.v 5), (.v 6), (.v 13), (.v 8)])) (.c 5) (.c 0)))], []⟩
theorem okk : rk.ok = true := by kernel_rfl
theorem okh : rk.rh.ok = true := by kernel_rfl
noncomputable def us : SMs := fun Γ ins n => smH (cxG n Γ ins) [CFPut.rk.rh] (smR (cxG n Γ ins) [CADo.rc, CACost.rc])
theorem us_ok : SMsOk us := fun Γ ins n => qZt (tabsG n Γ ins) (qJx CFPut.okh (rh_n CFPut.ok) (qZv _)) (qZn (tabsG n Γ ins) (qQs CADo.okb (rc_n CADo.ok) (qQs CACost.okb (rc_n CACost.ok) (qZw _))))
def Q0 : E := (.cl 1001 (-2147483648) 2147483647)
def Q1 : E := (te Q0 (.c 0))
def Q2 : E := (tC (.c 0) (.c 0))
def Q3 : E := (tC (.c 0) Q2)
def Q4 : E := (.f 91 (.v 11) (.v 1) Q3)
def Q5 : E := (tp (.v 5) (.c 1))
def Q6 : E := (t6 Q5)
def Q7 : E := (tp (.v 8) (.c 1))
def Q8 : E := (.cl 1000 (-2147483648) 2147483647)
def Q9 : E := (.f 65 (.v 0) Q8 (.c 0))
def Q10 : E := (tC Q9 (.c 0))
def Q11 : E := (tC (.c (-1)) Q10)
def Q12 : E := (tC (.v 5) Q11)
def Q13 : E := (.f 14 (.v 13) (.v 8) Q12)
def Q14 : E := (te Q8 (.c 0))
def tree : TT (List E) :=
 (.new 1000 (t3 (tR (tR (.v 11) (.v 2)) (.c 0))) (.new 1001 (t3 (tR (tR (.v 11) (.v 3)) (.c 0))) (.br (tl (.v 0) (.c 23)) (.br (te (.v 0) (.c 22)) (.br Q1 (.leaf [(.v 11), (.v 5), (.c 5), (.v 8), (.v 13)]) (.leaf [Q4, Q6, (.v 6), Q7, Q13])) (.br (te (.v 0) (.c 23)) (.br Q1 (.leaf [(.v 11), (.v 5), (.c 5), (.v 8), (.v 13)]) (.leaf [Q4, Q6, (.v 6), Q7, Q13])) (.leaf [Q4, Q6, (.v 6), Q7, Q13]))) (.br (te (.v 0) (.c 22)) (.br Q14 (.leaf [(.v 11), (.v 5), (.c 5), (.v 8), (.v 13)]) (.leaf [Q4, Q6, (.v 6), Q7, Q13])) (.br (te (.v 0) (.c 23)) (.br Q14 (.leaf [(.v 11), (.v 5), (.c 5), (.v 8), (.v 13)]) (.leaf [Q4, Q6, (.v 6), Q7, Q13])) (.leaf [Q4, Q6, (.v 6), Q7, Q13]))))))
def sL0 (a b c d e j l n f g o i z0 z3 z5 z7 z9 : Int) : Prop := qQt [.int .i32, .bool] z0 (rdZ (fdoZ a b (kZ c (kZ d (kZ e (kZ j (kZ l (kZ n (kZ f (kZ g (kZ o (kZ i 0))))))))))) 0) 32 ∧ (z3 : Int) = (W6 (rdZ (fdoZ a b (kZ c (kZ d (kZ e (kZ j (kZ l (kZ n (kZ f (kZ g (kZ o (kZ i 0))))))))))) 2)) ∧ (z5 : Int) = (W6 (rdZ (fdoZ a b (kZ c (kZ d (kZ e (kZ j (kZ l (kZ n (kZ f (kZ g (kZ o (kZ i 0))))))))))) 3)) ∧ (z7 : Int) = (W6 (rdZ (fdoZ a b (kZ c (kZ d (kZ e (kZ j (kZ l (kZ n (kZ f (kZ g (kZ o (kZ i 0))))))))))) 5)) ∧ qQt [.int .i64, .int .i64, .int .i64] z9 (rdZ (fdoZ a b (kZ c (kZ d (kZ e (kZ j (kZ l (kZ n (kZ f (kZ g (kZ o (kZ i 0))))))))))) 4) (W6 (rdZ (fdoZ a b (kZ c (kZ d (kZ e (kZ j (kZ l (kZ n (kZ f (kZ g (kZ o (kZ i 0))))))))))) 5)) ∧ True
def P (a b c d e f g h i j k l n o : Int) : Prop :=
 Pn (W3 (rdZ (rdZ l c) 0)) (-2147483648) 2147483647 fun y0 => Pn (W3 (rdZ (rdZ l d) 0)) (-2147483648) 2147483647 fun y1 => (Pb (PL a 23) (Pb (Pe a 22) (Pb (Pe y1 0) (sL0 a b c d e j l n f g o i l f 5 i o) (sL0 a b c d e j l n f g o i (fpuZ l b (kZ 0 (kZ 0 0))) (W6 (f + 1)) g (i + 1) (updZ o i (kZ f (kZ (-1) (kZ (aluC a y0) 0)))))) (Pb (Pe a 23) (Pb (Pe y1 0) (sL0 a b c d e j l n f g o i l f 5 i o) (sL0 a b c d e j l n f g o i (fpuZ l b (kZ 0 (kZ 0 0))) (W6 (f + 1)) g (i + 1) (updZ o i (kZ f (kZ (-1) (kZ (aluC a y0) 0)))))) (sL0 a b c d e j l n f g o i (fpuZ l b (kZ 0 (kZ 0 0))) (W6 (f + 1)) g (i + 1) (updZ o i (kZ f (kZ (-1) (kZ (aluC a y0) 0))))))) (Pb (Pe a 22) (Pb (Pe y0 0) (sL0 a b c d e j l n f g o i l f 5 i o) (sL0 a b c d e j l n f g o i (fpuZ l b (kZ 0 (kZ 0 0))) (W6 (f + 1)) g (i
 + 1) (updZ o i (kZ f (kZ (-1) (kZ (aluC a y0) 0)))))) (Pb (Pe a 23) (Pb (Pe y0 0) (sL0 a b c d e j l n f g o i l f 5 i o) (sL0 a b c d e j l n f g o i (fpuZ l b (kZ 0 (kZ 0 0))) (W6 (f + 1)) g (i + 1) (updZ o i (kZ f (kZ (-1) (kZ (aluC a y0) 0)))))) (sL0 a b c d e j l n f g o i (fpuZ l b (kZ 0 (kZ 0 0))) (W6 (f + 1)) g (i + 1) (updZ o i (kZ f (kZ (-1) (kZ (aluC a y0) 0))))))))
theorem holds (op d a b n pc st nc nm nr cq rg rm mq : Int) (l_op : 1 ≤ op) (u_op : op ≤ 30) (l_d : 0 ≤ d) (u_d : d ≤ 31) (l_a : 0 ≤ a) (u_a : a ≤ 31) (l_b : 0 ≤ b) (u_b : b ≤ 31) (l_n : -32768 ≤ n) (u_n : n ≤ 65535) (l_pc : -9223372036854775808 ≤ pc) (u_pc : pc ≤ 9223372036854775807) (l_st : 0 ≤ st) (u_st : st ≤ 0) (l_nc : 0 ≤ nc) (u_nc : nc ≤ 16384) (l_nm : 0 ≤ nm) (u_nm : nm ≤ 999999) (l_nr : 0 ≤ nr) (u_nr : nr ≤ 2048) (h_pre0 : qQj ((rdZ (rdZ rg a) 1) == 0) ≠ 0) : P op d a b n pc st nc nm nr cq rg rm mq := by
 delta P sL0 Pb Pn PL Pe W6 W3 kZ
 simp only [nrm, Int.reduceEq, Int.reduceNeg, reduceIte]
 have ka : rdZ (rdZ rg a) 1 = 0 := by simpa [qQj] using h_pre0
 have hpc : I64 pc := ⟨l_pc, u_pc⟩
 have hp1 : I64 (IntKind.wrap .i64 (pc + 1)) := qJf _
 have hst : I64 st := by unfold I64; omega
 have hnm : I64 nm := by unfold I64; omega
 have hn1 : I64 (nm + 1) := by unfold I64; omega
 have hn0 : I64 n := by unfold I64; omega
 have h5 : I64 5 := by unfold I64; omega
 rintro _ rfl - _ rfl -
 have fr : ∀ {B}, B = (if op ≤ 23 then b else a) → Fm.does ⟨rg, rm, pc, st, mq, nm⟩ nr op d a b n = Fm.reck ⟨rg, rm, pc, st, mq, nm⟩ op d a B := fun hB => fdo_reck u_op hB
 have tr : ∀ {B}, B = (if op ≤ 23 then b else a) → (op = 22 ∨ op = 23) → IntKind.wrap .i32 (rdZ (rdZ rg B) 0) = 0 → _ := fun {B} hB h hx => qXy ((fr hB).trans (reck_no h hx)) hpc h5 hnm
 have un : ∀ {B}, B = (if op ≤ 23 then b else a) → ¬ ((op = 22 ∨ op = 23) ∧ IntKind.wrap .i32 (rdZ (rdZ rg B) 0) = 0) → (rdZ (rdZ rg a) 1 = 0 ∨ rdZ (rdZ rg B) 1 = 0) → _ := fun {B} hB h hx => qXy ((fr hB).trans (reck_un h hx)) hp1 hst hn1
 have kn : ∀ {B}, B = (if op ≤ 23 then b else a) → ¬ ((op = 22 ∨ op = 23) ∧ IntKind.wrap .i32 (rdZ (rdZ rg B) 0) = 0) → rdZ (rdZ rg a) 1 ≠ 0 → rdZ (rdZ rg B) 1 ≠ 0 → _ := fun {B} hB h hx hy => qXy ((fr hB).trans (reck_kn h hx hy)) hp1 hst hn1
 refine ⟨fun h => ?_, fun h => ?_⟩
 ·have hB : b = (if op ≤ 23 then b else a) := (if_pos h).symm
  refine ⟨fun g => ⟨fun z => tr hB (.inl g) z, fun z => un hB (fun e => z e.2) (.inl ka)⟩, fun g => ?_⟩
  refine ⟨fun g2 => ⟨fun z => tr hB (.inr g2) z, fun z => un hB (fun e => z e.2) (.inl ka)⟩, fun g2 => ?_⟩
  have hne : ∀ Q : Prop, ¬ ((op = 22 ∨ op = 23) ∧ Q) := fun Q e => e.1.elim g g2
  exact un hB (hne _) (.inl ka)
 ·have hB : a = (if op ≤ 23 then b else a) := (if_neg (by omega)).symm
  have hne : ∀ Q : Prop, ¬ ((op = 22 ∨ op = 23) ∧ Q) := fun Q e => by omega
  exact ⟨fun g => by omega, fun g => ⟨fun g2 => by omega, fun g2 => un hB (hne _) (.inl ka)⟩⟩
theorem plain (i v ro p) : statH 2 rk tree ⟨i, fN, v, ro, p⟩ = P (i 0) (i 1) (i 2) (i 3) (i 4) (i 5) (i 6) (i 7) (i 8) (i 9) (i 10) (i 11) (i 12) (i 13) := by kernel_rfl
theorem ran : ranH us (fun _ _ => .auto) rk 2 tree = true := by kernel_rfl
theorem fineT : fineH 2 rk tree = true := by kernel_rfl
theorem ok : RhOk (cxOf 2) rk.rh := okH us_ok ran fineT (by kernel_rfl) okk fun i v ro p hρ hpre => by rw [plain]; have q := hρ.hi; exact holds _ _ _ _ _ _ _ _ _ _ _ _ _ _ (q 0 _ rfl).1 (q 0 _ rfl).2 (q 1 _ rfl).1 (q 1 _ rfl).2 (q 2 _ rfl).1 (q 2 _ rfl).2 (q 3 _ rfl).1 (q 3 _ rfl).2 (q 4 _ rfl).1 (q 4 _ rfl).2 (q 5 _ rfl).1 (q 5 _ rfl).2 (q 6 _ rfl).1 (q 6 _ rfl).2 (q 7 _ rfl).1 (q 7 _ rfl).2 (q 8 _ rfl).1 (q 8 _ rfl).2 (q 9 _ rfl).1 (q 9 _ rfl).2 (hpre _ (mg 0 rfl))
end CFReckU
namespace CFDoes
def rk : Rk := ⟨19, [(1, 43), (0, 31), (0, 31), (0, 31), (-32768, 65535), (-9223372036854775808, 9223372036854775807), (0, 0), (0, 16384), (0, 999999), (0, 2048)], 14, [.ptr 0 0, .agg [.int .i64 (.v 0), .int .i64 (.v 1), .int .i64 (.v 2), .int .i64 (.v 3), .int .i64 (.v 4)]], [.cells (([.sl (.own 1) 5 (.c 0) (.v 7) none] : List SV) ++ bkM (.v 11) ++ ([.sl (.own 2) 2 (.c 0) (.v 9) none, .sl (.own 3) 3 (.c 0) (.v 8) none, .int .i64 (.v 6), .int .i64 (.v 5)] : List SV)) 58 none, .arr [.int .i64, .int .i64, .int .i64, .int .i64, .int .i64] 60 (.v 10) (.v 7), .arr [.int .i32, .bool] 54 (.v 12) (.v 9), .arr [.int .i64, .int .i64, .int .i64] 49 (.v 13) (.v 8)], [], .tup [], [.cells (([.sl (.own 1) 5 (.c 0) (.v 7) none] : List SV) ++ bkM (.v 1000000) ++ ([.sl (.own 2) 2 (.c 0) (.v 9) none, .sl (.own 4) 3 (.c 0) (.v 1000004) none, .int .i64 (.v 1000003), .int .i64 (.v 1000002)] : List SV)) 58 none, .arr [.int .i64, .int .i64, .int .i64, .int .i64, .int .i64] 60 (.v 10) (.v 7), .arr [.int .i32, .bool] 54 (.v 1000001) (.v 9), .gone, .arr [.int .i64, .int .i64, .int .i64] 49 (.v 1000005) (.v 1000004)], [.code [.int .i32, .bool] (.f 13 (.f 92 (.v 0) (.v 1) (qQy [(.v 2), (.v 3), (.v 4), (.v 9), (.v 11), (.v 12), (.v 5), (.v 6), (.v 13), (.v 8)])) (.c 0) (.c 0)) (.c 32), .code [.int .i32, .bool] (.f 13 (.f 92 (.v 0) (.v 1) (qQy [(.v 2), (.v 3), (.v 4), (.v 9), (.v 11), (.v 12), (.v 5), (.v 6), (.v 13), (.v 8)])) (.c 1) (.c 0)) (.v 9), .num (.w .i64 (.f 13 (.f 92 (.v 0) (.v 1) (qQy [(.v 2), (.v 3), (.v 4), (.v 9), (.v 11), (.v 12), (.v 5), (.v 6), (.v 13), (.v 8)])) (.c 2) (.c 0))), .num (.w .i64 (.f 13 (.f 92 (.v 0) (.v 1) (qQy [(.v 2), (.v 3), (.v 4), (.v 9), (.v 11), (.v 12), (.v 5), (.v 6), (.v 13), (.v 8)])) (.c 3) (.c 0))), .num (.w .i64 (.f 13 (.f 92 (.v 0) (.v 1) (qQy [(.v 2), (.v 3), (.v 4), (.v 9), (.v 11), (.v 12), (.v 5), (.v 6), (.v 13), (.v 8)])) (.c 5) (.c 0))), .code [.int .i64, .int .i64, .int .i64] (.f 13 (.f 92 (.v 0) (.v 1) (qQy [(.v 2), (.v 3), (.v 4), (.v 9), (.v 11), (.v 12), (.v 5), (.v 6), (.v 13), (.v 8)])) (.c 4) (.c 0)) (.w .i64 (.f 13 (.f 92 (.v 0) (.v 1) (qQy [(.v 2), (.v 3), (.v 4), (.v 9), (.v 11), (.v 12), (.v 5), (.v 6), (.v 13), (.v 8)])) (.c 5) (.c 0)))], []⟩
theorem okk : rk.ok = true := by kernel_rfl
theorem okh : rk.rh.ok = true := by kernel_rfl
noncomputable def us : SMs := fun Γ ins n => smF (cxG n Γ ins) [(CFReckK.rk.rh, CFReckU.rk.rh)] (smH (cxG n Γ ins) [CFPut.rk.rh, CFMem.rk.rh, CFElse.rk.rh] (smR (cxG n Γ ins) [COCost.rc]))
theorem us_ok : SMsOk us := fun Γ ins n => smF_ok (tabsG n Γ ins) (rfs_cons CFReckK.okh (rh_n CFReckK.ok) CFReckU.okh (rh_n CFReckU.ok) (rfs_nil _)) (qZt (tabsG n Γ ins) (qJx CFPut.okh (rh_n CFPut.ok) (qJx CFMem.okh (rh_n CFMem.ok) (qJx CFElse.okh (rh_n CFElse.ok) (qZv _)))) (qZn (tabsG n Γ ins) (qQs COCost.okb (rc_n COCost.ok) (qZw _))))
def Q0 : E := (tR (.v 11) (.v 2))
def Q1 : E := (tR Q0 (.c 1))
def Q2 : E := (tC (.v 8) (.c 0))
def Q3 : E := (tC (.v 13) Q2)
def Q4 : E := (tC (.v 6) Q3)
def Q5 : E := (tC (.v 5) Q4)
def Q6 : E := (tC (.v 12) Q5)
def Q7 : E := (tC (.v 11) Q6)
def Q8 : E := (tC (.v 9) Q7)
def Q9 : E := (tC (.v 4) Q8)
def Q10 : E := (tC (.v 3) Q9)
def Q11 : E := (tC (.v 2) Q10)
def Q12 : E := (.f 92 (.v 0) (.v 1) Q11)
def Q13 : E := (tR Q12 (.c 0))
def Q14 : E := (tR Q12 (.c 2))
def Q15 : E := (t6 Q14)
def Q16 : E := (tR Q12 (.c 3))
def Q17 : E := (t6 Q16)
def Q18 : E := (tR Q12 (.c 5))
def Q19 : E := (t6 Q18)
def Q20 : E := (tR Q12 (.c 4))
def Q21 : E := (tR Q0 (.c 0))
def Q22 : E := (t3 Q21)
def Q23 : E := (.nt Q1)
def Q24 : E := (tC (.c 0) (tC (.c 0) (.c 0)))
def Q25 : E := (.f 91 (.v 11) (.v 1) Q24)
def Q26 : E := (tp (.v 5) (.c 1))
def Q27 : E := (t6 Q26)
def Q28 : E := (tp (.v 8) (.c 1))
def Q29 : E := (tC (.c 1) (.c 0))
def Q30 : E := (tC (.c (-1)) Q29)
def Q31 : E := (tC (.v 5) Q30)
def Q32 : E := (.f 14 (.v 13) (.v 8) Q31)
def Q33 : E := (.cl 1000 (-2147483648) 2147483647)
def Q34 : E := (tR Q12 (.c 1))
def tree : TT (List E) :=
 (.br (tl (.v 0) (.c 30)) (.br Q1 (.leaf [Q13, (.v 12), Q15, Q17, Q19, Q20]) (.leaf [Q13, (.v 12), Q15, Q17, Q19, Q20])) (.br (te (.v 0) (.c 31)) (.new 1000 Q22 (.br Q23 (.leaf [Q25, (.v 12), Q27, (.v 6), Q28, Q32]) (.leaf [(.f 91 (.v 11) (.v 1) (tC (t3 (tp Q33 (.v 4))) Q29)), (.v 12), Q27, (.v 6), Q28, Q32]))) (.br (te (.v 0) (.c 32)) (.new 1000 Q22 (.br Q23 (.leaf [Q25, (.v 12), Q27, (.v 6), Q28, Q32]) (.leaf [(.f 91 (.v 11) (.v 1) (tC (.b .or .i32 Q33 (.v 4)) Q29)), (.v 12), Q27, (.v 6), Q28, Q32]))) (.br (te (.v 0) (.c 33)) (.new 1000 (t3 (.b .shl .u32 (.w .u32 (.v 4)) (.c 16))) (.leaf [(.f 91 (.v 11) (.v 1) (tC Q33 Q29)), (.v 12), Q27, (.v 6), Q28, Q32])) (.br (te (.v 0) (.c 34)) (.br (tl (.c 34) (.v 0)) (.br (tl (.v 0) (.c 35)) (.leaf [Q13, Q34, Q15, Q17, Q19, Q20]) (.bad 200))
 (.bad 200)) (.br (te (.v 0) (.c 35)) (.br (tl (.c 34) (.v 0)) (.br (tl (.v 0) (.c 35)) (.leaf [Q13, Q34, Q15, Q17, Q19, Q20]) (.bad 200)) (.bad 200)) (.br (tl (.c 36) (.v 0)) (.leaf [Q13, (.v 12), Q15, Q17, Q19, Q20]) (.bad 200))))))))
noncomputable def sq0 (a b c d e j l n f g o i : Int) : Int := (fdoZ a b (kZ c (kZ d (kZ e (kZ j (kZ l (kZ n (kZ f (kZ g (kZ o (kZ i 0)))))))))))
def sL0 (a b c d e j l n f g o i z0 z3 z6 z8 z10 z12 : Int) : Prop := qQt [.int .i32, .bool] z0 (rdZ (sq0 a b c d e j l n f g o i) 0) 32 ∧ qQt [.int .i32, .bool] z3 (rdZ (sq0 a b c d e j l n f g o i) 1) j ∧ (z6 : Int) = (W6 (rdZ (sq0 a b c d e j l n f g o i) 2)) ∧ (z8 : Int) = (W6 (rdZ (sq0 a b c d e j l n f g o i) 3)) ∧ (z10 : Int) = (W6 (rdZ (sq0 a b c d e j l n f g o i) 5)) ∧ qQt [.int .i64, .int .i64, .int .i64] z12 (rdZ (sq0 a b c d e j l n f g o i) 4) (W6 (rdZ (sq0 a b c d e j l n f g o i) 5)) ∧ True
def sq1 (a b c d e j l n f g o i : Int) : Prop := (Pm (PL 34 a) (Pm (PL a 35) (sL0 a b c d e j l n f g o i (rdZ (sq0 a b c d e j l n f g o i) 0) (rdZ (sq0 a b c d e j l n f g o i) 1) (W6 (rdZ (sq0 a b c d e j l n f g o i) 2)) (W6 (rdZ (sq0 a b c d e j l n f g o i) 3)) (W6 (rdZ (sq0 a b c d e j l n f g o i) 5)) (rdZ (sq0 a b c d e j l n f g o i) 4))))
def P (a b c d e f g h i j k l n o : Int) : Prop :=
 (Pb (PL a 30) (Pb (rdZ (rdZ l c) 1) (sL0 a b c d e j l n f g o i (rdZ (sq0 a b c d e j l n f g o i) 0) n (W6 (rdZ (sq0 a b c d e j l n f g o i) 2)) (W6 (rdZ (sq0 a b c d e j l n f g o i) 3)) (W6 (rdZ (sq0 a b c d e j l n f g o i) 5)) (rdZ (sq0 a b c d e j l n f g o i) 4)) (sL0 a b c d e j l n f g o i (rdZ (sq0 a b c d e j l n f g o i) 0) n (W6 (rdZ (sq0 a b c d e j l n f g o i) 2)) (W6 (rdZ (sq0 a b c d e j l n f g o i) 3)) (W6 (rdZ (sq0 a b c d e j l n f g o i) 5)) (rdZ (sq0 a b c d e j l n f g o i) 4))) (Pb (Pe a 31) (Pn (W3 (rdZ (rdZ l c) 0)) (-2147483648) 2147483647 fun y0 => (Pb (Pe (rdZ (rdZ l c) 1) 0) (sL0 a b c d e j l n f g o i (fpuZ l b (kZ 0 (kZ 0 0))) n (W6 (f + 1)) g (i + 1) (updZ o i (kZ f (kZ (-1) (kZ 1 0))))) (sL0 a b c d e j l n f g o i (fpuZ l b (kZ (W3 (y0 + e)) (kZ 1
 0))) n (W6 (f + 1)) g (i + 1) (updZ o i (kZ f (kZ (-1) (kZ 1 0))))))) (Pb (Pe a 32) (Pn (W3 (rdZ (rdZ l c) 0)) (-2147483648) 2147483647 fun y0 => (Pb (Pe (rdZ (rdZ l c) 1) 0) (sL0 a b c d e j l n f g o i (fpuZ l b (kZ 0 (kZ 0 0))) n (W6 (f + 1)) g (i + 1) (updZ o i (kZ f (kZ (-1) (kZ 1 0))))) (sL0 a b c d e j l n f g o i (fpuZ l b (kZ (bor .i32 y0 e) (kZ 1 0))) n (W6 (f + 1)) g (i + 1) (updZ o i (kZ f (kZ (-1) (kZ 1 0))))))) (Pb (Pe a 33) (Pn (W3 (shlZ .u32 (U3 e) 16)) (-2147483648) 2147483647 fun y0 => (sL0 a b c d e j l n f g o i (fpuZ l b (kZ y0 (kZ 1 0))) n (W6 (f + 1)) g (i + 1) (updZ o i (kZ f (kZ (-1) (kZ 1 0)))))) (Pb (Pe a 34) (sq1 a b c d e j l n f g o i) (Pb (Pe a 35) (sq1 a b c d e j l n f g o i) (Pm (PL 36 a) (sL0 a b c d e j l n f g o i (rdZ (sq0 a b c d e j l n f g o i) 0)
 n (W6 (rdZ (sq0 a b c d e j l n f g o i) 2)) (W6 (rdZ (sq0 a b c d e j l n f g o i) 3)) (W6 (rdZ (sq0 a b c d e j l n f g o i) 5)) (rdZ (sq0 a b c d e j l n f g o i) 4)))))))))
theorem holds (op d a b n pc st nc nm nr cq rg rm mq : Int) (l_op : 1 ≤ op) (u_op : op ≤ 43) (l_d : 0 ≤ d) (u_d : d ≤ 31) (l_a : 0 ≤ a) (u_a : a ≤ 31) (l_b : 0 ≤ b) (u_b : b ≤ 31) (l_n : -32768 ≤ n) (u_n : n ≤ 65535) (l_pc : -9223372036854775808 ≤ pc) (u_pc : pc ≤ 9223372036854775807) (l_st : 0 ≤ st) (u_st : st ≤ 0) (l_nc : 0 ≤ nc) (u_nc : nc ≤ 16384) (l_nm : 0 ≤ nm) (u_nm : nm ≤ 999999) (l_nr : 0 ≤ nr) (u_nr : nr ≤ 2048) : P op d a b n pc st nc nm nr cq rg rm mq := by
 delta P sq0 sq1 sL0 Pb Pm Pn PL Pe W6 W3 U3 kZ
 simp only [nrm, nro, Int.reduceEq, Int.reduceNeg, reduceIte]
 have hpc : I64 pc := ⟨l_pc, u_pc⟩
 have hp1 : I64 (IntKind.wrap .i64 (pc + 1)) := qJf _
 have hst : I64 st := by unfold I64; omega
 have hnm : I64 nm := by unfold I64; omega
 have hn1 : I64 (nm + 1) := by unfold I64; omega
 have hn0 : I64 n := by unfold I64; omega
 have hw : IntKind.wrap .i32 n = n := wi32 (by omega) (by omega)
 refine ⟨fun h => (fun R => ⟨fun _ => R, fun _ => R⟩) ⟨qQx _ _ _, by rw [fdo_rm (.inl h)]; exact qQx _ _ _, qQx _ _ _⟩, fun h30 => ?_⟩
 refine ⟨fun h => ?_, fun g1 => ?_⟩
 ·rintro _ rfl -
  exact ⟨fun k => qXb (fd31u h k) hp1 hst hn1, fun k => qXb (fd31k h k) hp1 hst hn1⟩
 refine ⟨fun h => ?_, fun g2 => ?_⟩
 ·rintro _ rfl -
  exact ⟨fun k => qXb (fd32u h k) hp1 hst hn1, fun k => qXb (fd32k h hw k) hp1 hst hn1⟩
 refine ⟨fun h => ?_, fun g3 => ?_⟩
 ·rintro _ rfl -
  exact qXb (fd33 h) hp1 hst hn1
 refine ⟨fun h => ⟨by omega, by omega, qQx _ _ _, qQx _ _ _, qQx _ _ _⟩, fun g4 => ?_⟩
 refine ⟨fun h => ⟨by omega, by omega, qQx _ _ _, qQx _ _ _, qQx _ _ _⟩, fun g5 => ?_⟩
 have h36 : 36 ≤ op := by omega
 exact ⟨h36, qQx _ _ _, by rw [fdo_rm (.inr h36)]; exact qQx _ _ _, qQx _ _ _⟩
theorem plain (i v ro p) : statH 2 rk tree ⟨i, fN, v, ro, p⟩ = P (i 0) (i 1) (i 2) (i 3) (i 4) (i 5) (i 6) (i 7) (i 8) (i 9) (i 10) (i 11) (i 12) (i 13) := by kernel_rfl
theorem ran : ranH us (fun _ _ => .auto) rk 2 tree = true := by kernel_rfl
theorem fineT : fineH 2 rk tree = true := by kernel_rfl
theorem ok : RhOk (cxOf 2) rk.rh := okH us_ok ran fineT (by kernel_rfl) okk fun i v ro p hρ hpre => by rw [plain]; have q := hρ.hi; exact holds _ _ _ _ _ _ _ _ _ _ _ _ _ _ (q 0 _ rfl).1 (q 0 _ rfl).2 (q 1 _ rfl).1 (q 1 _ rfl).2 (q 2 _ rfl).1 (q 2 _ rfl).2 (q 3 _ rfl).1 (q 3 _ rfl).2 (q 4 _ rfl).1 (q 4 _ rfl).2 (q 5 _ rfl).1 (q 5 _ rfl).2 (q 6 _ rfl).1 (q 6 _ rfl).2 (q 7 _ rfl).1 (q 7 _ rfl).2 (q 8 _ rfl).1 (q 8 _ rfl).2 (q 9 _ rfl).1 (q 9 _ rfl).2
end CFDoes
namespace CFTell
def rc : Rc := ⟨7, [some 5, none], [.row [.int .u32] 1000000, .row [.int .i32] 1000000, .row [.bool] 1000000, .row [.int .i64] 1000000, .row [.int .i64] 1000000, .int .i64], [(.b .le .i64 (.v 5) (.c 300))], .tup [some 3, none], [.row [.int .i64, .int .i64, .int .i64] 49 (.f 13 (.f 97 (.v 6) (.v 0) (qQy [(.v 1), (.v 5), (.v 7), (.v 8)])) (.c 0) (.c 0)) (.ite (.b .eq .i64 (.f 84 (.v 0) (.v 1) (qQy [(.v 2), (.v 3), (.v 4), (.v 9), (.v 10)])) (.c 0)) (.w .i64 (.f 13 (.f 97 (.v 6) (.v 0) (qQy [(.v 1), (.v 5), (.v 7), (.v 8)])) (.c 1) (.c 0))) (.c 0)), .int .i64 (.ite (.b .eq .i64 (.f 84 (.v 0) (.v 1) (qQy [(.v 2), (.v 3), (.v 4), (.v 9), (.v 10)])) (.c 0)) (.w .i64 (.f 13 (.f 97 (.v 6) (.v 0) (qQy [(.v 1), (.v 5), (.v 7), (.v 8)])) (.c 2) (.c 0))) (.c 0)), .int .i64 (.ite (.b .eq .i64 (.f 84 (.v 0) (.v 1) (qQy [(.v 2), (.v 3), (.v 4), (.v 9), (.v 10)])) (.c 0)) (.w .i64 (.f 13 (.f 97 (.v 6) (.v 0) (qQy [(.v 1), (.v 5), (.v 7), (.v 8)])) (.c 3) (.c 0))) (.c 0)), .int .i64 (.ite (.b .eq .i64 (.f 84 (.v 0) (.v 1) (qQy [(.v 2), (.v 3), (.v 4), (.v 9), (.v 10)])) (.c 0)) (.w .i64 (.f 13 (.f 97 (.v 6) (.v 0) (qQy [(.v 1), (.v 5), (.v 7), (.v 8)])) (.c 4) (.c 0))) (.f 84 (.v 0) (.v 1) (qQy [(.v 2), (.v 3), (.v 4), (.v 9), (.v 10)])))]⟩
theorem okb : rc.ok = true := by kernel_rfl
noncomputable def us : SMs := fun Γ ins n => smH (cxG n Γ ins) [CFBegin.rk.rh, CFTold.rk.rh, CFDoes.rk.rh] (smR (cxG n Γ ins) [CICheck.rc])
theorem us_ok : SMsOk us := fun Γ ins n => qZt (tabsG n Γ ins) (qJx CFBegin.okh (rh_n CFBegin.ok) (qJx CFTold.okh (rh_n CFTold.ok) (qJx CFDoes.okh (rh_n CFDoes.ok) (qZv _)))) (qZn (tabsG n Γ ins) (qQs CICheck.okb (rc_n CICheck.ok) (qZw _)))
def Q0 : E := (.cl 1001 0 4611686018427387904)
def Q1 : E := (.cl 1005 (-9223372036854775808) 9223372036854775807)
def Q2 : E := (.cl 1006 (-9223372036854775808) 9223372036854775807)
def Q3 : E := (tp Q0 (.c 1))
def Q4 : E := (tl Q3 (.c 4611686018427387904))
def Q5 : E := (.cl 1004 0 1000000)
def Q6 : E := (.f 94 (.v 6) (.v 0) (.c 0))
def Q7 : E := (tR Q6 Q2)
def Q8 : E := (.cl 1009 (-9223372036854775808) 9223372036854775807)
def Q9 : E := (.cl 1010 (-9223372036854775808) 9223372036854775807)
def Q10 : E := (.cl 1011 (-9223372036854775808) 9223372036854775807)
def Q11 : E := (.cl 1012 (-9223372036854775808) 9223372036854775807)
def Q12 : E := (.cl 1013 (-9223372036854775808) 9223372036854775807)
def Q13 : E := (tC Q5 (.c 0))
def Q14 : E := (tC (.v 1003) Q13)
def Q15 : E := (tC Q1 Q14)
def Q16 : E := (tC Q2 Q15)
def Q17 : E := (tC (.v 1007) Q16)
def Q18 : E := (tC (.v 1002) Q17)
def Q19 : E := (tC (.v 1) Q18)
def Q20 : E := (tC Q12 Q19)
def Q21 : E := (tC Q11 Q20)
def Q22 : E := (tC Q10 Q21)
def Q23 : E := (.f 92 Q8 Q9 Q22)
def Q24 : E := (tR Q23 (.c 5))
def Q25 : E := (t6 Q24)
def tree : TT (List E) :=
 (.br (tl (.v 0) (.v 11)) (.br (tl (.v 1) (.v 12)) (.br (tl (.v 2) (.v 13)) (.br (tl (.v 3) (.v 14)) (.br (tl (.v 4) (.v 15)) (.new 1000 (.f 84 (.v 0) (.v 1) (tC (.v 2) (tC (.v 3) (tC (.v 4) (tC (.v 9) (tC (.v 10) (.c 0))))))) (.br (tn (.cl 1000 0 9) (.c 0)) (.leaf [(.c 0), (.c 0), (.c 0), (.c 0), (.cl 1000 0 9)]) (.br (tl (.v 0) (.c 16384)) (.br (tl (.v 1) (.c 2048)) (.br (te (.v 2) (.v 1)) (.loop ⟨1001, [some (0, 4611686018427387904), none, none, some (0, 1000000), some (-9223372036854775808, 9223372036854775807), some (-9223372036854775808, 9223372036854775807), none], [(.c 0), (.f 96 (.c 0) (.c 0) (.c 0)), (.c 0), (.c 0), (.c 0), (.c 0), (.f 95 (.v 7) (.v 8) (.v 1))], 1014⟩ (.br (tk Q0 (.b .max .i64 (.c 0) (.b .min .i64 (.v 5) (.c 1048576)))) (.br (tn Q1 (.c 0)) (.exit 0) (.br (tk Q2
 (.c 0)) (.br Q4 (.back [Q3, (.v 1002), (.v 1003), Q5, (.c 2), Q2, (.v 1007)]) (.bad 303)) (.br (tl (.v 0) Q2) (.br Q4 (.back [Q3, (.v 1002), (.v 1003), Q5, (.c 2), Q2, (.v 1007)]) (.bad 303)) (.br (tl (.c 0) Q2) (.br (tk Q2 (.v 0)) (.new 1009 (t6 (tR Q7 (.c 0))) (.br (te Q8 (.c 0)) (.br Q4 (.back [Q3, (.v 1002), (.v 1003), Q5, (.c 3), Q2, (.v 1007)]) (.bad 303)) (.new 1010 (t6 (tR Q7 (.c 1))) (.new 1011 (t6 (tR Q7 (.c 2))) (.new 1012 (t6 (tR Q7 (.c 3))) (.new 1013 (t6 (tR Q7 (.c 4))) (.br (tl (.c 1) Q8) (.br (tl Q8 (.c 43)) (.br (tl (.c 0) Q9) (.br (tl Q9 (.c 31)) (.br (tl (.c 0) Q10) (.br (tl Q10 (.c 31)) (.br (tl (.c 0) Q11) (.br (tl Q11 (.c 31)) (.br (tl (.c (-32768)) Q12) (.br (tl Q12 (.c 65535)) (.br (tl (.c 0) Q1) (.br (tl Q1 (.c 0)) (.br (tl Q5 (.c 999999)) (.br (.nt (.f 93 Q8 Q9
 (tC Q10 (tC Q11 (tC (.v 1002) (.c 0)))))) (.exit 1) (.br Q4 (.br (tl (.c 0) Q25) (.br (tl Q25 (.c 1000000)) (.back [Q3, (tR Q23 (.c 0)), (tR Q23 (.c 4)), Q25, (t6 (tR Q23 (.c 3))), (t6 (tR Q23 (.c 2))), (tR Q23 (.c 1))]) (.bad 303)) (.bad 303)) (.bad 303))) (.bad 200)) (.bad 200)) (.bad 200)) (.bad 200)) (.bad 200)) (.bad 200)) (.bad 200)) (.bad 200)) (.bad 200)) (.bad 200)) (.bad 200)) (.bad 200)) (.bad 200)))))))) (.bad 200)) (.bad 200))))) (.exit 2)) (.br (te (.v 1014) (.c 0)) (.leaf [Q5, (.v 1003), Q1, Q2, (.c 0)]) (.br (te (.v 1014) (.c 1)) (.leaf [Q5, (.v 1003), Q1, Q2, (.c 12)]) (.leaf [Q5, (.v 1003), Q1, Q2, (.c 0)])))) (.bad 200)) (.bad 200)) (.bad 200)))) (.bad 200)) (.bad 200)) (.bad 200)) (.bad 200)) (.bad 200))
noncomputable def sq0 (y9 y10 y11 y12 y13 b y2 y7 y6 y5 y3 y4 : Int) : Int := (fdoZ y9 y10 (kZ y11 (kZ y12 (kZ y13 (kZ b (kZ y2 (kZ y7 (kZ y6 (kZ y5 (kZ y3 (kZ y4 0)))))))))))
def sL0 (a b c d e j k g f h i z0 z2 z4 z5 z7 z9 : Int) : Prop := (z0 : Int) = (iteZ (Pe (chkZ a b (kZ c (kZ d (kZ e (kZ j (kZ k 0)))))) 0) (W6 (rdZ (ftlZ g a (kZ b (kZ f (kZ h (kZ i 0))))) 1)) 0) ∧ qQt [.int .i64, .int .i64, .int .i64] z2 (rdZ (ftlZ g a (kZ b (kZ f (kZ h (kZ i 0))))) 0) z4 ∧ (z5 : Int) = (iteZ (Pe (chkZ a b (kZ c (kZ d (kZ e (kZ j (kZ k 0)))))) 0) (W6 (rdZ (ftlZ g a (kZ b (kZ f (kZ h (kZ i 0))))) 2)) 0) ∧ (z7 : Int) = (iteZ (Pe (chkZ a b (kZ c (kZ d (kZ e (kZ j (kZ k 0)))))) 0) (W6 (rdZ (ftlZ g a (kZ b (kZ f (kZ h (kZ i 0))))) 3)) 0) ∧ (z9 : Int) = (iteZ (Pe (chkZ a b (kZ c (kZ d (kZ e (kZ j (kZ k 0)))))) 0) (W6 (rdZ (ftlZ g a (kZ b (kZ f (kZ h (kZ i 0))))) 4)) (chkZ a b (kZ c (kZ d (kZ e (kZ j (kZ k 0))))))) ∧ True
def P (a b c d e f g h i j k l n o p q : Int) : Prop :=
 (Pm (PL a l) (Pm (PL b n) (Pm (PL c o) (Pm (PL d p) (Pm (PL e q) (Pn (chkZ a b (kZ c (kZ d (kZ e (kZ j (kZ k 0)))))) 0 9 fun y0 => (Pb (Pd y0 0) (sL0 a b c d e j k g f h i 0 0 0 0 0 y0) (Pm (PL a 16384) (Pm (PL b 2048) (Pm (Pe c b) (∃ I1001 : Int → Int → Int → Int → Int → Int → Int → Nat → Prop, (∃ m, I1001 0 (frg0 0) 0 0 0 0 (frmZ h i b) m) ∧ ∀ y1 y2 y3 y4 y5 y6 y7 : Int, ∀ m1, ((0 ≤ y1 ∧ y1 ≤ 4611686018427387904) ∧ True ∧ True ∧ (0 ≤ y4 ∧ y4 ≤ 1000000) ∧ ((-9223372036854775808) ≤ y5 ∧ y5 ≤ 9223372036854775807) ∧ ((-9223372036854775808) ≤ y6 ∧ y6 ≤ 9223372036854775807) ∧ True ∧ True) → I1001 y1 y2 y3 y4 y5 y6 y7 m1 → (Pb (Pl y1 (maxZ 0 (minZ f 1048576))) (Pb (Pd y5 0) (Pb (Pe (0 : Int) 0) (sL0 a b c d e j k g f h i y4 y3 y4 y5 y6 0) (Pb (Pe (0 : Int) 1) (sL0 a b c d e j k g f h i y4 y3
 y4 y5 y6 12) (sL0 a b c d e j k g f h i y4 y3 y4 y5 y6 0))) (Pb (Pl y6 0) (Pm (PL (y1 + 1) 4611686018427387904) (∃ m', m' < m1 ∧ I1001 (y1 + 1) y2 y3 y4 2 y6 y7 m')) (Pb (PL a y6) (Pm (PL (y1 + 1) 4611686018427387904) (∃ m', m' < m1 ∧ I1001 (y1 + 1) y2 y3 y4 2 y6 y7 m')) (Pm (PL 0 y6) (Pm (Pl y6 a) (Pn (W6 (rdZ (rdZ (insW g a) y6) 0)) (-9223372036854775808) 9223372036854775807 fun y9 => (Pb (Pe y9 0) (Pm (PL (y1 + 1) 4611686018427387904) (∃ m', m' < m1 ∧ I1001 (y1 + 1) y2 y3 y4 3 y6 y7 m')) (Pn (W6 (rdZ (rdZ (insW g a) y6) 1)) (-9223372036854775808) 9223372036854775807 fun y10 => Pn (W6 (rdZ (rdZ (insW g a) y6) 2)) (-9223372036854775808) 9223372036854775807 fun y11 => Pn (W6 (rdZ (rdZ (insW g a) y6) 3)) (-9223372036854775808) 9223372036854775807 fun y12 => Pn (W6 (rdZ (rdZ (insW g a) y6)
 4)) (-9223372036854775808) 9223372036854775807 fun y13 => (Pm (PL 1 y9) (Pm (PL y9 43) (Pm (PL 0 y10) (Pm (PL y10 31) (Pm (PL 0 y11) (Pm (PL y11 31) (Pm (PL 0 y12) (Pm (PL y12 31) (Pm (PL (-32768) y13) (Pm (PL y13 65535) (Pm (PL 0 y5) (Pm (PL y5 0) (Pm (PL y4 999999) (Pb (Pe (ftoZ y9 y10 (kZ y11 (kZ y12 (kZ y2 0)))) 0) (Pb (Pe (1 : Int) 0) (sL0 a b c d e j k g f h i y4 y3 y4 y5 y6 0) (Pb (Pe (1 : Int) 1) (sL0 a b c d e j k g f h i y4 y3 y4 y5 y6 12) (sL0 a b c d e j k g f h i y4 y3 y4 y5 y6 0))) (Pm (PL (y1 + 1) 4611686018427387904) (Pm (PL 0 (W6 (rdZ (sq0 y9 y10 y11 y12 y13 b y2 y7 y6 y5 y3 y4) 5))) (Pm (PL (W6 (rdZ (sq0 y9 y10 y11 y12 y13 b y2 y7 y6 y5 y3 y4) 5)) 1000000) (∃ m', m' < m1 ∧ I1001 (y1 + 1) (rdZ (sq0 y9 y10 y11 y12 y13 b y2 y7 y6 y5 y3 y4) 0) (rdZ (sq0 y9 y10 y11 y12 y13 b
 y2 y7 y6 y5 y3 y4) 4) (W6 (rdZ (sq0 y9 y10 y11 y12 y13 b y2 y7 y6 y5 y3 y4) 5)) (W6 (rdZ (sq0 y9 y10 y11 y12 y13 b y2 y7 y6 y5 y3 y4) 3)) (W6 (rdZ (sq0 y9 y10 y11 y12 y13 b y2 y7 y6 y5 y3 y4) 2)) (rdZ (sq0 y9 y10 y11 y12 y13 b y2 y7 y6 y5 y3 y4) 1) m')))))))))))))))))))))))))) (Pb (Pe (2 : Int) 0) (sL0 a b c d e j k g f h i y4 y3 y4 y5 y6 0) (Pb (Pe (2 : Int) 1) (sL0 a b c d e j k g f h i y4 y3 y4 y5 y6 12) (sL0 a b c d e j k g f h i y4 y3 y4 y5 y6 0)))))))))))))))
set_option maxHeartbeats 4000000 in
theorem holds (n0_0 n0_1 n0_2 n0_3 n0_4 p1 c0_0 c0_1 c0_2 c0_3 c0_4 r0_0 r0_1 r0_2 r0_3 r0_4 : Int) (l_n0_0 : 0 ≤ n0_0) (u_n0_0 : n0_0 ≤ 1000000) (l_n0_1 : 0 ≤ n0_1) (u_n0_1 : n0_1 ≤ 1000000) (l_n0_2 : 0 ≤ n0_2) (u_n0_2 : n0_2 ≤ 1000000) (l_n0_3 : 0 ≤ n0_3) (u_n0_3 : n0_3 ≤ 1000000) (l_n0_4 : 0 ≤ n0_4) (u_n0_4 : n0_4 ≤ 1000000) (l_p1 : -9223372036854775808 ≤ p1) (u_p1 : p1 ≤ 9223372036854775807) (h_n0_0 : n0_0 ≤ r0_0) (h_n0_1 : n0_1 ≤ r0_1) (h_n0_2 : n0_2 ≤ r0_2) (h_n0_3 : n0_3 ≤ r0_3) (h_n0_4 : n0_4 ≤ r0_4) (h_pre0 : qQj (decide (p1  ≤  300)) ≠ 0) : P n0_0 n0_1 n0_2 n0_3 n0_4 p1 c0_0 c0_1 c0_2 c0_3 c0_4 r0_0 r0_1 r0_2 r0_3 r0_4 := by
 delta P sq0 sL0 Pb Pm Pn PL Pl Pe Pd W6 kZ
 have hp : p1 ≤ 300 := by simpa [qQj] using h_pre0
 simp only [nrm, nro, Int.reduceEq, Int.reduceNeg, reduceIte]
 simp only [chk_ev]
 refine ⟨h_n0_0, h_n0_1, h_n0_2, h_n0_3, h_n0_4, ?_⟩
 rintro x rfl -
 refine ⟨fun h => ?_, fun h => ?_⟩
 ·rw [if_neg h, if_neg h, if_neg h, if_neg h]
  exact ⟨rfl, rowEq_nil _ _ _ (Int.le_refl _), rfl, rfl, rfl⟩
 obtain ⟨k1, k2, k3, k4, k5, k6, k7, k8⟩ := chk_zero h
 refine ⟨k1, k2, k5, ?_⟩
 generalize hT : ftlZ c0_0 n0_0 _ = T
 simp only [h, if_true]
 have hM : maxZ 0 (minZ p1 1048576) = if 0 < p1 then p1 else 0 := by
  unfold maxZ minZ; split <;> split <;> (try split) <;> omega
 rw [hM]
 have fin : ∀ {nm mq st pc e : Int}, (nm = IntKind.wrap .i64 (rdZ T 1) ∧ mq = rdZ T 0 ∧ st = IntKind.wrap .i64 (rdZ T 2) ∧ pc = IntKind.wrap .i64 (rdZ T 3) ∧ e = IntKind.wrap .i64 (rdZ T 4)) →
   nm = IntKind.wrap .i64 (rdZ T 1) ∧ qQt [.int .i64, .int .i64, .int .i64] mq (rdZ T 0) nm ∧ st = IntKind.wrap .i64 (rdZ T 2) ∧ pc = IntKind.wrap .i64 (rdZ T 3) ∧ e = IntKind.wrap .i64 (rdZ T 4) := by
  rintro _ _ _ _ _ ⟨h1, rfl, h3⟩
  exact ⟨h1, qQx _ _ _, h3⟩
 refine ⟨fun i rg mq nm st pc rm m => Ft c0_0 n0_0 n0_1 ⟨frgZ 32, frmZ c0_1 c0_2 n0_1, 0, 0, 0, 0⟩ i rg rm pc st mq nm ∧ (i ≤ p1 ∨ i = 0) ∧ m = (p1 - i).toNat,
  ⟨_, ft_nu rfl, .inr rfl, rfl⟩, fun i rg mq nm st pc rm m hb hI => ?_⟩
 obtain ⟨hF, hif, rfl⟩ := hI
 have hi3 : i ≤ 1000000 := by omega
 refine ⟨fun g1 => ?_, fun g1 => fin (ft_end hF (.inr (by split at g1 <;> omega)) hif hi3 hT.symm)⟩
 have g1 : i < p1 := by split at g1 <;> omega
 refine ⟨fun g2 => fin (ft_end hF (.inl g2) hif hi3 hT.symm), fun g2 => ?_⟩
 refine ⟨fun g3 => ⟨by omega, _, ?_, ft_fetch hF g2 (.inl g3), .inl (by omega), rfl⟩, fun g3 => ⟨fun g4 => ⟨by omega, _, ?_, ft_fetch hF g2 (.inr g4), .inl (by omega), rfl⟩, fun g4 => ⟨g3, g4, ?_⟩⟩⟩
 ·omega
 ·omega
 obtain ⟨e0, e1, e2, e3, e4⟩ := ins_rd (w := c0_0) g3 g4
 have hz := decZ_bd (IntKind.wrap .u32 (rdZ c0_0 pc))
 have hw : ∀ j, IntKind.wrap .i64 (decZ (IntKind.wrap .u32 (rdZ c0_0 pc)) j) = decZ (IntKind.wrap .u32 (rdZ c0_0 pc)) j := fun j => w64 (by have := hz j; omega) (by have := hz j; omega)
 rw [e0, e1, e2, e3, e4, hw, hw, hw, hw, hw]
 rintro op hop -
 refine ⟨fun g5 => ⟨by omega, _, ?_, ft_form hF g2 g3 g4 (hop ▸ g5), .inl (by omega), rfl⟩, fun g5 => ?_⟩
 ·omega
 rintro d hd - a ha - b hb' - n hn -
 obtain ⟨q0, q1, q2, q3, q4⟩ := dec_nz (hop ▸ g5)
 rw [← hop] at q0
 rw [← hd] at q1
 rw [← ha] at q2
 rw [← hb'] at q3
 rw [← hn] at q4
 have hnm : nm ≤ i := hF.2.2.2
 refine ⟨q0.1, q0.2, q1.1, by omega, q2.1, by omega, q3.1, by omega, q4.1, q4.2, by omega, by omega, by omega, fun t => fin (ft_stop hF g2 g3 g4 hop hd ha hb' g5 t g1 hi3 hT.symm), fun t => ?_⟩
 have hS := ft_does hF g2 g3 g4 hop hd ha hb' hn g5 t hi3 rfl
 have hN := ft_nm hS
 exact ⟨by omega, hN.1, by omega, _, by omega, hS, .inl (by omega), rfl⟩
theorem plain (i v ro p) : statR 2 rc tree ⟨i, fN, v, ro, p⟩ = P (i 0) (i 1) (i 2) (i 3) (i 4) (i 5) (i 6) (i 7) (i 8) (i 9) (i 10) (i 11) (i 12) (i 13) (i 14) (i 15) := by kernel_rfl
theorem ran : ranR us (fun _ _ => .auto) rc 2 tree = true := by kernel_rfl
theorem fineT : fineR 2 rc tree = true := by kernel_rfl
theorem ok : RcOk (cxOf 2) rc := okR us_ok ran fineT okb fun i v ro p hρ hcap hpre => by rw [plain]; have q := hρ.hi; exact holds _ _ _ _ _ _ _ _ _ _ _ _ _ _ _ _ (q 0 _ rfl).1 (q 0 _ rfl).2 (q 1 _ rfl).1 (q 1 _ rfl).2 (q 2 _ rfl).1 (q 2 _ rfl).2 (q 3 _ rfl).1 (q 3 _ rfl).2 (q 4 _ rfl).1 (q 4 _ rfl).2 (q 5 _ rfl).1 (q 5 _ rfl).2 (hcap _ (mg 0 rfl)) (hcap _ (mg 1 rfl)) (hcap _ (mg 2 rfl)) (hcap _ (mg 3 rfl)) (hcap _ (mg 4 rfl)) (hpre _ (mg 0 rfl))
end CFTell
namespace CAwake25
def rc : Rc := ⟨6, [], [], [], .one, [.bool (.c 1)]⟩
theorem okb : rc.ok = true := by kernel_rfl
noncomputable def us : SMs := fun Γ ins n => smH (cxG n Γ ins) [] (smR (cxG n Γ ins) [CFTell.rc])
theorem us_ok : SMsOk us := fun Γ ins n => qZt (tabsG n Γ ins) (qZv _) (qZn (tabsG n Γ ins) (qQs CFTell.okb (rc_n CFTell.ok) (qZw _)))
def Q0 : E := (tC (.c 0) (.c 0))
def Q1 : E := (tC (.c 0) Q0)
def Q2 : E := (tC (.c 0) Q1)
def Q3 : E := (tC (.c 0) Q2)
def Q4 : E := (tC (.c 1) Q3)
def Q5 : E := (.f 84 (.c 3) (.c 1) Q4)
def Q6 : E := (te Q5 (.c 0))
def Q7 : E := (tC (.c 2885681152) (.c 0))
def Q8 : E := (tC (.c 1344342016) Q7)
def Q9 : E := (tC (.c 2283798528) Q8)
def Q10 : E := (tC (.c 5) (.c 0))
def Q11 : E := (tC (.c 1) (.c 0))
def Q12 : E := (tC Q11 (.c 0))
def Q13 : E := (tC Q10 Q12)
def Q14 : E := (tC (.c 9) Q13)
def Q15 : E := (tC (.c 1) Q14)
def Q16 : E := (.f 97 Q9 (.c 3) Q15)
def Q17 : E := (.cl 1000 (-9223372036854775808) 9223372036854775807)
def tree : TT (List E) :=
 (.new 1000 (.ite Q6 (t6 (tR Q16 (.c 1))) (.c 0)) (.new 1001 (.ite Q6 (t6 (tR Q16 (.c 2))) (.c 0)) (.new 1002 (.ite Q6 (t6 (tR Q16 (.c 3))) (.c 0)) (.new 1003 (.ite Q6 (t6 (tR Q16 (.c 4))) Q5) (.br (tl (.c 0) Q17) (.br (te Q17 (.c 3)) (.br (te (.cl 1001 (-9223372036854775808) 9223372036854775807) (.c 1)) (.br (te (.cl 1002 (-9223372036854775808) 9223372036854775807) (.c 2)) (.br (te (.cl 1003 (-9223372036854775808) 9223372036854775807) (.c 0)) (.br (tk (.c 1) Q17) (.leaf [(te (t6 (tR (tR (tR Q16 (.c 0)) (.c 1)) (.c 2))) (.c 3))]) (.bad 200)) (.leaf [(.c 0)])) (.leaf [(.c 0)])) (.leaf [(.c 0)])) (.leaf [(.c 0)])) (.bad 200))))))
noncomputable def sq0 : Int := (ftlZ (kZ 2283798528 (kZ 1344342016 (kZ 2885681152 0))) 3 (kZ 1 (kZ 9 (kZ (kZ 5 0) (kZ (kZ 1 0) 0)))))
noncomputable def sq1 : Int := (chkZ 3 1 (kZ 1 (kZ 0 (kZ 0 (kZ 0 (kZ 0 0))))))
def P : Prop :=
 Pn (iteZ (Pe sq1 0) (W6 (rdZ sq0 1)) 0) (-9223372036854775808) 9223372036854775807 fun y0 => Pn (iteZ (Pe sq1 0) (W6 (rdZ sq0 2)) 0) (-9223372036854775808) 9223372036854775807 fun y1 => Pn (iteZ (Pe sq1 0) (W6 (rdZ sq0 3)) 0) (-9223372036854775808) 9223372036854775807 fun y2 => Pn (iteZ (Pe sq1 0) (W6 (rdZ sq0 4)) sq1) (-9223372036854775808) 9223372036854775807 fun y3 => (Pm (PL 0 y0) (Pb (Pe y0 3) (Pb (Pe y1 1) (Pb (Pe y2 2) (Pb (Pe y3 0) (Pm (Pl 1 y0) ((((Pe (W6 (rdZ (rdZ (rdZ sq0 0) 1) 2)) 3) : Int) ≠ 0 ↔ (1 : Int) ≠ 0) ∧ True)) Pf) Pf) Pf) Pf))
theorem holds : P := by
 delta P sq0 sq1 Pb Pm Pn Pf PL Pl Pe W6 kZ
 simp only [nrm, nro, Int.reduceEq, Int.reduceNeg, reduceIte]
 simp only [chk_ev, fo_chk]
 generalize hT : ftlZ (qQq 2283798528 (qQq 1344342016 (qQq 2885681152 0))) 3 (qQq 1 (qQq 9 (qQq (qQq 5 0) (qQq (qQq 1 0) 0)))) = T
 obtain ⟨r1, r2, r3, r4, r5⟩ := fo_T (T := T) hT.symm
 simp only [r1, r2, r3, r4, r5, if_true]
 have w0 : IntKind.wrap .i64 0 = 0 := by decide
 have w1 : IntKind.wrap .i64 1 = 1 := by decide
 have w2 : IntKind.wrap .i64 2 = 2 := by decide
 have w3 : IntKind.wrap .i64 3 = 3 := by decide
 simp only [w0, w1, w2, w3]
 rintro _ rfl - _ rfl - _ rfl - _ rfl -
 simp
theorem plain (i v ro p) : statR 2 rc tree ⟨i, fN, v, ro, p⟩ = P  := by kernel_rfl
theorem ran : ranR us (fun _ _ => .auto) rc 2 tree = true := by kernel_rfl
theorem fineT : fineR 2 rc tree = true := by kernel_rfl
theorem ok : RcOk (cxOf 2) rc := okR us_ok ran fineT okb fun i v ro p hρ hcap hpre => by rw [plain]; have q := hρ.hi; exact holds
end CAwake25
end Go.Proofs.YteebeenfggchnaaGreatDoor
