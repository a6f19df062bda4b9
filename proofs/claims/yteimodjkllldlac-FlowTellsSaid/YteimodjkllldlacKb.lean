/-
  What functions of the program answer, as numbers of what they are handed: their runs by the engine, the plain statements behind them. No condition.
-/
import Derived.Test.YteimodjkllldlacGab
import Derived.Test.YteimodjkllldlacGp3
import Derived.Test.YteimodjkllldlacGp4
set_option linter.unusedVariables false
set_option linter.unusedSimpArgs false
set_option maxRecDepth 100000
namespace Go.Proofs.Yteimodjkllldlac
open Go.Eng Go.RowKit
namespace CHDown
def rk : Rk := ⟨47, [(0, 1000000), (0, 1000000)], 3, [.iface 70 (.ptr 0 9), .int .i64 (.c 0), .int .i64 (.v 0)], [.cells [.wild 1, .wild 2, .wild 3, .wild 4, .wild 5, .wild 6, .wild 7, .wild 8, .wild 9, .sl (.own 10) 1 (.c 0) (.v 1) none] 46 none, .gone, .gone, .gone, .gone, .gone, .gone, .gone, .gone, .gone, .arr [.int .i64] 3 (.v 2) (.v 1)], [(.b .le .i64 (.b .padd .i64 (.v 0) (.c 1)) (.v 1))], .bool (.v 1000001), [.cells [.wild 1, .wild 2, .wild 3, .wild 4, .wild 5, .wild 6, .wild 7, .wild 8, .wild 9, .sl (.own 10) 1 (.c 0) (.v 1) none] 46 none, .gone, .gone, .gone, .gone, .gone, .gone, .gone, .gone, .gone, .arr [.int .i64] 3 (.v 1000000) (.v 1)], [.code [.int .i64] (.f 107 (.v 2) (.v 0) (.c 0)) (.v 1), .bool (.b .lt .i64 (.c 0) (.f 108 (.v 2) (.v 0) (.c 0)))], []⟩
theorem okk : rk.ok = true := by kernel_rfl
theorem okh : rk.rh.ok = true := by kernel_rfl
noncomputable def us : SMs := fun Γ ins n => smH (cxG n Γ ins) [] (smR (cxG n Γ ins) [])
theorem us_ok : SMsOk us := fun Γ ins n => qJx (tabsG n Γ ins) (qZc _) (qJj (tabsG n Γ ins) (qZe _))
def Q0 : E := (.cl 1000 (-9223372036854775808) 9223372036854775807)
def Q1 : E := (.b .pmul .i64 (.c 2) Q0)
def Q2 : E := (t6 Q1)
def Q3 : E := (tp Q2 (.c 1))
def Q4 : E := (t6 Q3)
def Q5 : E := (tp Q4 (.c 1))
def Q6 : E := (t6 Q5)
def Q7 : E := (.cl 1003 (-9223372036854775808) 9223372036854775807)
def Q8 : E := (tl (.c 0) Q7)
def Q9 : E := (tk Q7 (.v 1))
def Q10 : E := (.cl 1004 (-9223372036854775808) 9223372036854775807)
def Q11 : E := (tR (.v 1001) Q7)
def Q12 : E := (t6 Q11)
def Q13 : E := (tR (.v 1001) Q10)
def Q14 : E := (t6 Q13)
def Q15 : E := (tl (.c 0) Q0)
def Q16 : E := (tk Q0 (.v 1))
def Q17 : E := (tR (.v 1001) Q0)
def Q18 : E := (t6 Q17)
def Q19 : E := (tk Q12 Q18)
def Q20 : E := (.nt Q19)
def Q21 : E := (.f 14 (.v 1001) Q0 Q12)
def Q22 : E := (.f 14 Q21 Q7 Q18)
def Q23 : E := (tk (.c 0) Q0)
def tree : TT (List E) :=
 (.loop ⟨1000, [some (-9223372036854775808, 9223372036854775807), none], [(.c 0), (.v 2)], 1005⟩ (.br (tl (.v 0) Q4) (.exit 0) (.br (tk Q4 (.c 0)) (.exit 1) (.br (tk Q6 (.v 0)) (.new 1003 Q6 (.new 1004 Q4 (.br Q8 (.br Q9 (.br (tl (.c 0) Q10) (.br (tk Q10 (.v 1)) (.br (tk Q12 Q14) (.br Q15 (.br Q16 (.br Q20 (.exit 2) (.back [Q6, Q22])) (.bad 200)) (.bad 200)) (.br Q15 (.br Q16 (.br (.nt (tk Q14 Q18)) (.exit 3) (.back [Q4, (.f 14 (.f 14 (.v 1001) Q0 Q14) Q10 Q18)])) (.bad 200)) (.bad 200))) (.bad 200)) (.bad 200)) (.bad 200)) (.bad 200)))) (.new 1003 Q4 (.br Q8 (.br Q9 (.br Q15 (.br Q16 (.br Q20 (.exit 4) (.back [Q4, Q22])) (.bad 200)) (.bad 200)) (.bad 200)) (.bad 200)))))) (.br (te (.v 1005) (.c 0)) (.leaf [(.v 1001), Q23]) (.br (te (.v 1005) (.c 1)) (.leaf [(.v 1001), Q23]) (.br (te (.v
 1005) (.c 2)) (.leaf [(.v 1001), Q23]) (.br (te (.v 1005) (.c 3)) (.leaf [(.v 1001), Q23]) (.leaf [(.v 1001), Q23]))))))
def P (a b c : Int) : Prop :=
 ∃ I1000 : Int → Int → Nat → Prop, (∃ m, I1000 0 c m) ∧ ∀ y0 y1 : Int, ∀ m0, (((-9223372036854775808) ≤ y0 ∧ y0 ≤ 9223372036854775807) ∧ True ∧ True) → I1000 y0 y1 m0 → (Pb (PL a (W6 ((W6 (2 * y0)) + 1))) (Pb (Pe (0 : Int) 0) (qQf [.int .i64] y1 (hdnZ c a) b ∧ (((Pl 0 y0) : Int) ≠ 0 ↔ ((Pl 0 (hdnI c a)) : Int) ≠ 0) ∧ True) (Pb (Pe (0 : Int) 1) (qQf [.int .i64] y1 (hdnZ c a) b ∧ (((Pl 0 y0) : Int) ≠ 0 ↔ ((Pl 0 (hdnI c a)) : Int) ≠ 0) ∧ True) (Pb (Pe (0 : Int) 2) (qQf [.int .i64] y1 (hdnZ c a) b ∧ (((Pl 0 y0) : Int) ≠ 0 ↔ ((Pl 0 (hdnI c a)) : Int) ≠ 0) ∧ True) (Pb (Pe (0 : Int) 3) (qQf [.int .i64] y1 (hdnZ c a) b ∧ (((Pl 0 y0) : Int) ≠ 0 ↔ ((Pl 0 (hdnI c a)) : Int) ≠ 0) ∧ True) (qQf [.int .i64] y1 (hdnZ c a) b ∧ (((Pl 0 y0) : Int) ≠ 0 ↔ ((Pl 0 (hdnI c a)) : Int) ≠ 0) ∧ True)))))
 (Pb (Pl (W6 ((W6 (2 * y0)) + 1)) 0) (Pb (Pe (1 : Int) 0) (qQf [.int .i64] y1 (hdnZ c a) b ∧ (((Pl 0 y0) : Int) ≠ 0 ↔ ((Pl 0 (hdnI c a)) : Int) ≠ 0) ∧ True) (Pb (Pe (1 : Int) 1) (qQf [.int .i64] y1 (hdnZ c a) b ∧ (((Pl 0 y0) : Int) ≠ 0 ↔ ((Pl 0 (hdnI c a)) : Int) ≠ 0) ∧ True) (Pb (Pe (1 : Int) 2) (qQf [.int .i64] y1 (hdnZ c a) b ∧ (((Pl 0 y0) : Int) ≠ 0 ↔ ((Pl 0 (hdnI c a)) : Int) ≠ 0) ∧ True) (Pb (Pe (1 : Int) 3) (qQf [.int .i64] y1 (hdnZ c a) b ∧ (((Pl 0 y0) : Int) ≠ 0 ↔ ((Pl 0 (hdnI c a)) : Int) ≠ 0) ∧ True) (qQf [.int .i64] y1 (hdnZ c a) b ∧ (((Pl 0 y0) : Int) ≠ 0 ↔ ((Pl 0 (hdnI c a)) : Int) ≠ 0) ∧ True))))) (Pb (Pl (W6 ((W6 ((W6 (2 * y0)) + 1)) + 1)) a) (Pn (W6 ((W6 ((W6 (2 * y0)) + 1)) + 1)) (-9223372036854775808) 9223372036854775807 fun y3 => Pn (W6 ((W6 (2 * y0)) + 1))
 (-9223372036854775808) 9223372036854775807 fun y4 => (Pm (PL 0 y3) (Pm (Pl y3 b) (Pm (PL 0 y4) (Pm (Pl y4 b) (Pb (Pl (W6 (rdZ y1 y3)) (W6 (rdZ y1 y4))) (Pm (PL 0 y0) (Pm (Pl y0 b) (Pb (Pe (Pl (W6 (rdZ y1 y3)) (W6 (rdZ y1 y0))) 0) (Pb (Pe (2 : Int) 0) (qQf [.int .i64] y1 (hdnZ c a) b ∧ (((Pl 0 y0) : Int) ≠ 0 ↔ ((Pl 0 (hdnI c a)) : Int) ≠ 0) ∧ True) (Pb (Pe (2 : Int) 1) (qQf [.int .i64] y1 (hdnZ c a) b ∧ (((Pl 0 y0) : Int) ≠ 0 ↔ ((Pl 0 (hdnI c a)) : Int) ≠ 0) ∧ True) (Pb (Pe (2 : Int) 2) (qQf [.int .i64] y1 (hdnZ c a) b ∧ (((Pl 0 y0) : Int) ≠ 0 ↔ ((Pl 0 (hdnI c a)) : Int) ≠ 0) ∧ True) (Pb (Pe (2 : Int) 3) (qQf [.int .i64] y1 (hdnZ c a) b ∧ (((Pl 0 y0) : Int) ≠ 0 ↔ ((Pl 0 (hdnI c a)) : Int) ≠ 0) ∧ True) (qQf [.int .i64] y1 (hdnZ c a) b ∧ (((Pl 0 y0) : Int) ≠ 0 ↔ ((Pl 0 (hdnI c a))
 : Int) ≠ 0) ∧ True))))) (∃ m', m' < m0 ∧ I1000 (W6 ((W6 ((W6 (2 * y0)) + 1)) + 1)) (updZ (updZ y1 y0 (W6 (rdZ y1 y3))) y3 (W6 (rdZ y1 y0))) m')))) (Pm (PL 0 y0) (Pm (Pl y0 b) (Pb (Pe (Pl (W6 (rdZ y1 y4)) (W6 (rdZ y1 y0))) 0) (Pb (Pe (3 : Int) 0) (qQf [.int .i64] y1 (hdnZ c a) b ∧ (((Pl 0 y0) : Int) ≠ 0 ↔ ((Pl 0 (hdnI c a)) : Int) ≠ 0) ∧ True) (Pb (Pe (3 : Int) 1) (qQf [.int .i64] y1 (hdnZ c a) b ∧ (((Pl 0 y0) : Int) ≠ 0 ↔ ((Pl 0 (hdnI c a)) : Int) ≠ 0) ∧ True) (Pb (Pe (3 : Int) 2) (qQf [.int .i64] y1 (hdnZ c a) b ∧ (((Pl 0 y0) : Int) ≠ 0 ↔ ((Pl 0 (hdnI c a)) : Int) ≠ 0) ∧ True) (Pb (Pe (3 : Int) 3) (qQf [.int .i64] y1 (hdnZ c a) b ∧ (((Pl 0 y0) : Int) ≠ 0 ↔ ((Pl 0 (hdnI c a)) : Int) ≠ 0) ∧ True) (qQf [.int .i64] y1 (hdnZ c a) b ∧ (((Pl 0 y0) : Int) ≠ 0 ↔ ((Pl 0 (hdnI c a)) :
 Int) ≠ 0) ∧ True))))) (∃ m', m' < m0 ∧ I1000 (W6 ((W6 (2 * y0)) + 1)) (updZ (updZ y1 y0 (W6 (rdZ y1 y4))) y4 (W6 (rdZ y1 y0))) m')))))))))) (Pn (W6 ((W6 (2 * y0)) + 1)) (-9223372036854775808) 9223372036854775807 fun y3 => (Pm (PL 0 y3) (Pm (Pl y3 b) (Pm (PL 0 y0) (Pm (Pl y0 b) (Pb (Pe (Pl (W6 (rdZ y1 y3)) (W6 (rdZ y1 y0))) 0) (Pb (Pe (4 : Int) 0) (qQf [.int .i64] y1 (hdnZ c a) b ∧ (((Pl 0 y0) : Int) ≠ 0 ↔ ((Pl 0 (hdnI c a)) : Int) ≠ 0) ∧ True) (Pb (Pe (4 : Int) 1) (qQf [.int .i64] y1 (hdnZ c a) b ∧ (((Pl 0 y0) : Int) ≠ 0 ↔ ((Pl 0 (hdnI c a)) : Int) ≠ 0) ∧ True) (Pb (Pe (4 : Int) 2) (qQf [.int .i64] y1 (hdnZ c a) b ∧ (((Pl 0 y0) : Int) ≠ 0 ↔ ((Pl 0 (hdnI c a)) : Int) ≠ 0) ∧ True) (Pb (Pe (4 : Int) 3) (qQf [.int .i64] y1 (hdnZ c a) b ∧ (((Pl 0 y0) : Int) ≠ 0 ↔ ((Pl 0 (hdnI c a)) :
 Int) ≠ 0) ∧ True) (qQf [.int .i64] y1 (hdnZ c a) b ∧ (((Pl 0 y0) : Int) ≠ 0 ↔ ((Pl 0 (hdnI c a)) : Int) ≠ 0) ∧ True))))) (∃ m', m' < m0 ∧ I1000 (W6 ((W6 (2 * y0)) + 1)) (updZ (updZ y1 y0 (W6 (rdZ y1 y3))) y3 (W6 (rdZ y1 y0))) m'))))))))))
set_option maxHeartbeats 1000000 in
theorem holds (n nW w : Int) (l_n : 0 ≤ n) (u_n : n ≤ 1000000) (l_nW : 0 ≤ nW) (u_nW : nW ≤ 1000000) (h_pre0 : qQz (decide (n+1 ≤ nW)) ≠ 0) : P n nW w := by
 delta P Pb Pm Pn PL Pl Pe W6
 simp only [nrm, nro, Int.reduceEq, Int.reduceNeg, reduceIte]
 have hn : n + 1 ≤ nW := by simpa [qQz] using h_pre0
 have w2 : ∀ y : Int, 0 ≤ y → y ≤ 1000000 → IntKind.wrap .i64 (IntKind.wrap .i64 (2 * y) + 1) = 2 * y + 1 := fun y y0 y1 => by
  have h : IntKind.wrap .i64 (2 * y) = 2 * y := w64 (by omega) (by omega)
  rw [h, w64 (by omega) (by omega)]
 have w3 : ∀ y : Int, 0 ≤ y → y ≤ 1000000 → IntKind.wrap .i64 (2 * y + 1 + 1) = 2 * y + 2 := fun y y0 y1 => by
  rw [w64 (by omega) (by omega)]; omega
 refine ⟨fun y q m => 0 ≤ y ∧ (y < n ∨ y = 0) ∧ hdnF q n.toNat y.toNat = hdnF w n.toNat 0 ∧ m = (n - y).toNat, ⟨_, by decide, .inr rfl, rfl, rfl⟩, ?_⟩
 rintro y q m - ⟨y0, y1, hq, rfl⟩
 rw [w2 y y0 (by omega), w3 y y0 (by omega)]
 have fin : hdnF q n.toNat y.toNat = (q, y.toNat) → qQf [.int .i64] q (hdnZ w n) nW ∧ (0 < y ↔ 0 < hdnI w n) := fun h => by
  have h1 : hdnZ w n = q := by unfold hdnZ; rw [← hq, h]
  have h2 : hdnI w n = y := by unfold hdnI; rw [← hq, h]; show ((y.toNat : Nat) : Int) = y; omega
  rw [h1, h2]; exact ⟨qJq _ _ _, Iff.rfl⟩
 have hy : ((y.toNat : Nat) : Int) = y := by omega
 have stop : ∀ c : Int, 2 * y + 1 < n → ((hloF q n.toNat y.toNat : Nat) : Int) = c → IntKind.wrap .i64 (rdZ q y) ≤ IntKind.wrap .i64 (rdZ q c) → qQf [.int .i64] q (hdnZ w n) nW ∧ (0 < y ↔ 0 < hdnI w n) := fun c h hc hl =>
  fin (dn_stop (by omega) (by rw [hc, hy]; omega))
 have step : ∀ c : Int, 2 * y + 1 < n → ((hloF q n.toNat y.toNat : Nat) : Int) = c → IntKind.wrap .i64 (rdZ q c) < IntKind.wrap .i64 (rdZ q y) →
   ∃ m', m' < (n - y).toNat ∧ 0 ≤ c ∧ (c < n ∨ c = 0) ∧ hdnF (updZ (updZ q y (IntKind.wrap .i64 (rdZ q c))) c (IntKind.wrap .i64 (rdZ q y))) n.toNat c.toNat = hdnF w n.toNat 0 ∧ m' = (n - c).toNat := fun c h hc hl => by
  obtain ⟨l0, l1⟩ := lo_bd q (i := y.toNat) (n := n.toNat) (by omega)
  have hs := dn_step (q := q) (n := n.toNat) (i := y.toNat) (by omega) (by rw [hc, hy]; exact hl)
  rw [hc, hy] at hs
  refine ⟨_, by omega, by omega, .inl (by omega), ?_, rfl⟩
  rw [← hq, hs, show c.toNat = hloF q n.toNat y.toNat by omega]; rfl
 have lo1 : 2 * y + 2 < n → IntKind.wrap .i64 (rdZ q (2 * y + 2)) < IntKind.wrap .i64 (rdZ q (2 * y + 1)) → ((hloF q n.toNat y.toNat : Nat) : Int) = 2 * y + 2 := fun h g => by
  unfold hloF
  rw [show ((2 * y.toNat + 2 : Nat) : Int) = 2 * y + 2 by omega, show ((2 * y.toNat + 1 : Nat) : Int) = 2 * y + 1 by omega, if_pos ⟨by omega, g⟩]; omega
 have lo2 : ¬ (2 * y + 2 < n ∧ IntKind.wrap .i64 (rdZ q (2 * y + 2)) < IntKind.wrap .i64 (rdZ q (2 * y + 1))) → ((hloF q n.toNat y.toNat : Nat) : Int) = 2 * y + 1 := fun h => by
  unfold hloF
  rw [show ((2 * y.toNat + 2 : Nat) : Int) = 2 * y + 2 by omega, show ((2 * y.toNat + 1 : Nat) : Int) = 2 * y + 1 by omega, if_neg (fun g => h ⟨by omega, g.2⟩)]; omega
 refine ⟨fun g => fin (dn_end (by omega)), fun g => ⟨fun g2 => absurd g2 (by omega), fun _ => ⟨fun g3 => ?_, fun g3 => ?_⟩⟩⟩
 ·rintro _ rfl - _ rfl -
  refine ⟨by omega, by omega, by omega, by omega, fun hl => ⟨y0, by omega, stop _ g (lo1 g3 hl), step _ g (lo1 g3 hl)⟩, fun hl => ⟨y0, by omega, stop _ g (lo2 fun k => by omega), step _ g (lo2 fun k => by omega)⟩⟩
 ·rintro _ rfl -
  exact ⟨by omega, by omega, y0, by omega, stop _ g (lo2 fun k => by omega), step _ g (lo2 fun k => by omega)⟩
theorem plain (i v ro p) : statH 2 rk tree ⟨i, fN, v, ro, p⟩ = P (i 0) (i 1) (i 2) := by kernel_rfl
theorem ran : ranH us (fun _ _ => .auto) rk 2 tree = true := by kernel_rfl
theorem fineT : fineH 2 rk tree = true := by kernel_rfl
theorem ok : RhOk (cxOf 2) rk.rh := okH us_ok ran fineT (by kernel_rfl) okk fun i v ro p hρ hpre => by rw [plain]; have q := hρ.hi; exact holds _ _ _ (q 0 _ rfl).1 (q 0 _ rfl).2 (q 1 _ rfl).1 (q 1 _ rfl).2 (hpre _ (mg 0 rfl))
end CHDown
namespace CHUp
def rk : Rk := ⟨60, [(0, 1000000), (0, 1000000)], 3, [.iface 70 (.ptr 0 9), .int .i64 (.v 0)], [.cells [.wild 1, .wild 2, .wild 3, .wild 4, .wild 5, .wild 6, .wild 7, .wild 8, .wild 9, .sl (.own 10) 1 (.c 0) (.v 1) none] 46 none, .gone, .gone, .gone, .gone, .gone, .gone, .gone, .gone, .gone, .arr [.int .i64] 3 (.v 2) (.v 1)], [(.b .le .i64 (.b .padd .i64 (.v 0) (.c 1)) (.v 1))], .tup [], [.cells [.wild 1, .wild 2, .wild 3, .wild 4, .wild 5, .wild 6, .wild 7, .wild 8, .wild 9, .sl (.own 10) 1 (.c 0) (.v 1) none] 46 none, .gone, .gone, .gone, .gone, .gone, .gone, .gone, .gone, .gone, .arr [.int .i64] 3 (.v 1000000) (.v 1)], [.code [.int .i64] (.f 106 (.v 2) (.v 0) (.c 0)) (.v 1)], []⟩
theorem okk : rk.ok = true := by kernel_rfl
theorem okh : rk.rh.ok = true := by kernel_rfl
noncomputable def us : SMs := fun Γ ins n => smH (cxG n Γ ins) [] (smR (cxG n Γ ins) [])
theorem us_ok : SMsOk us := fun Γ ins n => qJx (tabsG n Γ ins) (qZc _) (qJj (tabsG n Γ ins) (qZe _))
def Q0 : E := (.cl 1000 (-9223372036854775808) 9223372036854775807)
def Q1 : E := (.b .psub .i64 Q0 (.c 1))
def Q2 : E := (t6 Q1)
def Q3 : E := (.b .quo .i64 Q2 (.c 2))
def Q4 : E := (.cl 1003 (-9223372036854775808) 9223372036854775807)
def Q5 : E := (tR (.v 1001) Q0)
def Q6 : E := (t6 Q5)
def Q7 : E := (tR (.v 1001) Q4)
def Q8 : E := (t6 Q7)
def tree : TT (List E) :=
 (.loop ⟨1000, [some (-9223372036854775808, 9223372036854775807), none], [(.v 0), (.v 2)], 1004⟩ (.br (te Q3 Q0) (.exit 0) (.new 1003 Q3 (.br (tl (.c 0) Q0) (.br (tk Q0 (.v 1)) (.br (tl (.c 0) Q4) (.br (tk Q4 (.v 1)) (.br (.nt (tk Q6 Q8)) (.exit 1) (.back [Q3, (.f 14 (.f 14 (.v 1001) Q4 Q6) Q0 Q8)])) (.bad 200)) (.bad 200)) (.bad 200)) (.bad 200)))) (.br (te (.v 1004) (.c 0)) (.leaf [(.v 1001)]) (.leaf [(.v 1001)])))
def P (a b c : Int) : Prop :=
 ∃ I1000 : Int → Int → Nat → Prop, (∃ m, I1000 a c m) ∧ ∀ y0 y1 : Int, ∀ m0, (((-9223372036854775808) ≤ y0 ∧ y0 ≤ 9223372036854775807) ∧ True ∧ True) → I1000 y0 y1 m0 → (Pb (Pe (BO.ev .quo .i64 (W6 (y0 - 1)) 2) y0) (Pb (Pe (0 : Int) 0) (qQf [.int .i64] y1 (hupZ c a) b ∧ True) (qQf [.int .i64] y1 (hupZ c a) b ∧ True)) (Pn (BO.ev .quo .i64 (W6 (y0 - 1)) 2) (-9223372036854775808) 9223372036854775807 fun y3 => (Pm (PL 0 y0) (Pm (Pl y0 b) (Pm (PL 0 y3) (Pm (Pl y3 b) (Pb (Pe (Pl (W6 (rdZ y1 y0)) (W6 (rdZ y1 y3))) 0) (Pb (Pe (1 : Int) 0) (qQf [.int .i64] y1 (hupZ c a) b ∧ True) (qQf [.int .i64] y1 (hupZ c a) b ∧ True)) (∃ m', m' < m0 ∧ I1000 (BO.ev .quo .i64 (W6 (y0 - 1)) 2) (updZ (updZ y1 y3 (W6 (rdZ y1 y0))) y0 (W6 (rdZ y1 y3))) m'))))))))
theorem holds (j nW w : Int) (l_j : 0 ≤ j) (u_j : j ≤ 1000000) (l_nW : 0 ≤ nW) (u_nW : nW ≤ 1000000) (h_pre0 : qQz (decide (j+1 ≤ nW)) ≠ 0) : P j nW w := by
 delta P Pb Pm Pn PL Pl Pe W6
 simp only [nrm, nro, Int.reduceEq, Int.reduceNeg, reduceIte]
 have hj : j + 1 ≤ nW := by simpa [qQz] using h_pre0
 have q0 : BO.ev .quo .i64 (IntKind.wrap .i64 (0 - 1)) 2 = 0 := by decide
 have q1 : ∀ y : Int, 0 < y → y ≤ 1000000 → BO.ev .quo .i64 (IntKind.wrap .i64 (y - 1)) 2 = (((y.toNat - 1) / 2 : Nat) : Int) := fun y y0 y1 => by
  rw [w64 (by omega) (by omega)]
  show IntKind.wrap .i64 ((y - 1).tdiv 2) = _
  rw [Int.tdiv_eq_ediv_of_nonneg (by omega), w64 (by omega) (by omega)]
  omega
 refine ⟨fun y q m => 0 ≤ y ∧ y < nW ∧ hupF q y.toNat = hupZ w j ∧ m = y.toNat, ⟨_, l_j, by omega, rfl, rfl⟩, ?_⟩
 rintro y q m - ⟨y0, y1, hq, rfl⟩
 by_cases e : y = 0
 ·subst e
  rw [q0]
  have hq : q = hupZ w j := by rw [← hq]; exact (up_zero q).symm
  refine ⟨fun _ => ?_, fun g => absurd rfl g⟩
  rw [hq]; exact qJq _ _ _
 ·have hp := q1 y (by omega) (by omega)
  rw [hp]
  refine ⟨fun g => by omega, fun _ => ?_⟩
  rintro p rfl -
  refine ⟨y0, y1, by omega, by omega, fun hl => ?_, fun hl => ?_⟩
  ·have hs := up_stop (q := q) (j := y.toNat) (by omega) (by rw [show ((y.toNat : Nat) : Int) = y by omega]; omega)
   rw [← hq, hs]; exact qJq _ _ _
  ·have hs := up_step (q := q) (j := y.toNat) (by omega) (by rw [show ((y.toNat : Nat) : Int) = y by omega]; exact hl)
   rw [show ((y.toNat : Nat) : Int) = y by omega] at hs
   exact ⟨_, by omega, by omega, by omega, by rw [Int.toNat_natCast, ← hq, hs]; rfl, rfl⟩
theorem plain (i v ro p) : statH 2 rk tree ⟨i, fN, v, ro, p⟩ = P (i 0) (i 1) (i 2) := by kernel_rfl
theorem ran : ranH us (fun _ _ => .auto) rk 2 tree = true := by kernel_rfl
theorem fineT : fineH 2 rk tree = true := by kernel_rfl
theorem ok : RhOk (cxOf 2) rk.rh := okH us_ok ran fineT (by kernel_rfl) okk fun i v ro p hρ hpre => by rw [plain]; have q := hρ.hi; exact holds _ _ _ (q 0 _ rfl).1 (q 0 _ rfl).2 (q 1 _ rfl).1 (q 1 _ rfl).2 (hpre _ (mg 0 rfl))
end CHUp
namespace CLReach
def rk : Rk := ⟨28, [(0, 1000000), (0, 4294967295), (0, 16384), (0, 999999), (0, 16384)], 8, [.ptr 0 0, .int .i64 (.v 0), .int .u32 (.v 1)], [.cells [.wild 1, .wild 2, .wild 3, .wild 4, .wild 5, .sl (.own 8) 5 (.c 0) (.v 2) none, .wild 6, .wild 7, .sl (.own 9) 2 (.c 0) (.v 4) none, .sl (.own 10) 1 (.c 0) (.v 3) none] 46 none, .gone, .gone, .gone, .gone, .gone, .gone, .gone, .arr [.int .i64, .int .i64, .int .i64, .int .i64, .int .i64] 50 (.v 5) (.v 2), .arr [.int .u32, .int .u32] 58 (.v 6) (.v 4), .arr [.int .i64] 3 (.v 7) (.v 3)], [(.b .eq .i64 (.v 4) (.v 2))], .tup [], [.cells [.wild 1, .wild 2, .wild 3, .wild 4, .wild 5, .sl (.own 8) 5 (.c 0) (.v 2) none, .wild 6, .wild 7, .sl (.own 9) 2 (.c 0) (.v 4) none, .sl (.own 11) 1 (.c 0) (.v 1000000) none] 46 none, .gone, .gone, .gone, .gone, .gone, .gone, .gone, .arr [.int .i64, .int .i64, .int .i64, .int .i64, .int .i64] 50 (.v 5) (.v 2), .arr [.int .u32, .int .u32] 58 (.v 1000001) (.v 4), .gone, .arr [.int .i64] 3 (.v 1000002) (.v 1000000)], [.num (.b .padd .i64 (.v 3) (.f 111 (.v 2) (.v 0) (qQs [(.v 1), (.v 6)]))), .code [.int .u32, .int .u32] (.ite (.f 111 (.v 2) (.v 0) (qQs [(.v 1), (.v 6)])) (.f 112 (.v 6) (.v 0) (.v 1)) (.v 6)) (.v 4), .code [.int .i64] (.ite (.f 111 (.v 2) (.v 0) (qQs [(.v 1), (.v 6)])) (.f 106 (.f 14 (.v 7) (.v 3) (.v 0)) (.v 3) (.c 0)) (.v 7)) (.b .padd .i64 (.v 3) (.f 111 (.v 2) (.v 0) (qQs [(.v 1), (.v 6)])))], []⟩
theorem okk : rk.ok = true := by kernel_rfl
theorem okh : rk.rh.ok = true := by kernel_rfl
noncomputable def us : SMs := fun Γ ins n => smH (cxG n Γ ins) [CHUp.rk.rh] (smR (cxG n Γ ins) [])
theorem us_ok : SMsOk us := fun Γ ins n => qJx (tabsG n Γ ins) (qXz CHUp.okh (rh_n CHUp.ok) (qZc _)) (qJj (tabsG n Γ ins) (qZe _))
def Q0 : E := (tR (.v 6) (.v 0))
def Q1 : E := (tR Q0 (.c 1))
def Q2 : E := (.w .u32 Q1)
def Q3 : E := (.b .or .u32 Q2 (.v 1))
def Q4 : E := (tp (.v 3) (.c 1))
def Q5 : E := (.b .psub .i64 Q4 (.c 1))
def tree : TT (List E) :=
 (.br (tl (.v 2) (.v 0)) (.leaf [(.v 3), (.v 6), (.v 7)]) (.br (tk (.v 0) (.v 4)) (.br (.nt (.ite (te (.c 1) (.w .u32 (tR Q0 (.c 0)))) (.ite (te Q3 Q2) (.c 1) (.c 0)) (.c 0))) (.new 1000 Q3 (.br (tl (tp Q5 (.c 1)) Q4) (.leaf [Q4, (.f 14 (.v 6) (.v 0) (tC (.c 1) (tC (.cl 1000 0 4294967295) (.c 0)))), (.f 106 (.f 14 (.v 7) (.v 3) (.v 0)) Q5 (.c 0))]) (.bad 200))) (.leaf [(.v 3), (.v 6), (.v 7)])) (.bad 200)))
def sL0 (d c a b g e h z0 z2 z5 : Int) : Prop := (z0 : Int) = (d + (lrcZ c a (kZ b (kZ g 0)))) ∧ qQf [.int .u32, .int .u32] z2 (iteZ (lrcZ c a (kZ b (kZ g 0))) (lrvZ g a b) g) e ∧ qQf [.int .i64] z5 (iteZ (lrcZ c a (kZ b (kZ g 0))) (hupZ (updZ h d a) d) h) (d + (lrcZ c a (kZ b (kZ g 0)))) ∧ True
def P (a b c d e f g h : Int) : Prop :=
 (Pb (PL c a) (sL0 d c a b g e h d g h) (Pm (Pl a e) (Pb (Pe (iteZ (Pe 1 (U3 (rdZ (rdZ g a) 0))) (iteZ (Pe (bor .u32 (U3 (rdZ (rdZ g a) 1)) b) (U3 (rdZ (rdZ g a) 1))) 1 0) 0) 0) (Pn (bor .u32 (U3 (rdZ (rdZ g a) 1)) b) 0 4294967295 fun y0 => (Pm (PL (((d + 1) - 1) + 1) (d + 1)) (sL0 d c a b g e h (d + 1) (updZ g a (kZ 1 (kZ y0 0))) (hupZ (updZ h d a) ((d + 1) - 1))))) (sL0 d c a b g e h d g h))))
theorem holds (pc s nc nW nV cq v w : Int) (l_pc : 0 ≤ pc) (u_pc : pc ≤ 1000000) (l_s : 0 ≤ s) (u_s : s ≤ 4294967295) (l_nc : 0 ≤ nc) (u_nc : nc ≤ 16384) (l_nW : 0 ≤ nW) (u_nW : nW ≤ 999999) (l_nV : 0 ≤ nV) (u_nV : nV ≤ 16384) (h_pre0 : qQz (nV == nc) ≠ 0) : P pc s nc nW nV cq v w := by
 delta P sL0 Pb Pm Pn PL Pl Pe U3 kZ
 simp only [nrm, nro, Int.reduceEq, Int.reduceNeg, reduceIte]
 rw [bo1] at h_pre0
 have hv : nc = nV := Classical.byContradiction fun g => h_pre0 (if_neg fun k => g k.symm)
 clear h_pre0
 subst hv
 have hb := lrcZ_bd nc pc (qQq s (qQq v 0))
 have no : lrcZ nc pc (qQq s (qQq v 0)) = 0 → nW = nW + lrcZ nc pc (qQq s (qQq v 0)) ∧ qQf [.int .u32, .int .u32] v (if ¬ lrcZ nc pc (qQq s (qQq v 0)) = 0 then lrvZ v pc s else v) nc ∧
   qQf [.int .i64] w (if ¬ lrcZ nc pc (qQq s (qQq v 0)) = 0 then hupZ (updZ w nW pc) nW else w) (nW + lrcZ nc pc (qQq s (qQq v 0))) := fun h => by
  rw [if_neg (fun g => g h), if_neg (fun g => g h)]
  exact ⟨by omega, qJq _ _ _, qJq _ _ _⟩
 refine ⟨fun h => no (Classical.byContradiction fun g => by have := (lrc_one g).1; omega), fun h => ⟨h, fun g => ?_, fun g => no (Classical.byContradiction fun k => g ((lrc_at h).2 k))⟩⟩
 have hl := (lrc_at h).1 g
 rintro _ rfl -
 rw [if_pos hl, if_pos hl]
 refine ⟨by omega, by omega, qJq _ _ _, ?_⟩
 rw [show nW + 1 - 1 = nW by omega]
 exact qJq _ _ _
theorem plain (i v ro p) : statH 2 rk tree ⟨i, fN, v, ro, p⟩ = P (i 0) (i 1) (i 2) (i 3) (i 4) (i 5) (i 6) (i 7) := by kernel_rfl
theorem ran : ranH us (fun _ _ => .auto) rk 2 tree = true := by kernel_rfl
theorem fineT : fineH 2 rk tree = true := by kernel_rfl
theorem ok : RhOk (cxOf 2) rk.rh := okH us_ok ran fineT (by kernel_rfl) okk fun i v ro p hρ hpre => by rw [plain]; have q := hρ.hi; exact holds _ _ _ _ _ _ _ _ (q 0 _ rfl).1 (q 0 _ rfl).2 (q 1 _ rfl).1 (q 1 _ rfl).2 (q 2 _ rfl).1 (q 2 _ rfl).2 (q 3 _ rfl).1 (q 3 _ rfl).2 (q 4 _ rfl).1 (q 4 _ rfl).2 (hpre _ (mg 0 rfl))
end CLReach
namespace CLSecret
def rk : Rk := ⟨48, [(1, 43), (0, 31), (0, 31), (0, 31), (-32768, 65535), (0, 4294967295), (0, 1), (0, 2048)], 10, [.ptr 0 0, .agg [.int .i64 (.v 0), .int .i64 (.v 1), .int .i64 (.v 2), .int .i64 (.v 3), .int .i64 (.v 4)], .int .u32 (.v 5)], [.cells [.wild 1, .wild 2, .sl (.inp 0) 1 (.c 0) (.v 7) (some (.v 9)), .wild 3, .wild 4, .wild 5, .bool (.v 6), .wild 6, .wild 7, .wild 8] 46 none, .gone, .gone, .gone, .gone, .gone, .gone, .gone, .gone], [(.b .padd .i64 (.b .padd .i64 (.b .ne .i64 (.v 0) (.c 34)) (.b .ne .i64 (.v 2) (.c 0))) (.b .pmul .i64 (.b .le .i64 (.c 0) (.v 4)) (.b .lt .i64 (.v 4) (.v 7))))], .tup [.bool (.v 1000000), .bool (.v 1000001)], [.cells [.wild 1, .wild 2, .sl (.inp 0) 1 (.c 0) (.v 7) (some (.v 9)), .wild 3, .wild 4, .wild 5, .bool (.v 6), .wild 6, .wild 7, .wild 8] 46 none, .gone, .gone, .gone, .gone, .gone, .gone, .gone, .gone], [.bool (.f 110 (.v 0) (.v 2) (qQs [(.v 3), (.v 4), (.v 5), (.v 7), (.v 8), (.v 6)])), .bool (.b .padd .i64 (.b .pmul .i64 (.b .le .i64 (.c 1) (.v 0)) (.b .le .i64 (.v 0) (.c 34))) (.b .eq .i64 (.v 0) (.c 40)))], [⟨[.bool], (.v 8), (.v 7), (.v 9), none⟩]⟩
theorem okk : rk.ok = true := by kernel_rfl
theorem okh : rk.rh.ok = true := by kernel_rfl
noncomputable def us : SMs := fun Γ ins n => smH (cxG n Γ ins) [] (smR (cxG n Γ ins) [])
theorem us_ok : SMsOk us := fun Γ ins n => qJx (tabsG n Γ ins) (qZc _) (qJj (tabsG n Γ ins) (qZe _))
def Q0 : E := (.b .shl .u32 (.c 1) (.v 2))
def Q1 : E := (.b .and .u32 (.v 5) Q0)
def Q2 : E := (tn Q1 (.c 0))
def tree : TT (List E) :=
 (.br (tl (.v 0) (.c 30)) (.br (tl (.v 0) (.c 23)) (.leaf [(tn (.b .or .u32 Q1 (.b .and .u32 (.v 5) (.b .shl .u32 (.c 1) (.v 3)))) (.c 0)), (.c 1)]) (.leaf [Q2, (.c 1)])) (.br (te (.v 0) (.c 31)) (.leaf [Q2, (.c 1)]) (.br (te (.v 0) (.c 32)) (.leaf [Q2, (.c 1)]) (.br (te (.v 0) (.c 33)) (.leaf [(.c 0), (.c 1)]) (.br (te (.v 0) (.c 40)) (.leaf [(.c 0), (.c 1)]) (.br (te (.v 0) (.c 34)) (.br (te (.v 2) (.c 0)) (.br (tl (.c 0) (.v 4)) (.br (tk (.v 4) (.v 7)) (.leaf [(tR (.v 8) (.v 4)), (.c 1)]) (.bad 200)) (.bad 200)) (.leaf [(.v 6), (.c 1)])) (.leaf [(.c 0), (.c 0)])))))))
def sL0 (a c d e f h i g z0 z2 : Int) : Prop := ((z0 : Int) ≠ 0 ↔ ((fseZ a c (kZ d (kZ e (kZ f (kZ h (kZ i (kZ g 0))))))) : Int) ≠ 0) ∧ ((z2 : Int) ≠ 0 ↔ ((((PL 1 a) * (PL a 34)) + (Pe a 40)) : Int) ≠ 0) ∧ True
def P (a b c d e f g h i j : Int) : Prop :=
 (Pb (PL a 30) (Pb (PL a 23) (sL0 a c d e f h i g (Pd (bor .u32 (band .u32 f (shlZ .u32 1 c)) (band .u32 f (shlZ .u32 1 d))) 0) 1) (sL0 a c d e f h i g (Pd (band .u32 f (shlZ .u32 1 c)) 0) 1)) (Pb (Pe a 31) (sL0 a c d e f h i g (Pd (band .u32 f (shlZ .u32 1 c)) 0) 1) (Pb (Pe a 32) (sL0 a c d e f h i g (Pd (band .u32 f (shlZ .u32 1 c)) 0) 1) (Pb (Pe a 33) (sL0 a c d e f h i g 0 1) (Pb (Pe a 40) (sL0 a c d e f h i g 0 1) (Pb (Pe a 34) (Pb (Pe c 0) (Pm (PL 0 e) (Pm (Pl e h) (sL0 a c d e f h i g (rdZ i e) 1))) (sL0 a c d e f h i g g 1)) (sL0 a c d e f h i g 0 0)))))))
set_option maxHeartbeats 1000000 in
theorem holds (op d a b n s m nS cS rS : Int) (l_op : 1 ≤ op) (u_op : op ≤ 43) (l_d : 0 ≤ d) (u_d : d ≤ 31) (l_a : 0 ≤ a) (u_a : a ≤ 31) (l_b : 0 ≤ b) (u_b : b ≤ 31) (l_n : -32768 ≤ n) (u_n : n ≤ 65535) (l_s : 0 ≤ s) (u_s : s ≤ 4294967295) (l_m : 0 ≤ m) (u_m : m ≤ 1) (l_nS : 0 ≤ nS) (u_nS : nS ≤ 2048) (h_pre0 : (((qQz (op != 34)) + (qQz (a != 0))) + ((qQz (decide (0 ≤ n))) * (qQz (decide (n < nS))))) ≠ 0) : P op d a b n s m nS cS rS := by
 delta P sL0 Pb Pm PL Pl Pe Pd kZ
 simp only [nrm, nro, Int.reduceEq, Int.reduceNeg, reduceIte]
 have hp : qQz (decide (1 ≤ op)) * qQz (decide (op ≤ 34)) + qQz (op == 40) = 0 ↔ ¬ (op ≤ 34 ∨ op = 40) := by
  rw [bo2, bo2, bo1]
  (repeat' split) <;> omega
 have hpre : op ≠ 34 ∨ a ≠ 0 ∨ 0 ≤ n ∧ n < nS := by
  have h := h_pre0
  rw [bo2] at h
  unfold qQz at h
  by_cases e1 : op = 34
  ·by_cases e2 : a = 0
   ·simp [e1, e2] at h; omega
   ·exact .inr (.inl e2)
  ·exact .inl e1
 clear h_pre0
 simp only [hp, band_one l_a (show a < 32 by omega), bor_two l_a (show a < 32 by omega) l_b (show b < 32 by omega), fse_zero]
 obtain ⟨A, hA⟩ := num_of (bitP s a)
 obtain ⟨B, hB⟩ := num_of (bitP s b)
 simp only [hA, hB]
 clear hA hB hp
 generalize rdZ cS n = N
 repeat' (first | refine And.intro (fun _ => ?_) (fun _ => ?_) | fail)
 all_goals first
  | (exfalso; omega)
  | exact ⟨by omega, by omega⟩
  | exact ⟨by omega, by omega, by omega, by omega⟩
  | trace_state
theorem plain (i v ro p) : statH 2 rk tree ⟨i, fN, v, ro, p⟩ = P (i 0) (i 1) (i 2) (i 3) (i 4) (i 5) (i 6) (i 7) (i 8) (i 9) := by kernel_rfl
theorem ran : ranH us (fun _ _ => .auto) rk 2 tree = true := by kernel_rfl
theorem fineT : fineH 2 rk tree = true := by kernel_rfl
theorem ok : RhOk (cxOf 2) rk.rh := okH us_ok ran fineT (by kernel_rfl) okk fun i v ro p hρ hpre => by rw [plain]; have q := hρ.hi; exact holds _ _ _ _ _ _ _ _ _ _ (q 0 _ rfl).1 (q 0 _ rfl).2 (q 1 _ rfl).1 (q 1 _ rfl).2 (q 2 _ rfl).1 (q 2 _ rfl).2 (q 3 _ rfl).1 (q 3 _ rfl).2 (q 4 _ rfl).1 (q 4 _ rfl).2 (q 5 _ rfl).1 (q 5 _ rfl).2 (q 6 _ rfl).1 (q 6 _ rfl).2 (q 7 _ rfl).1 (q 7 _ rfl).2 (hpre _ (mg 0 rfl))
end CLSecret
end Go.Proofs.Yteimodjkllldlac
